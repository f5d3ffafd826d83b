import PyProof.Rows.All
import Wide.All
import OpenK.AllK
import Wide.FinOn
import HandS.Base
import HandS.Call
import HandS.List
import HandS.Comp
import HandS.Ends
import HandS.Words
import HandS.WordsList
import HandS.Defaults
import HandS.Iter
import HandS.Walk
import HandS.Wide
import HandS.Gcd
import HandS.IsInst
import HandS.TupAny
import HandS.Deep
import HandS.Text
import HandS.Style
import HandS.Zip
import KE.GoesNew
import KE.KStateDown
import HandS.More
import HandS.WordsExc
import HandS.Head0
import HandS.Head1
import HandS.Head2
import HandS.Head3
import HandS.HeadEnd
import HandS.HeadHook1
import HandS.HeadHook2
import PySem.Challenge.RW_latestshake_k29_whole_polygons_beside_br
section
set_option Elab.async false
set_option linter.all false
set_option autoImplicit false
set_option maxRecDepth 100000
/-! Ev: values as trees, what stands for them in the heap, states of a def's body. -/
namespace Ev
open PySem PySem.Spec PyProof.Rows L2
abbrev Dt := PyData
/-! ### a value stands for a tree -/
mutual
inductive Rp (K : PySem.W.Frag) (H : Hp) : V → Dt → Prop
  | non : Rp K H .non .none
  | bl (b : Bool) : Rp K H (.bl b) (.bool b)
  | int (i : Int) : Rp K H (.int i) (.int i)
  | str (x : Str) : PyData.strOk x = true → x.length ≤ sizeLine → Rp K H (.str x) (.str x)
  | lst {a : Addr} {xs : List V} {ds : List Dt} : H a = some (.lst xs) → xs.length ≤ sizeLine → RpA K H xs ds → Rp K H (.ref a) (.list ds)
  | tup {a : Addr} {xs : List V} {ds : List Dt} : SqT K H a xs → xs.length ≤ sizeLine → RpA K H xs ds → Rp K H (.ref a) (.tuple ds)
inductive RpA (K : PySem.W.Frag) (H : Hp) : List V → List Dt → Prop
  | nil : RpA K H [] []
  | cons {v : V} {vs : List V} {d : Dt} {ds : List Dt} : Rp K H v d → RpA K H vs ds → RpA K H (v :: vs) (d :: ds)
end
section
variable {K : PySem.W.Frag} {H H' : Hp}
theorem seqT {a : Addr} {xs : List V} (s : Same H H') (h : SqT K H a xs) : SqT K H' a xs := by
  rcases h with (h | ⟨o, h⟩) | h
  · exact .inl (.inl (s _ _ h))
  · exact .inl (.inr ⟨o, s _ _ h⟩)
  · exact .inr h
mutual
theorem Rp.mono (s : Same H H') : ∀ {d : Dt} {v : V}, Rp K H v d → Rp K H' v d
  | _, _, .non => .non
  | _, _, .bl b => .bl b
  | _, _, .int i => .int i
  | _, _, .str x a b => .str x a b
  | _, _, .lst h z t => .lst (s _ _ h) z (RpA.mono s t)
  | _, _, .tup h z t => .tup (seqT s h) z (RpA.mono s t)
theorem RpA.mono (s : Same H H') : ∀ {ds : List Dt} {vs : List V}, RpA K H vs ds → RpA K H' vs ds
  | _, _, .nil => .nil
  | _, _, .cons r t => .cons (Rp.mono s r) (RpA.mono s t)
end
mutual
theorem Rp.dp : ∀ {d : Dt} {v : V}, Rp K H v d → Dp K H v d
  | _, _, .non => .non
  | _, _, .bl b => .bl b
  | _, _, .int i => .int i
  | _, _, .str x _ _ => .str x
  | _, _, .lst h _ t => .lst (.of h) (RpA.dp t)
  | _, _, .tup h _ t => .tup h (RpA.dp t)
theorem RpA.dp : ∀ {ds : List Dt} {vs : List V}, RpA K H vs ds → DpAll K H vs ds
  | _, _, .nil => .nil
  | _, _, .cons r t => .cons (Rp.dp r) (RpA.dp t)
end
mutual
theorem Rp.lay : ∀ {d : Dt} {v : V}, Rp K H v d → d.canLay0 = true
  | _, _, .non => rfl
  | _, _, .bl b => rfl
  | _, _, .int i => rfl
  | _, _, .str x h _ => by
    simp only [PyData.canLay0]
    exact h
  | _, _, .lst _ _ t => by
    simp only [PyData.canLay0]
    exact RpA.lay t
  | _, _, .tup _ _ t => by
    simp only [PyData.canLay0]
    exact RpA.lay t
theorem RpA.lay : ∀ {ds : List Dt} {vs : List V}, RpA K H vs ds → PyData.canLayAll0 ds = true
  | _, _, .nil => rfl
  | _, _, .cons r t => by
    simp only [PyData.canLayAll0, Rp.lay r, RpA.lay t, Bool.and_self]
end
theorem RpA.length : ∀ {vs : List V} {ds : List Dt}, RpA K H vs ds → vs.length = ds.length
  | _, _, .nil => rfl
  | _, _, .cons _ t => congrArg (· + 1) t.length
theorem RpA.get : ∀ {vs : List V} {ds : List Dt} {i : Nat} {d : Dt}, RpA K H vs ds → ds[i]? = some d → ∃ v, vs[i]? = some v ∧ Rp K H v d
  | _, _, _, _, .nil, e => by simp at e
  | _, _, 0, _, .cons r _, e => by
    simp at e
    subst e
    exact ⟨_, rfl, r⟩
  | _, _, i + 1, d, .cons _ t, e => by
    obtain ⟨v, h1, h2⟩ := RpA.get (i := i) (d := d) t (by simpa using e)
    exact ⟨v, by simpa using h1, h2⟩
theorem RpA.app : ∀ {vs ws : List V} {ds es : List Dt}, RpA K H vs ds → RpA K H ws es → RpA K H (vs ++ ws) (ds ++ es)
  | _, _, _, _, .nil, s => s
  | _, _, _, _, .cons r t, s => .cons r (RpA.app t s)
theorem RpA.take : ∀ {vs : List V} {ds : List Dt} (n : Nat), RpA K H vs ds → RpA K H (vs.take n) (ds.take n)
  | _, _, 0, _ => .nil
  | _, _, _ + 1, .nil => .nil
  | _, _, n + 1, .cons r t => .cons r (RpA.take n t)
theorem RpA.drop : ∀ {vs : List V} {ds : List Dt} (n : Nat), RpA K H vs ds → RpA K H (vs.drop n) (ds.drop n)
  | _, _, 0, r => r
  | _, _, _ + 1, .nil => .nil
  | _, _, n + 1, .cons _ t => RpA.drop n t
theorem RpA.set {v : V} {d : Dt} (r : Rp K H v d) : ∀ {vs : List V} {ds : List Dt} (i : Nat), RpA K H vs ds → RpA K H (vs.set i v) (ds.set i d)
  | _, _, _, .nil => .nil
  | _, _, 0, .cons _ t => .cons r t
  | _, _, i + 1, .cons q t => .cons q (RpA.set r i t)
theorem RpA.erase : ∀ {vs : List V} {ds : List Dt} (i : Nat), RpA K H vs ds → RpA K H (vs.eraseIdx i) (ds.eraseIdx i)
  | _, _, _, .nil => .nil
  | _, _, 0, .cons _ t => t
  | _, _, i + 1, .cons q t => .cons q (RpA.erase i t)
end
/-! ### what is owned -/
/-- the heap without what is owned -/
noncomputable def hid (O : Addr → Prop) (H : Hp) : Hp := fun a => open Classical in if O a then none else H a
theorem hid_some {O : Addr → Prop} {H : Hp} {a : Addr} {o : HO} : hid O H a = some o ↔ ¬ O a ∧ H a = some o := by
  unfold hid
  by_cases h : O a
  · rw [if_pos h]
    exact ⟨fun e => (nomatch e), fun e => absurd h e.1⟩
  · rw [if_neg h]
    exact ⟨fun e => ⟨h, e⟩, fun e => e.2⟩
theorem hid_same {O : Addr → Prop} {H : Hp} : Same (hid O H) H := fun a o e => (hid_some.mp e).2
abbrev Rep (K : PySem.W.Frag) (O : Addr → Prop) (H : Hp) (v : V) (d : Dt) : Prop := Rp K (hid O H) v d
abbrev Reps (K : PySem.W.Frag) (O : Addr → Prop) (H : Hp) (vs : List V) (ds : List Dt) : Prop := RpA K (hid O H) vs ds
/-- what is not owned stays, and is not owned -/
def Ext (O : Addr → Prop) (H : Hp) (O' : Addr → Prop) (H' : Hp) : Prop := ∀ a o, H a = some o → ¬ O a → H' a = some o ∧ ¬ O' a
theorem Ext.refl {O : Addr → Prop} {H : Hp} : Ext O H O H := fun _ _ h n => ⟨h, n⟩
theorem Ext.trans {O O1 O2 : Addr → Prop} {H H1 H2 : Hp} (a : Ext O H O1 H1) (b : Ext O1 H1 O2 H2) : Ext O H O2 H2 := fun x o h n =>
  let ⟨h1, n1⟩ := a x o h n
  b x o h1 n1
theorem Ext.hid {O O' : Addr → Prop} {H H' : Hp} (e : Ext O H O' H') : Same (hid O H) (hid O' H') := fun a o h =>
  let ⟨n, q⟩ := hid_some.mp h
  let ⟨q', n'⟩ := e a o q n
  hid_some.mpr ⟨n', q'⟩
theorem Ext.rep {K : PySem.W.Frag} {O O' : Addr → Prop} {H H' : Hp} (e : Ext O H O' H') {v : V} {d : Dt} (r : Rep K O H v d) : Rep K O' H' v d := r.mono e.hid
theorem Ext.reps {K : PySem.W.Frag} {O O' : Addr → Prop} {H H' : Hp} (e : Ext O H O' H') {v : List V} {d : List Dt} (r : Reps K O H v d) : Reps K O' H' v d := r.mono e.hid
theorem Rep.all {K : PySem.W.Frag} {O : Addr → Prop} {H : Hp} {v : V} {d : Dt} (r : Rep K O H v d) : Rp K H v d := r.mono hid_same
theorem Reps.all {K : PySem.W.Frag} {O : Addr → Prop} {H : Hp} {v : List V} {d : List Dt} (r : Reps K O H v d) : RpA K H v d := r.mono hid_same
/-- a smaller O' -/
theorem hid_anti {O O' : Addr → Prop} {H : Hp} (h : ∀ a, O' a → O a) : Same (hid O H) (hid O' H) := fun a o e =>
  let ⟨n, q⟩ := hid_some.mp e
  hid_some.mpr ⟨fun z => n (h a z), q⟩
/-! ### states of a body -/
/-- a slot: a tree; a list of one's own that may be changed; the jar -/
inductive Sl where
  | d (x : Dt)
  | own (xs : List Dt)
  | jar
  | scr (ns : List Int)
abbrev Rg := List (Option Sl)
abbrev Jr := List Int
/-- constants of a body: the jar's address, what is owned around, the heap at the entry -/
structure Cn where
  pj : Option Addr
  O0 : Addr → Prop
  He : Hp
def SlOk (K : PySem.W.Frag) (C : Cn) (O : Addr → Prop) (H : Hp) (v : Option (Option V)) : Sl → Prop
  | .d x => ∃ u, v = some (some u) ∧ Rep K O H u x
  | .own xs => ∃ p vs, v = some (some (.ref p)) ∧ H p = some (.lst vs) ∧ vs.length ≤ sizeLine ∧ O p ∧ ¬ C.O0 p ∧ C.He p = none ∧ C.pj ≠ some p ∧ Reps K O H vs xs
  | .jar => ∃ p, C.pj = some p ∧ v = some (some (.ref p))
  | .scr ns => ∃ a, v = some (some (.ref a)) ∧ SqL K C.He a (ns.map V.int) ∧ C.pj ≠ some a ∧ ns.length ≤ sizeLine
def jarV (j : Jr) : HO := .lst (j.map V.int)
structure Rel (K : PySem.W.Frag) (C : Cn) (O : Addr → Prop) (σ : L2.St) (H : Hp) (r : Rg) (j : Jr) : Prop where
  sub : ∀ a, C.O0 a → O a
  dom : ∀ a, O a → H a ≠ none
  grow : ∀ a o, C.He a = some o → C.pj ≠ some a → H a = some o
  jar : ∀ p, C.pj = some p → C.O0 p ∧ H p = some (jarV j)
  sl : ∀ (i : Nat) s, r[i]? = some (some s) → SlOk K C O H σ[i]? s
  inj : ∀ (i k : Nat) p xs ys, r[i]? = some (some (.own xs)) → r[k]? = some (some (.own ys)) → σ[i]? = some (some (.ref p)) → σ[k]? = some (some (.ref p)) → i = k
  len : σ.length = r.length
/-- all that was tracked stays, but the jar -/
def Keep (C : Cn) (H H' : Hp) : Prop := ∀ a o, H a = some o → C.pj ≠ some a → H' a = some o
def JarIs (C : Cn) (H : Hp) (j : Jr) : Prop := ∀ p, C.pj = some p → H p = some (jarV j)
theorem Keep.refl {C : Cn} {H : Hp} : Keep C H H := fun _ _ h _ => h
theorem Keep.trans {C : Cn} {H H1 H2 : Hp} (a : Keep C H H1) (b : Keep C H1 H2) : Keep C H H2 := fun x o h n => b x o (a x o h n) n
theorem Keep.of {C : Cn} {H H' : Hp} (s : Same H H') : Keep C H H' := fun a o h _ => s a o h
section
variable {K : PySem.W.Frag} {C : Cn} {O : Addr → Prop} {σ : L2.St} {H H' : Hp} {r : Rg} {j j' : Jr}
theorem Rel.notJar (R : Rel K C O σ H r j) {a : Addr} (n : ¬ O a) : C.pj ≠ some a := fun e => n (R.sub a (R.jar a e).1)
theorem Rel.jarIs (R : Rel K C O σ H r j) : JarIs C H j := fun p e => (R.jar p e).2
theorem Rel.ext (R : Rel K C O σ H r j) (k : Keep C H H') : Ext O H O H' := fun a o h n => ⟨k a o h (R.notJar n), n⟩
theorem Rel.keep (R : Rel K C O σ H r j) (k : Keep C H H') (q : JarIs C H' j') : Rel K C O σ H' r j' := by
  refine ⟨R.sub, fun a h => ?_, fun a o h n => k a o (R.grow a o h n) n, fun p e => ⟨(R.jar p e).1, q p e⟩, fun i s e => ?_, R.inj, R.len⟩
  · cases e : H a with
    | none => exact absurd e (R.dom a h)
    | some o =>
      by_cases n : C.pj = some a
      · rw [q a n]
        exact fun z => nomatch z
      · rw [k a o e n]
        exact fun z => nomatch z
  · have h := R.sl i s e
    cases s with
    | d x =>
      obtain ⟨u, e1, rp⟩ := h
      exact ⟨u, e1, (R.ext k).rep rp⟩
    | own xs =>
      obtain ⟨p, vs, e1, e2, z, op, n0, he, np, rp⟩ := h
      exact ⟨p, vs, e1, k _ _ e2 np, z, op, n0, he, np, (R.ext k).reps rp⟩
    | jar => exact h
    | scr ns => exact h
theorem Rel.fresh (R : Rel K C O σ H r j) {p : Addr} (h : H p = none) : ¬ O p := fun o => R.dom p o h
theorem same_upd {p : Addr} {o : HO} (h : H p = none) : Same H (upd H p o) := fun b x e => by
  rw [upd_ne (ne_of_none e h)]
  exact e
theorem JarIs.same (s : Same H H') (q : JarIs C H j) : JarIs C H' j := fun p e => s _ _ (q p e)
end
end Ev
end
section
set_option Elab.async false
set_option linter.all false
set_option autoImplicit false
set_option maxRecDepth 100000
/-! Ev: expressions. -/
namespace Ev
open PySem PySem.Spec PyProof.Rows L2
/-- what an expression means: the slots, the jar in, a value and the jar out -/
abbrev M (α : Type) := Rg → Jr → Option (α × Jr)
/-- v is seen as d: it stands for it, or is a list that is read (one's own, the script) -/
def View (K : PySem.W.Frag) (C : Cn) (O : Addr → Prop) (H : Hp) (v : V) (d : Dt) : Prop :=
  Rep K O H v d ∨ ∃ a vs ds, v = .ref a ∧ d = .list ds ∧ SqL K H a vs ∧ C.pj ≠ some a ∧ vs.length ≤ sizeLine ∧ Reps K O H vs ds
section
variable {K : PySem.W.Frag} {C : Cn} {O : Addr → Prop} {H H' : Hp} {v : V} {d : Dt}
theorem keepL {a : Addr} {vs : List V} (k : Keep C H H') (n : C.pj ≠ some a) (h : SqL K H a vs) : SqL K H' a vs := by
  rcases h with (h | ⟨o, h⟩) | h
  · exact .inl (.inl (k _ _ h n))
  · exact .inl (.inr ⟨o, k _ _ h n⟩)
  · exact .inr h
theorem View.keep {σ : L2.St} {r : Rg} {j : Jr} (R : Rel K C O σ H r j) (k : Keep C H H') (h : View K C O H v d) : View K C O H' v d := by
  rcases h with h | ⟨a, vs, ds, e1, e2, h, n, z, rp⟩
  · exact .inl ((R.ext k).rep h)
  · exact .inr ⟨a, vs, ds, e1, e2, keepL k n h, n, z, (R.ext k).reps rp⟩
theorem View.rp (h : View K C O H v d) : Rp K H v d ∨ ∃ a vs ds, v = .ref a ∧ d = .list ds ∧ SqL K H a vs ∧ vs.length ≤ sizeLine ∧ RpA K H vs ds := by
  rcases h with h | ⟨a, vs, ds, e1, e2, h, n, z, rp⟩
  · exact .inl h.all
  · exact .inr ⟨a, vs, ds, e1, e2, h, z, rp.mono hid_same⟩
theorem View.dp (h : View K C O H v d) : Dp K H v d ∧ d.canLay0 = true := by
  rcases h.rp with h | ⟨a, vs, ds, rfl, rfl, h, z, rp⟩
  · exact ⟨h.dp, h.lay⟩
  · refine ⟨.lst h rp.dp, ?_⟩
    simp only [PyData.canLay0]
    exact rp.lay
theorem sqL_hid {a : Addr} {vs : List V} (h : SqL K (hid O H) a vs) : SqL K H a vs := hid_same.seq h
theorem sqT_hid {a : Addr} {vs : List V} (h : SqT K (hid O H) a vs) : SqT K H a vs := seqT hid_same h
theorem View.list {ds : List Dt} (h : View K C O H v (.list ds)) : ∃ a vs, v = .ref a ∧ SqL K H a vs ∧ vs.length ≤ sizeLine ∧ Reps K O H vs ds := by
  rcases h with h | ⟨a, vs, ds', e1, e2, h, n, z, rp⟩
  · cases h with
    | lst h z rp => exact ⟨_, _, rfl, .of (hid_some.mp h).2, z, rp⟩
  · cases e2
    exact ⟨a, vs, e1, h, z, rp⟩
theorem View.tup {ds : List Dt} (h : View K C O H v (.tuple ds)) : ∃ a vs, v = .ref a ∧ SqT K H a vs ∧ vs.length ≤ sizeLine ∧ Reps K O H vs ds := by
  rcases h with h | ⟨a, vs, ds', e1, e2, h, n, z, rp⟩
  · cases h with
    | tup h z rp => exact ⟨_, _, rfl, sqT_hid h, z, rp⟩
  · cases e2
theorem View.flat (h : View K C O H v d) (n : ∀ ds, d ≠ .list ds) : Rep K O H v d := by
  rcases h with h | ⟨a, vs, ds, e1, e2, _⟩
  · exact h
  · exact absurd e2 (n ds)
theorem rep_tup {ds : List Dt} (h : Rep K O H v (.tuple ds)) : ∃ a vs, v = .ref a ∧ SqT K H a vs ∧ vs.length ≤ sizeLine ∧ Reps K O H vs ds := View.tup (C := ⟨none, O, H⟩) (Or.inl h)
/-- a new tuple, a new list -/
theorem rep_newT {p : Addr} {vs : List V} {ds : List Dt} (n : ¬ O p) (hn : H p = none) (z : vs.length ≤ sizeLine) (h : Reps K O H vs ds) : Rep K O (upd H p (.tup vs)) (.ref p) (.tuple ds) :=
  Rp.tup (.inl (.inl (hid_some.mpr ⟨n, upd_same⟩))) z (h.mono fun a o e => let ⟨m, q⟩ := hid_some.mp e; hid_some.mpr ⟨m, same_upd hn _ _ q⟩)
theorem rep_newL {p : Addr} {vs : List V} {ds : List Dt} (n : ¬ O p) (hn : H p = none) (z : vs.length ≤ sizeLine) (h : Reps K O H vs ds) : Rep K O (upd H p (.lst vs)) (.ref p) (.list ds) :=
  Rp.lst (hid_some.mpr ⟨n, upd_same⟩) z (h.mono fun a o e => let ⟨m, q⟩ := hid_some.mp e; hid_some.mpr ⟨m, same_upd hn _ _ q⟩)
end
def tEV (K : PySem.W.Frag) (C : Cn) (f : M Dt) : TE := fun σ H Q => ∃ O r j d j', Rel K C O σ H r j ∧ f r j = some (d, j') ∧ ∀ v H', Keep C H H' → JarIs C H' j' → Rep K O H' v d → Q v H'
def tEL (K : PySem.W.Frag) (C : Cn) (f : M Dt) : TE := fun σ H Q => ∃ O r j d j', Rel K C O σ H r j ∧ f r j = some (d, j') ∧ ∀ v H', Keep C H H' → JarIs C H' j' → View K C O H' v d → Q v H'
def tET (K : PySem.W.Frag) (C : Cn) (f : M Bool) : TT := fun σ H Q => ∃ O r j b j', Rel K C O σ H r j ∧ f r j = some (b, j') ∧ ∀ H', Keep C H H' → JarIs C H' j' → Q b H'
def tEA (K : PySem.W.Frag) (C : Cn) (f : M (List Dt)) : TA := fun σ H Q => ∃ O r j ds j', Rel K C O σ H r j ∧ f r j = some (ds, j') ∧ ∀ vs H', Keep C H H' → JarIs C H' j' → Reps K O H' vs ds → Q vs H'
structure EV (X : Cx) (C : Cn) (e : Expr) (f : M Dt) : Prop where
  pe : PE X e (tEV X.K C f)
structure EL (X : Cx) (C : Cn) (e : Expr) (f : M Dt) : Prop where
  pe : PE X e (tEL X.K C f)
structure ET (X : Cx) (C : Cn) (e : Expr) (f : M Bool) : Prop where
  pt : PT X e (tET X.K C f)
structure EA (X : Cx) (C : Cn) (es : List Expr) (f : M (List Dt)) : Prop where
  pa : PA X es (tEA X.K C f)
section
variable {X : Cx} {e : Expr} {es : List Expr}
theorem pe_weak {t t' : TE} (h : PE X e t) (w : ∀ σ H Q, t' σ H Q → t σ H Q) : PE X e t' := ⟨fun pins s σ H Q I q => h.run pins s σ H Q I (w σ H Q q)⟩
theorem pt_weak {t t' : TT} (h : PT X e t) (w : ∀ σ H Q, t' σ H Q → t σ H Q) : PT X e t' := ⟨fun pins s σ H Q I q => h.run pins s σ H Q I (w σ H Q q)⟩
theorem pa_weak {t t' : TA} (h : PA X es t) (w : ∀ σ H Q, t' σ H Q → t σ H Q) : PA X es t' := ⟨fun pos pins s σ H Q I q => h.run pos pins s σ H Q I (w σ H Q q)⟩
end
/-! ### combinators of meanings -/
def mVar (i : Nat) : M Dt := fun r j => match r[i]? with
  | some (some (.d x)) => some (x, j)
  | _ => none
def mOwn (i : Nat) : M Dt := fun r j => match r[i]? with
  | some (some (.own xs)) => some (.list xs, j)
  | _ => none
def mC (d : Dt) : M Dt := fun _ j => some (d, j)
def mNo : M Dt := fun _ _ => none
def mBin (op : Dt → Dt → Option Dt) (fa fb : M Dt) : M Dt := fun r j => (fa r j).bind fun p => (fb r p.2).bind fun q => (op p.1 q.1).map fun z => (z, q.2)
def mUn (op : Dt → Option Dt) (fa : M Dt) : M Dt := fun r j => (fa r j).bind fun p => (op p.1).map fun z => (z, p.2)
def asB : Dt → Option Bool
  | .bool b => some b
  | _ => none
def mTst (fa : M Dt) : M Bool := fun r j => (fa r j).bind fun p => (asB p.1).map fun z => (z, p.2)
def mIf {α : Type} (c : M Bool) (a b : M α) : M α := fun r j => (c r j).bind fun p => if p.1 = true then a r p.2 else b r p.2
def mNot (c : M Bool) : M Bool := fun r j => (c r j).map fun p => (!p.1, p.2)
def mAnd (a b : M Bool) : M Bool := fun r j => (a r j).bind fun p => if p.1 = true then b r p.2 else some (false, p.2)
def mOr (a b : M Bool) : M Bool := fun r j => (a r j).bind fun p => if p.1 = true then some (true, p.2) else b r p.2
/-- .. as values -/
def mAndV (a b : M Dt) : M Dt := fun r j => (mTst a r j).bind fun p => if p.1 = true then b r p.2 else some (.bool false, p.2)
def mOrV (a b : M Dt) : M Dt := fun r j => (mTst a r j).bind fun p => if p.1 = true then some (.bool true, p.2) else b r p.2
def mNotV (a : M Dt) : M Dt := fun r j => (mTst a r j).map fun p => (.bool (!p.1), p.2)
def mNil : M (List Dt) := fun _ j => some ([], j)
def mCons (a : M Dt) (b : M (List Dt)) : M (List Dt) := fun r j => (a r j).bind fun p => (b r p.2).map fun q => (p.1 :: q.1, q.2)
def mTup (a : M (List Dt)) : M Dt := fun r j => (a r j).bind fun p => if p.1.length ≤ 1000 then some (.tuple p.1, p.2) else none
def mLst (a : M (List Dt)) : M Dt := fun r j => (a r j).bind fun p => if p.1.length ≤ 1000 then some (.list p.1, p.2) else none
/-! ### names and constants -/
section
variable {X : Cx} {C : Cn} {e a b c : Expr} {es : List Expr} {f fa fb fc : M Dt} {pos : Pos}
theorem bind_some {α β : Type} {x : Option α} {g : α → Option β} {z : β} (h : x.bind g = some z) : ∃ y, x = some y ∧ g y = some z := Option.bind_eq_some_iff.mp h
theorem map_some {α β : Type} {x : Option α} {g : α → β} {z : β} (h : x.map g = some z) : ∃ y, x = some y ∧ g y = z := Option.map_eq_some_iff.mp h
theorem ev_no : EV X C e mNo := ⟨⟨fun pins s σ H Q I h => by
  obtain ⟨O, r, j, d, j', R, h, _⟩ := h
  cases h⟩⟩
theorem ev_var (i : Nat) {x : Str} (hN : X.N[i]? = some x := by rfl) (hv : Vis X.env.scope x := by first | exact Or.inl rfl | exact Or.inr (Or.inl rfl) | exact Or.inr (Or.inr rfl)) (hd : (x == ("__debug__" : Str)) = false := by decide)
    (hcd : (x == ("__classdict__" : Str)) = false := by decide) : EV X C (.Name x pos) (mVar i) := ⟨pe_weak (pe_var hN hv hd hcd) fun σ H Q h => by
  obtain ⟨O, r, j, d, j', R, h, q⟩ := h
  unfold mVar at h
  split at h
  · rename_i x' e
    cases h
    obtain ⟨u, eu, rp⟩ := R.sl i _ e
    exact ⟨u, eu, q u H .refl R.jarIs rp⟩
  · cases h⟩
theorem el_of (h : EV X C e f) : EL X C e f := ⟨pe_weak h.pe fun σ H Q h => by
  obtain ⟨O, r, j, d, j', R, h, q⟩ := h
  exact ⟨O, r, j, d, j', R, h, fun v H' k w rp => q v H' k w (.inl rp)⟩⟩
theorem el_own (i : Nat) {x : Str} (hN : X.N[i]? = some x := by rfl) (hv : Vis X.env.scope x := by first | exact Or.inl rfl | exact Or.inr (Or.inl rfl) | exact Or.inr (Or.inr rfl)) (hd : (x == ("__debug__" : Str)) = false := by decide)
    (hcd : (x == ("__classdict__" : Str)) = false := by decide) : EL X C (.Name x pos) (mOwn i) := ⟨pe_weak (pe_var hN hv hd hcd) fun σ H Q h => by
  obtain ⟨O, r, j, d, j', R, h, q⟩ := h
  unfold mOwn at h
  split at h
  · rename_i xs e
    cases h
    obtain ⟨p, vs, e1, e2, z, op, n0, he, np, rp⟩ := R.sl i _ e
    exact ⟨_, e1, q _ H .refl R.jarIs (.inr ⟨p, vs, xs, rfl, rfl, .of e2, np, z, rp⟩)⟩
  · cases h⟩
theorem ev_int {i : Int} {k : Nat} : EV X C (.Constant (.int i) k pos) (mC (.int i)) := ⟨pe_weak pe_int fun σ H Q h => by
  obtain ⟨O, r, j, d, j', R, h, q⟩ := h
  cases h
  exact q _ H .refl R.jarIs (.int _)⟩
theorem ev_bl {i : Bool} {k : Nat} : EV X C (.Constant (.bool i) k pos) (mC (.bool i)) := ⟨pe_weak pe_bl fun σ H Q h => by
  obtain ⟨O, r, j, d, j', R, h, q⟩ := h
  cases h
  exact q _ H .refl R.jarIs (.bl _)⟩
theorem ev_non {k : Nat} : EV X C (.Constant .none k pos) (mC .none) := ⟨pe_weak pe_non fun σ H Q h => by
  obtain ⟨O, r, j, d, j', R, h, q⟩ := h
  cases h
  exact q _ H .refl R.jarIs .non⟩
theorem ev_str {x : Str} {k : Nat} (h1 : PyData.strOk x = true := by decide +kernel) (h2 : x.length ≤ sizeLine := by decide +kernel) : EV X C (.Constant (.str x) k pos) (mC (.str x)) := ⟨pe_weak pe_str fun σ H Q h => by
  obtain ⟨O, r, j, d, j', R, h, q⟩ := h
  cases h
  exact q _ H .refl R.jarIs (.str _ h1 h2)⟩
/-- a constant of the module -/
def GlobM (K : PySem.W.Frag) (mg : Str → Option Value) (x : Str) (d : Dt) : Prop := ∃ u v, mg x = some u ∧ RelV v u ∧ ∀ H, Rp K H v d
abbrev GlobIs (X : Cx) (x : Str) (d : Dt) : Prop := GlobM X.K X.mg x d
theorem ev_glob {x : Str} {d : Dt} (g : GlobIs X x d) (hg : Gl X x := by rfl) (hd : (x == ("__debug__" : Str)) = false := by decide) : EV X C (.Name x pos) (mC d) := by
  obtain ⟨u, v, hm, rv, rp⟩ := g
  refine ⟨pe_weak (pe_glob hg hm rv hd) fun σ H Q h => ?_⟩
  obtain ⟨O, r, j, d, j', R, h, q⟩ := h
  cases h
  exact q _ H .refl R.jarIs (rp _)
/-! ### operators -/
/-- an operator's rule, said of trees -/
def OpD (K : PySem.W.Frag) (r : R2) (f : Dt → Dt → Option Dt) : Prop := ∀ (C : Cn) (O : Addr → Prop) (H : Hp) (x y : V) (a b z : Dt) (Q : VK), (∀ p, O p → H p ≠ none) → View K C O H x a → View K C O H y b → f a b = some z →
  (∀ v H', Same H H' → Rep K O H' v z → Q v H') → r x y H Q
theorem ev_opL {e : Expr} {r : R2} {g : Dt → Dt → Option Dt} (he : ∀ ta tb, PE X a ta → PE X b tb → PE X e (tOp r ta tb)) (hd : OpD X.K r g) (ha : EL X C a fa) (hb : EL X C b fb) : EV X C e (mBin g fa fb) := by
  refine ⟨pe_weak (he _ _ ha.pe hb.pe) fun σ H Q h => ?_⟩
  obtain ⟨O, r, j, d, j', R, h, q⟩ := h
  obtain ⟨⟨da, j1⟩, e1, h⟩ := bind_some h
  obtain ⟨⟨db, j2⟩, e2, h⟩ := bind_some h
  obtain ⟨z, e3, h⟩ := map_some h
  cases h
  refine ⟨O, r, j, da, j1, R, e1, fun x H1 k1 q1 rx => ?_⟩
  have R1 := R.keep k1 q1
  refine ⟨O, r, j1, db, j2, R1, e2, fun y H2 k2 q2 ry => ?_⟩
  have R2 := R1.keep k2 q2
  exact hd C O H2 x y da db _ Q R2.dom (rx.keep R1 k2) ry e3 fun v H' s rv => q v H' ((k1.trans k2).trans (.of s)) (q2.same s) rv
/-- the same of operands that stand for themselves -/
def OpE (K : PySem.W.Frag) (r : R2) (f : Dt → Dt → Option Dt) : Prop := ∀ (O : Addr → Prop) (H : Hp) (x y : V) (a b z : Dt) (Q : VK), (∀ p, O p → H p ≠ none) → Rep K O H x a → Rep K O H y b → f a b = some z →
  (∀ v H', Same H H' → Rep K O H' v z → Q v H') → r x y H Q
theorem ev_opE {e : Expr} {r : R2} {g : Dt → Dt → Option Dt} (he : ∀ ta tb, PE X a ta → PE X b tb → PE X e (tOp r ta tb)) (hd : OpE X.K r g) (ha : EV X C a fa) (hb : EV X C b fb) : EV X C e (mBin g fa fb) := by
  refine ⟨pe_weak (he _ _ ha.pe hb.pe) fun σ H Q h => ?_⟩
  obtain ⟨O, r, j, d, j', R, h, q⟩ := h
  obtain ⟨⟨da, j1⟩, e1, h⟩ := bind_some h
  obtain ⟨⟨db, j2⟩, e2, h⟩ := bind_some h
  obtain ⟨z, e3, h⟩ := map_some h
  cases h
  refine ⟨O, r, j, da, j1, R, e1, fun x H1 k1 q1 rx => ?_⟩
  have R1 := R.keep k1 q1
  refine ⟨O, r, j1, db, j2, R1, e2, fun y H2 k2 q2 ry => ?_⟩
  have R2 := R1.keep k2 q2
  exact hd O H2 x y da db _ Q R2.dom ((R1.ext k2).rep rx) ry e3 fun v H' s rv => q v H' ((k1.trans k2).trans (.of s)) (q2.same s) rv
theorem ev_op {op : Operator} {r : R2} {g : Dt → Dt → Option Dt} (ho : OpR X (binaryOp op) r) (hd : OpE X.K r g) (ha : EV X C a fa) (hb : EV X C b fb) : EV X C (.BinOp a op b pos) (mBin g fa fb) :=
  ev_opE (fun _ _ h1 h2 => pe_op ho h1 h2) hd ha hb
theorem ev_cmpL {op : CmpOp} {r : R2} {g : Dt → Dt → Option Dt} (ho : OpR X (compareOp op) r) (hm : behindInMarks op b = false) (hd : OpD X.K r g) (ha : EL X C a fa) (hb : EL X C b fb) : EV X C (.Compare a [op] [b] pos) (mBin g fa fb) :=
  ev_opL (fun _ _ h1 h2 => pe_cmpR ho h1 h2 hm) hd ha hb
/-- a comparison as a test -/
theorem et_cmpL {op : CmpOp} {r : R2} {g : Dt → Dt → Option Dt} (ho : OpR X (compareOp op) r) (hm : behindInMarks op b = false) (hd : OpD X.K r g) (ha : EL X C a fa) (hb : EL X C b fb) : ET X C (.Compare a [op] [b] pos) (mTst (mBin g fa fb)) := by
  refine ⟨pt_weak (pt_cmpR ho ha.pe hb.pe hm) fun σ H Q h => ?_⟩
  obtain ⟨O, r, j, d, j', R, h, q⟩ := h
  obtain ⟨⟨dz, j3⟩, g1, g2⟩ := bind_some h
  obtain ⟨z', e4, g3⟩ := map_some g2
  cases g3
  obtain ⟨⟨da, j1⟩, e1, g4⟩ := bind_some g1
  obtain ⟨⟨db, j2⟩, e2, g5⟩ := bind_some g4
  obtain ⟨z, e3, g6⟩ := map_some g5
  cases g6
  refine ⟨O, r, j, da, j1, R, e1, fun x H1 k1 q1 rx => ?_⟩
  have R1 := R.keep k1 q1
  refine ⟨O, r, j1, db, j2, R1, e2, fun y H2 k2 q2 ry => ?_⟩
  have R2 := R1.keep k2 q2
  refine hd C O H2 x y da db _ _ R2.dom (rx.keep R1 k2) ry e3 fun v H' s rv => ?_
  cases dz <;> first | (cases e4; done) | skip
  cases e4
  cases rv
  exact ⟨_, rfl, q H' ((k1.trans k2).trans (.of s)) (q2.same s)⟩
/-- a bool's expression as a test -/
theorem et_val (h : EV X C e f) (he : ∀ whole, isTrue e X.env whole = (do let v ← whole; standAt e.pos; holding [v] (truthy v)) := by intro _; rfl) : ET X C e (mTst f) := by
  refine ⟨pt_weak (pt_val h.pe he) fun σ H Q h => ?_⟩
  obtain ⟨O, r, j, d, j', R, h, q⟩ := h
  obtain ⟨⟨dz, j3⟩, g1, g2⟩ := bind_some h
  obtain ⟨z', e4, g3⟩ := map_some g2
  cases g3
  refine ⟨O, r, j, dz, j3, R, g1, fun v H' k w rv => ?_⟩
  cases dz <;> first | (cases e4; done) | skip
  cases e4
  cases rv
  exact ⟨_, rfl, q H' k w⟩
theorem ET.imp {f g : M Bool} (h : ET X C e f) (w : ∀ r j z, g r j = some z → f r j = some z) : ET X C e g := ⟨pt_weak h.pt fun σ H Q h => by
  obtain ⟨O, r, j, d, j', R, h, q⟩ := h
  exact ⟨O, r, j, d, j', R, w _ _ _ h, q⟩⟩
theorem EV.imp {f g : M Dt} (h : EV X C e f) (w : ∀ r j z, g r j = some z → f r j = some z) : EV X C e g := ⟨pe_weak h.pe fun σ H Q h => by
  obtain ⟨O, r, j, d, j', R, h, q⟩ := h
  exact ⟨O, r, j, d, j', R, w _ _ _ h, q⟩⟩
/-! ### and, or, not, if -/
variable {ga gb : M Bool} {rest : List Expr}
/-- and, or whatever the whole is -/
structure EW (X : Cx) (C : Cn) (e : Expr) (f : M Bool) : Prop where
  pw : PW X e (tET X.K C f)
theorem pw_weak {t t' : TT} (h : PW X e t) (w : ∀ σ H Q, t' σ H Q → t σ H Q) : PW X e t' := ⟨fun wh pins s σ H Q I q => h.run wh pins s σ H Q I (w σ H Q q)⟩
theorem EW.et (h : EW X C e ga) : ET X C e ga := ⟨h.pw.pt⟩
theorem ew_and1 (h : ET X C a ga) : EW X C (.BoolOp .And [a] pos) ga := ⟨pw_and1 h.pt⟩
theorem ew_or1 (h : ET X C a ga) : EW X C (.BoolOp .Or [a] pos) ga := ⟨pw_or1 h.pt⟩
theorem ew_and (ha : ET X C a ga) (hb : EW X C (.BoolOp .And (b :: rest) pos) gb) : EW X C (.BoolOp .And (a :: b :: rest) pos) (mAnd ga gb) := by
  refine ⟨pw_weak (pw_and ha.pt hb.pw) fun σ H Q h => ?_⟩
  obtain ⟨O, r, j, d, j', R, h, q⟩ := h
  obtain ⟨⟨x, j1⟩, e1, h⟩ := bind_some h
  refine ⟨O, r, j, x, j1, R, e1, fun H1 k1 q1 => ?_⟩
  cases x with
  | true => exact ⟨O, r, j1, d, j', R.keep k1 q1, h, fun H2 k2 q2 => q H2 (k1.trans k2) q2⟩
  | false =>
    cases h
    exact q H1 k1 q1
theorem ew_or (ha : ET X C a ga) (hb : EW X C (.BoolOp .Or (b :: rest) pos) gb) : EW X C (.BoolOp .Or (a :: b :: rest) pos) (mOr ga gb) := by
  refine ⟨pw_weak (pw_or ha.pt hb.pw) fun σ H Q h => ?_⟩
  obtain ⟨O, r, j, d, j', R, h, q⟩ := h
  obtain ⟨⟨x, j1⟩, e1, h⟩ := bind_some h
  refine ⟨O, r, j, x, j1, R, e1, fun H1 k1 q1 => ?_⟩
  cases x with
  | false => exact ⟨O, r, j1, d, j', R.keep k1 q1, h, fun H2 k2 q2 => q H2 (k1.trans k2) q2⟩
  | true =>
    cases h
    exact q H1 k1 q1
theorem et_not (ha : ET X C a ga) : ET X C (.UnaryOp .Not a pos) (mNot ga) := by
  refine ⟨pt_weak (pt_not ha.pt) fun σ H Q h => ?_⟩
  obtain ⟨O, r, j, d, j', R, h, q⟩ := h
  obtain ⟨⟨x, j1⟩, e1, h⟩ := map_some h
  cases h
  exact ⟨O, r, j, x, j1, R, e1, q⟩
theorem ev_one {op : BoolOp} (h : EV X C a fa) : EV X C (.BoolOp op [a] pos) fa := ⟨pe_one h.pe⟩
theorem ev_and (ha : EV X C a fa) (hb : EV X C (.BoolOp .And (b :: rest) pos) fb) : EV X C (.BoolOp .And (a :: b :: rest) pos) (mAndV fa fb) := by
  refine ⟨pe_weak (pe_and ha.pe hb.pe) fun σ H Q h => ?_⟩
  obtain ⟨O, r, j, d, j', R, h, q⟩ := h
  obtain ⟨⟨x, j1⟩, e1, h⟩ := bind_some h
  obtain ⟨⟨z, j2⟩, e0, g1⟩ := bind_some e1
  obtain ⟨w, e2, g2⟩ := map_some g1
  cases g2
  refine ⟨O, r, j, z, j2, R, e0, fun v H1 k1 q1 rv => ?_⟩
  cases z <;> first | (cases e2; done) | skip
  cases e2
  cases rv
  refine ⟨_, rfl, ?_⟩
  cases x with
  | true => exact ⟨O, r, j2, d, j', R.keep k1 q1, h, fun v H2 k2 q2 => q v H2 (k1.trans k2) q2⟩
  | false =>
    cases h
    exact q _ H1 k1 q1 (.bl _)
theorem ev_or (ha : EV X C a fa) (hb : EV X C (.BoolOp .Or (b :: rest) pos) fb) : EV X C (.BoolOp .Or (a :: b :: rest) pos) (mOrV fa fb) := by
  refine ⟨pe_weak (pe_or ha.pe hb.pe) fun σ H Q h => ?_⟩
  obtain ⟨O, r, j, d, j', R, h, q⟩ := h
  obtain ⟨⟨x, j1⟩, e1, h⟩ := bind_some h
  obtain ⟨⟨z, j2⟩, e0, g1⟩ := bind_some e1
  obtain ⟨w, e2, g2⟩ := map_some g1
  cases g2
  refine ⟨O, r, j, z, j2, R, e0, fun v H1 k1 q1 rv => ?_⟩
  cases z <;> first | (cases e2; done) | skip
  cases e2
  cases rv
  refine ⟨_, rfl, ?_⟩
  cases x with
  | false => exact ⟨O, r, j2, d, j', R.keep k1 q1, h, fun v H2 k2 q2 => q v H2 (k1.trans k2) q2⟩
  | true =>
    cases h
    exact q _ H1 k1 q1 (.bl _)
theorem ev_not (ha : EV X C a fa) : EV X C (.UnaryOp .Not a pos) (mNotV fa) := by
  refine ⟨pe_weak (pe_not ha.pe) fun σ H Q h => ?_⟩
  obtain ⟨O, r, j, d, j', R, h, q⟩ := h
  obtain ⟨⟨x, j1⟩, e1, h⟩ := map_some h
  obtain ⟨⟨z, j2⟩, e0, g1⟩ := bind_some e1
  obtain ⟨w, e2, g2⟩ := map_some g1
  cases g2
  cases h
  refine ⟨O, r, j, z, _, R, e0, fun v H1 k1 q1 rv => ?_⟩
  cases z <;> first | (cases e2; done) | skip
  cases e2
  cases rv
  exact ⟨_, rfl, q _ H1 k1 q1 (.bl _)⟩
theorem ev_if (hc : ET X C c ga) (ha : EV X C a fa) (hb : EV X C b fb) : EV X C (.IfExp c a b pos) (mIf ga fa fb) := by
  refine ⟨pe_weak (pe_ifExp hc.pt ha.pe hb.pe) fun σ H Q h => ?_⟩
  obtain ⟨O, r, j, d, j', R, h, q⟩ := h
  obtain ⟨⟨x, j1⟩, e1, h⟩ := bind_some h
  refine ⟨O, r, j, x, j1, R, e1, fun H1 k1 q1 => ?_⟩
  cases x with
  | true => exact ⟨O, r, j1, d, j', R.keep k1 q1, h, fun v H2 k2 q2 => q v H2 (k1.trans k2) q2⟩
  | false => exact ⟨O, r, j1, d, j', R.keep k1 q1, h, fun v H2 k2 q2 => q v H2 (k1.trans k2) q2⟩
/-! ### lists of expressions, displays -/
variable {fs : M (List Dt)}
theorem ea_nil : EA X C [] mNil := ⟨pa_weak pa_nil fun σ H Q h => by
  obtain ⟨O, r, j, d, j', R, h, q⟩ := h
  cases h
  exact q [] H .refl R.jarIs .nil⟩
theorem ea_cons (ha : EV X C e fa) (hr : EA X C es fs) (hs : starEach (e :: es) X.env = (false, eval e X.env) :: starEach es X.env := by rfl) : EA X C (e :: es) (mCons fa fs) := by
  refine ⟨pa_weak (pa_cons ha.pe hr.pa hs) fun σ H Q h => ?_⟩
  obtain ⟨O, r, j, d, j', R, h, q⟩ := h
  obtain ⟨⟨x, j1⟩, e1, h⟩ := bind_some h
  obtain ⟨⟨xs, j2⟩, e2, h⟩ := map_some h
  cases h
  refine ⟨O, r, j, x, j1, R, e1, fun v H1 k1 q1 rv => ?_⟩
  have R1 := R.keep k1 q1
  refine ⟨O, r, j1, xs, j2, R1, e2, fun vs H2 k2 q2 rvs => ?_⟩
  exact q (v :: vs) H2 (k1.trans k2) q2 (.cons ((R1.ext k2).rep rv) rvs)
theorem len1000 {K : PySem.W.Frag} {H : Hp} {vs : List V} {ds : List Dt} (r : RpA K H vs ds) (h : ds.length ≤ 1000) : vs.length ≤ sizeLine := by
  rw [r.length, sizeLine_eq]
  omega
theorem ev_tup {x1 : Nat} (ha : EA X C es fs) : EV X C (.Tuple es x1 pos) (mTup fs) := by
  refine ⟨pe_weak (pe_tup ha.pa) fun σ H Q h => ?_⟩
  obtain ⟨O, r, j, d, j', R, h, q⟩ := h
  obtain ⟨⟨xs, j1⟩, e1, h⟩ := bind_some h
  split at h
  · rename_i hl
    cases h
    refine ⟨O, r, j, xs, _, R, e1, fun vs H1 k1 q1 rvs => ?_⟩
    have z := len1000 rvs hl
    refine ⟨z, fun p hp => ?_⟩
    have R1 := R.keep k1 q1
    exact q _ _ (k1.trans (.of (same_upd hp))) (q1.same (same_upd hp)) (rep_newT (R1.fresh hp) hp z rvs)
  · cases h
theorem ev_lst (ha : EA X C es fs) : EV X C (.List es pos) (mLst fs) := by
  refine ⟨pe_weak (pe_lst ha.pa) fun σ H Q h => ?_⟩
  obtain ⟨O, r, j, d, j', R, h, q⟩ := h
  obtain ⟨⟨xs, j1⟩, e1, h⟩ := bind_some h
  split at h
  · rename_i hl
    cases h
    refine ⟨O, r, j, xs, _, R, e1, fun vs H1 k1 q1 rvs => ?_⟩
    have z := len1000 rvs hl
    refine ⟨z, fun p hp => ?_⟩
    have R1 := R.keep k1 q1
    exact q _ _ (k1.trans (.of (same_upd hp))) (q1.same (same_upd hp)) (rep_newL (R1.fresh hp) hp z rvs)
  · cases h
end
end Ev
end
section
set_option Elab.async false
set_option linter.all false
set_option autoImplicit false
set_option maxRecDepth 100000
/-! Ev: operators, subscripts, built-ins. -/
namespace Ev
open PySem PySem.Spec PyProof.Rows L2
/-- a line of sixteen million things -/
abbrev lineN : Nat := 16777216
/-! ### what the operators do with trees -/
def fAdd : Dt → Dt → Option Dt
  | .int a, .int b => some (.int (a + b))
  | .tuple a, .tuple b => if a.length + b.length ≤ lineN then some (.tuple (a ++ b)) else none
  | .list a, .list b => if a.length + b.length ≤ lineN then some (.list (a ++ b)) else none
  | .str a, .str b => if a.length + b.length ≤ lineN then some (.str (a ++ b)) else none
  | _, _ => none
def b2 (p : Bool) : Int := if p = true then 1 else 0
def fSub : Dt → Dt → Option Dt
  | .int a, .int b => some (.int (a - b))
  | .bool a, .bool b => some (.int (b2 a - b2 b))
  | _, _ => none
/-- two factors whose product is not too long -/
def mulOk (a b : Int) : Bool := decide (a.natAbs < 18446744073709551616 ∨ b.natAbs < 18446744073709551616 ∨ a.natAbs.log2 + b.natAbs.log2 < 100000000)
def fMul : Dt → Dt → Option Dt
  | .int a, .int b => if mulOk a b = true then some (.int (a * b)) else none
  | _, _ => none
def divOk (b : Int) : Bool := decide (b ≠ 0 ∧ b.natAbs.log2 < 9000)
def fDiv : Dt → Dt → Option Dt
  | .int a, .int b => if divOk b = true then some (.int (a.fdiv b)) else none
  | _, _ => none
def fMod : Dt → Dt → Option Dt
  | .int a, .int b => if b ≠ 0 then some (.int (a.fmod b)) else none
  | _, _ => none
def fPow : Dt → Dt → Option Dt
  | .int a, .int b => if 0 ≤ b ∧ b ≤ 1000000 ∧ a.natAbs < 2 ^ 64 then some (.int (a ^ b.toNat)) else none
  | _, _ => none
def fCmp (p : Int → Int → Bool) : Dt → Dt → Option Dt
  | .int a, .int b => some (.bool (p a b))
  | _, _ => none
abbrev fLt := fCmp fun i j => decide (i < j)
abbrev fLe := fCmp fun i j => decide (i ≤ j)
abbrev fGt := fCmp fun i j => decide (j < i)
abbrev fGe := fCmp fun i j => decide (j ≤ i)
def fEq (a b : Dt) : Option Dt := if min a.depth b.depth ≤ 64 then some (.bool (PyData.eqv a b)) else none
def fNe (a b : Dt) : Option Dt := if min a.depth b.depth ≤ 64 then some (.bool (!PyData.eqv a b)) else none
def isN : Dt → Bool
  | .none => true
  | _ => false
/-- in a list, a tuple; one sign in a text -/
def inD : Dt → Dt → Option Bool
  | d, .list ds => if d.depth ≤ 64 then some (ds.any fun z => PyData.eqv z d) else none
  | d, .tuple ds => if d.depth ≤ 64 then some (ds.any fun z => PyData.eqv z d) else none
  | .str ⟨⟨[c]⟩⟩, .str z => some (decide (c ∈ z.cps.toList))
  | _, _ => none
def fIn (a b : Dt) : Option Dt := (inD a b).map .bool
def fNotIn (a b : Dt) : Option Dt := (inD a b).map fun x => .bool (!x)
section
variable {X : Cx} {C : Cn} {K : PySem.W.Frag} {e a b c : Expr} {es : List Expr} {f fa fb fc : M Dt} {pos : Pos}
theorem line_le {n : Nat} (h : n ≤ lineN) : n ≤ sizeLine := by
  rw [sizeLine_eq]
  exact h
/-! ### + -/
theorem strOk_app {x y : Str} (hx : PyData.strOk x = true) (hy : PyData.strOk y = true) : PyData.strOk (x ++ y) = true := by
  unfold PyData.strOk at *
  show (x.cps ++ y.cps).all _ = true
  rw [Array.all_append, hx, hy] <;> rfl
theorem oe_add : OpE K (fun x y H Q => (rI0 fun i j => .int (i + j)) x y H Q ∨ rCatA K x y H Q ∨ rCat x y H Q ∨ ∃ i j, x = .str i ∧ y = .str j ∧ i.length + j.length ≤ sizeLine ∧ Q (.str (i ++ j)) H) fAdd := by
  intro O H x y a b z Q hd rx ry e q
  unfold fAdd at e
  split at e
  · cases e
    cases rx
    cases ry
    exact .inl ⟨_, _, rfl, rfl, q _ H (.refl H) (.int _)⟩
  · split at e
    · rename_i hl
      cases e
      cases rx with
      | tup h1 z1 r1 =>
        cases ry with
        | tup h2 z2 r2 =>
          have hz := line_le hl
          rw [← r1.length, ← r2.length] at hz
          refine .inr (.inl ⟨_, _, _, _, rfl, rfl, sqT_hid h1, sqT_hid h2, hz, fun e0 => ?_, fun n0 e0 => ?_, fun n0 n1 p hp => ?_⟩)
          · subst e0
            cases r1
            exact q _ H (.refl H) (.tup h2 z2 r2)
          · subst e0
            cases r2
            rw [List.append_nil] at q
            exact q _ H (.refl H) (.tup h1 z1 r1)
          · exact q _ _ (same_upd hp) (rep_newT (fun o => hd p o hp) hp (by rw [List.length_append]; exact hz) (r1.app r2))
    · cases e
  · split at e
    · rename_i hl
      cases e
      cases rx with
      | lst h1 z1 r1 =>
        cases ry with
        | lst h2 z2 r2 =>
          have hz := line_le hl
          rw [← r1.length, ← r2.length] at hz
          refine .inr (.inr (.inl ⟨_, _, _, _, rfl, rfl, (hid_some.mp h1).2, (hid_some.mp h2).2, hz, fun p hp => ?_⟩))
          exact q _ _ (same_upd hp) (rep_newL (fun o => hd p o hp) hp (by rw [List.length_append]; exact hz) (r1.app r2))
    · cases e
  · split at e
    · rename_i hl
      cases e
      cases rx with
      | str _ a1 b1 =>
        cases ry with
        | str _ a2 b2 =>
          refine .inr (.inr (.inr ⟨_, _, rfl, rfl, line_le hl, q _ H (.refl H) (.str _ (strOk_app a1 a2) ?_)⟩))
          have := line_le hl
          show (_ ++ _ : Array Nat).size ≤ _
          rw [Array.size_append]
          exact this
    · cases e
  · cases e
theorem ev_add (ha : EV X C a fa) (hb : EV X C b fb) : EV X C (.BinOp a .Add b pos) (mBin fAdd fa fb) := ev_op (op_add.or (op_catA.or (op_cat.or op_add_str))) oe_add ha hb
/-! ### -, *, //, %, ** -/
def rBlSub : R2 := fun x y H Q => ∃ p q, x = .bl p ∧ y = .bl q ∧ Q (.int (b2 p - b2 q)) H
theorem op_subBl : OpR X (binaryOp .Sub) rBlSub := by
  intro pins s σ H x y v u Q I rx ry h
  obtain ⟨p, q, rfl, rfl, w⟩ := h
  cases rx
  cases ry
  exact PyProof.Rows.sub_bool ⟨.int _, H, I.tok _, ⟨_, rfl⟩, w⟩
theorem ev_sub (ha : EV X C a fa) (hb : EV X C b fb) : EV X C (.BinOp a .Sub b pos) (mBin fSub fa fb) := ev_op (op_sub.or op_subBl) (by
  intro O H x y a b z Q hd rx ry e q
  unfold fSub at e
  split at e
  · cases e
    cases rx
    cases ry
    exact .inl ⟨_, _, rfl, rfl, q _ H (.refl H) (.int _)⟩
  · cases e
    cases rx
    cases ry
    exact .inr ⟨_, _, rfl, rfl, q _ H (.refl H) (.int _)⟩
  · cases e) ha hb
theorem mulOk_long {i j : Int} (h3 : i.natAbs.log2 + j.natAbs.log2 < 100000000) : IntMulOk i j := by
  have bits : ∀ x : Int, Builtin.Int.intBits x ≤ x.natAbs.log2 + 1 := fun x => by
    unfold Builtin.Int.intBits
    split <;> omega
  have hi := bits i
  have hj := bits j
  have line : bitsLine = 134217728 := by decide
  unfold IntMulOk
  intro z
  have z3 := of_decide_eq_true (show decide _ = true from (Bool.and_eq_true_iff.mp z).2)
  rw [line] at z3
  omega
theorem mulOk_ok {i j : Int} (h : mulOk i j = true) : IntMulOk i j := by
  rcases of_decide_eq_true h with h1 | h1 | h1
  · exact CMul.ok (.inl (by omega))
  · exact CMul.ok (.inr (by omega))
  · exact mulOk_long h1
theorem ev_mul (ha : EV X C a fa) (hb : EV X C b fb) : EV X C (.BinOp a .Mult b pos) (mBin fMul fa fb) := ev_op (r := rI (fun i j => mulOk i j = true) fun i j => .int (i * j)) (opI fun _ _ _ _ _ _ _ hc q => mul_int q (mulOk_ok hc)) (by
  intro O H x y a b z Q hd rx ry e q
  unfold fMul at e
  split at e
  · split at e
    · rename_i hm
      cases e
      cases rx
      cases ry
      exact ⟨_, _, rfl, rfl, hm, q _ H (.refl H) (.int _)⟩
    · cases e
  · cases e) ha hb
theorem ev_fdiv (ha : EV X C a fa) (hb : EV X C b fb) : EV X C (.BinOp a .FloorDiv b pos) (mBin fDiv fa fb) := ev_op (r := rI (fun _ j => divOk j = true) fun i j => .int (i.fdiv j)) (opI fun _ _ _ _ _ _ _ hc q =>
    let z := of_decide_eq_true hc
    floordiv_int z.1 q (.inl (PyProof.noPylong_of_log2 z.2))) (by
  intro O H x y a b z Q hd rx ry e q
  unfold fDiv at e
  split at e
  · split at e
    · rename_i hm
      cases e
      cases rx
      cases ry
      exact ⟨_, _, rfl, rfl, hm, q _ H (.refl H) (.int _)⟩
    · cases e
  · cases e) ha hb
theorem ev_mod (ha : EV X C a fa) (hb : EV X C b fb) : EV X C (.BinOp a .Mod b pos) (mBin fMod fa fb) := ev_op op_modN (by
  intro O H x y a b z Q hd rx ry e q
  unfold fMod at e
  split at e
  · split at e
    · rename_i hm
      cases e
      cases rx
      cases ry
      exact ⟨_, _, rfl, rfl, hm, q _ H (.refl H) (.int _)⟩
    · cases e
  · cases e) ha hb
theorem ev_pow (ha : EV X C a fa) (hb : EV X C b fb) : EV X C (.BinOp a .Pow b pos) (mBin fPow fa fb) := ev_op op_pow (by
  intro O H x y a b z Q hd rx ry e q
  unfold fPow at e
  split at e
  · split at e
    · rename_i hm
      cases e
      cases rx
      cases ry
      exact ⟨_, _, rfl, rfl, hm, q _ H (.refl H) (.int _)⟩
    · cases e
  · cases e) ha hb
def fNeg : Dt → Option Dt
  | .int a => some (.int (-a))
  | _ => none
theorem ev_neg (ha : EV X C a fa) : EV X C (.UnaryOp .USub a pos) (mUn fNeg fa) := by
  refine ⟨pe_weak (pe_un un_neg ha.pe) fun σ H Q h => ?_⟩
  obtain ⟨O, r, j, d, j', R, h, q⟩ := h
  obtain ⟨⟨da, j1⟩, e1, h⟩ := bind_some h
  obtain ⟨z, e2, h⟩ := map_some h
  cases h
  refine ⟨O, r, j, da, _, R, e1, fun x H1 k1 q1 rx => ?_⟩
  dsimp only at e2
  unfold fNeg at e2
  split at e2
  · cases e2
    cases rx
    exact ⟨_, rfl, q _ H1 k1 q1 (.int _)⟩
  · cases e2
/-! ### comparisons -/
theorem od_cmp {p : Int → Int → Bool} : OpD K (rI0 fun i j => .bl (p i j)) (fCmp p) := by
  intro C O H x y a b z Q hd rx ry e q
  unfold fCmp at e
  split at e
  · cases e
    cases rx.flat fun _ z => nomatch z
    cases ry.flat fun _ z => nomatch z
    exact ⟨_, _, rfl, rfl, q _ H (.refl H) (.bl _)⟩
  · cases e
theorem ev_lt (ha : EL X C a fa) (hb : EL X C b fb) : EV X C (.Compare a [.Lt] [b] pos) (mBin fLt fa fb) := ev_cmpL op_lt (nomark _) od_cmp ha hb
theorem ev_le (ha : EL X C a fa) (hb : EL X C b fb) : EV X C (.Compare a [.LtE] [b] pos) (mBin fLe fa fb) := ev_cmpL op_le (nomark _) od_cmp ha hb
theorem ev_gt (ha : EL X C a fa) (hb : EL X C b fb) : EV X C (.Compare a [.Gt] [b] pos) (mBin fGt fa fb) := ev_cmpL op_gt (nomark _) od_cmp ha hb
theorem ev_ge (ha : EL X C a fa) (hb : EL X C b fb) : EV X C (.Compare a [.GtE] [b] pos) (mBin fGe fa fb) := ev_cmpL op_ge (nomark _) od_cmp ha hb
theorem et_lt (ha : EL X C a fa) (hb : EL X C b fb) : ET X C (.Compare a [.Lt] [b] pos) (mTst (mBin fLt fa fb)) := et_cmpL op_lt (nomark _) od_cmp ha hb
theorem et_le (ha : EL X C a fa) (hb : EL X C b fb) : ET X C (.Compare a [.LtE] [b] pos) (mTst (mBin fLe fa fb)) := et_cmpL op_le (nomark _) od_cmp ha hb
theorem et_gt (ha : EL X C a fa) (hb : EL X C b fb) : ET X C (.Compare a [.Gt] [b] pos) (mTst (mBin fGt fa fb)) := et_cmpL op_gt (nomark _) od_cmp ha hb
theorem et_ge (ha : EL X C a fa) (hb : EL X C b fb) : ET X C (.Compare a [.GtE] [b] pos) (mTst (mBin fGe fa fb)) := et_cmpL op_ge (nomark _) od_cmp ha hb
/-! ### == -/
def rEqT (K : PySem.W.Frag) (neg : Bool) : R2 := fun x y H Q => ∃ d e, (Dp K H x d ∧ d.canLay0 = true) ∧ (Dp K H y e ∧ e.canLay0 = true) ∧ min d.depth e.depth ≤ 64 ∧ Q (.bl (if neg = true then !PyData.eqv d e else PyData.eqv d e)) H
theorem op_eqT (hu : X.A.units + 150 < cLine) : OpR X (compareOp .Eq) (rEqT X.K false) := by
  intro pins s σ H x y v u Q I rx ry h
  obtain ⟨d, e, ⟨hd, ld⟩, ⟨he, le⟩, hz, q⟩ := h
  obtain ⟨as, r1⟩ := Dp.reads I d x v hd rx
  obtain ⟨bs, r2⟩ := Dp.reads I e y u he ry
  exact SeqAt.compareEq_reads r1 r2 ld le (by omega) ⟨.bl _, H, I, rfl, q⟩
theorem op_neT (hu : X.A.units + 150 < cLine) : OpR X (compareOp .NotEq) (rEqT X.K true) := by
  intro pins s σ H x y v u Q I rx ry h
  obtain ⟨d, e, ⟨hd, ld⟩, ⟨he, le⟩, hz, q⟩ := h
  obtain ⟨as, r1⟩ := Dp.reads I d x v hd rx
  obtain ⟨bs, r2⟩ := Dp.reads I e y u he ry
  exact SeqAt.compareNe_reads r1 r2 ld le (by omega) ⟨.bl _, H, I, rfl, q⟩
theorem od_eq : OpD K (rEqT K false) fEq := by
  intro C O H x y a b z Q hd rx ry e q
  unfold fEq at e
  split at e
  · rename_i hz
    cases e
    exact ⟨a, b, rx.dp, ry.dp, hz, q _ H (.refl H) (.bl _)⟩
  · cases e
theorem od_ne : OpD K (rEqT K true) fNe := by
  intro C O H x y a b z Q hd rx ry e q
  unfold fNe at e
  split at e
  · rename_i hz
    cases e
    exact ⟨a, b, rx.dp, ry.dp, hz, q _ H (.refl H) (.bl _)⟩
  · cases e
theorem ev_eq (hu : X.A.units + 150 < cLine) (ha : EL X C a fa) (hb : EL X C b fb) : EV X C (.Compare a [.Eq] [b] pos) (mBin fEq fa fb) := ev_cmpL (op_eqT hu) (nomark _) od_eq ha hb
theorem ev_ne (hu : X.A.units + 150 < cLine) (ha : EL X C a fa) (hb : EL X C b fb) : EV X C (.Compare a [.NotEq] [b] pos) (mBin fNe fa fb) := ev_cmpL (op_neT hu) (nomark _) od_ne ha hb
theorem et_eq (hu : X.A.units + 150 < cLine) (ha : EL X C a fa) (hb : EL X C b fb) : ET X C (.Compare a [.Eq] [b] pos) (mTst (mBin fEq fa fb)) := et_cmpL (op_eqT hu) (nomark _) od_eq ha hb
theorem et_ne (hu : X.A.units + 150 < cLine) (ha : EL X C a fa) (hb : EL X C b fb) : ET X C (.Compare a [.NotEq] [b] pos) (mTst (mBin fNe fa fb)) := et_cmpL (op_neT hu) (nomark _) od_ne ha hb
/-! ### is None -/
def fIsN (a _b : Dt) : Option Dt := some (.bool (isN a))
def fNotN (a _b : Dt) : Option Dt := some (.bool (!isN a))
theorem view_non {C : Cn} {O : Addr → Prop} {H : Hp} {x : V} {d : Dt} (h : View K C O H x d) : decide (x = .non) = isN d := by
  rcases h.rp with h | ⟨a, vs, ds, rfl, rfl, _⟩
  · cases h <;> rfl
  · rfl
theorem el_non {k : Nat} : EL X C (.Constant .none k pos) (mC .none) := el_of ev_non
theorem od_isN : OpD K (fun x y H Q => y = .non ∧ Q (.bl (decide (x = .non))) H) (fun a b => if isN b = true then fIsN a b else none) := by
  intro C O H x y a b z Q hd rx ry e q
  dsimp only at e
  split at e
  · rename_i hb
    cases e
    rw [← view_non ry] at hb
    exact ⟨of_decide_eq_true hb, q _ H (.refl H) (by rw [view_non rx]; exact .bl _)⟩
  · cases e
theorem od_notN : OpD K (fun x y H Q => y = .non ∧ Q (.bl (!decide (x = .non))) H) (fun a b => if isN b = true then fNotN a b else none) := by
  intro C O H x y a b z Q hd rx ry e q
  dsimp only at e
  split at e
  · rename_i hb
    cases e
    rw [← view_non ry] at hb
    exact ⟨of_decide_eq_true hb, q _ H (.refl H) (by rw [view_non rx]; exact .bl _)⟩
  · cases e
/-- .. of none as it is written -/
def mIsN (fa : M Dt) : M Dt := fun r j => (fa r j).map fun p => (.bool (isN p.1), p.2)
def mNotN (fa : M Dt) : M Dt := fun r j => (fa r j).map fun p => (.bool (!isN p.1), p.2)
theorem mIsN_eq {r : Rg} {j : Jr} : mBin (fun a b => if isN b = true then fIsN a b else none) fa (mC .none) r j = mIsN fa r j := by
  unfold mBin mIsN mC
  cases fa r j <;> rfl
theorem mNotN_eq {r : Rg} {j : Jr} : mBin (fun a b => if isN b = true then fNotN a b else none) fa (mC .none) r j = mNotN fa r j := by
  unfold mBin mNotN mC
  cases fa r j <;> rfl
theorem ev_isN {k : Nat} {p2 : Pos} (ha : EL X C a fa) : EV X C (.Compare a [.Is] [.Constant .none k p2] pos) (mIsN fa) :=
  (ev_cmpL op_isN (nomark _) od_isN ha el_non).imp fun r j z h => by rw [mIsN_eq]; exact h
theorem ev_notN {k : Nat} {p2 : Pos} (ha : EL X C a fa) : EV X C (.Compare a [.IsNot] [.Constant .none k p2] pos) (mNotN fa) :=
  (ev_cmpL op_notN (nomark _) od_notN ha el_non).imp fun r j z h => by rw [mNotN_eq]; exact h
theorem et_isN {k : Nat} {p2 : Pos} (ha : EL X C a fa) : ET X C (.Compare a [.Is] [.Constant .none k p2] pos) (mTst (mIsN fa)) :=
  (et_cmpL op_isN (nomark _) od_isN ha el_non).imp fun r j z h => by unfold mTst at *; rw [mIsN_eq]; exact h
theorem et_notN {k : Nat} {p2 : Pos} (ha : EL X C a fa) : ET X C (.Compare a [.IsNot] [.Constant .none k p2] pos) (mTst (mNotN fa)) :=
  (et_cmpL op_notN (nomark _) od_notN ha el_non).imp fun r j z h => by unfold mTst at *; rw [mNotN_eq]; exact h
/-! ### in -/
def rInT (K : PySem.W.Frag) (neg : Bool) : R2 := fun x y H Q =>
  (∃ d ds, (Dp K H x d ∧ d.canLay0 = true) ∧ ((Dp K H y (.list ds) ∧ PyData.canLayAll0 ds = true) ∨ (Dp K H y (.tuple ds) ∧ PyData.canLayAll0 ds = true)) ∧ d.depth ≤ 64 ∧ Q (.bl (if neg = true then !(ds.any fun z => PyData.eqv z d) else ds.any fun z => PyData.eqv z d)) H) ∨
  ∃ (c : Nat) (z : Str), x = .str ⟨#[c]⟩ ∧ y = .str z ∧ Q (.bl (if neg = true then !decide (c ∈ z.cps.toList) else decide (c ∈ z.cps.toList))) H
theorem op_inT (hu : X.A.units + 150 < cLine) : OpR X (compareOp .In) (rInT X.K false) := by
  intro pins s σ H x y v u Q I rx ry h
  rcases h with ⟨d, ds, ⟨hd, ld⟩, hy, hz, q⟩ | ⟨c, z, e1, e2, q⟩
  · obtain ⟨as, r1⟩ := Dp.reads I d x v hd rx
    have room : X.A.units + 1 + min (PyData.depthAll ds) d.depth < cLine := by omega
    rcases hy with ⟨hy, ly⟩ | ⟨hy, ly⟩
    · obtain ⟨bs, r2⟩ := Dp.reads I (.list ds) y u hy ry
      exact SeqAt.in_list_reads r2 r1 ly ld room ⟨.bl _, H, I, rfl, q⟩
    · obtain ⟨bs, r2⟩ := Dp.reads I (.tuple ds) y u hy ry
      exact SeqAt.in_tuple_reads r2 r1 ly ld room ⟨.bl _, H, I, rfl, q⟩
  · exact op_in_sign pins s σ H x y v u Q I rx ry ⟨c, z, e1, e2, q⟩
theorem op_notInT (hu : X.A.units + 150 < cLine) : OpR X (compareOp .NotIn) (rInT X.K true) := by
  intro pins s σ H x y v u Q I rx ry h
  rcases h with ⟨d, ds, ⟨hd, ld⟩, hy, hz, q⟩ | ⟨c, z, e1, e2, q⟩
  · obtain ⟨as, r1⟩ := Dp.reads I d x v hd rx
    have room : X.A.units + 1 + min (PyData.depthAll ds) d.depth < cLine := by omega
    rcases hy with ⟨hy, ly⟩ | ⟨hy, ly⟩
    · obtain ⟨bs, r2⟩ := Dp.reads I (.list ds) y u hy ry
      exact SeqAt.notIn_list_reads r2 r1 ly ld room ⟨.bl _, H, I, rfl, q⟩
    · obtain ⟨bs, r2⟩ := Dp.reads I (.tuple ds) y u hy ry
      exact SeqAt.notIn_tuple_reads r2 r1 ly ld room ⟨.bl _, H, I, rfl, q⟩
  · exact op_notIn_sign pins s σ H x y v u Q I rx ry ⟨c, z, e1, e2, q⟩
theorem od_in (neg : Bool) : OpD K (rInT K neg) (fun a b => (inD a b).map fun k => .bool (if neg = true then !k else k)) := by
  intro C O H x y a b z Q hd rx ry e q
  obtain ⟨k, e1, e2⟩ := map_some e
  cases e2
  unfold inD at e1
  split at e1
  · split at e1
    · rename_i hz
      cases e1
      obtain ⟨h1, h2⟩ := ry.dp
      simp only [PyData.canLay0] at h2
      exact .inl ⟨_, _, rx.dp, .inl ⟨h1, h2⟩, hz, q _ H (.refl H) (.bl _)⟩
    · cases e1
  · split at e1
    · rename_i hz
      cases e1
      obtain ⟨h1, h2⟩ := ry.dp
      simp only [PyData.canLay0] at h2
      exact .inl ⟨_, _, rx.dp, .inr ⟨h1, h2⟩, hz, q _ H (.refl H) (.bl _)⟩
    · cases e1
  · cases e1
    cases rx.flat fun _ z => nomatch z
    cases ry.flat fun _ z => nomatch z
    exact .inr ⟨_, _, rfl, rfl, q _ H (.refl H) (.bl _)⟩
  · cases e1
theorem ev_in (hu : X.A.units + 150 < cLine) (hm : behindInMarks .In b = false) (ha : EL X C a fa) (hb : EL X C b fb) : EV X C (.Compare a [.In] [b] pos) (mBin fIn fa fb) := ev_cmpL (op_inT hu) hm (od_in false) ha hb
theorem ev_notIn (hu : X.A.units + 150 < cLine) (hm : behindInMarks .NotIn b = false) (ha : EL X C a fa) (hb : EL X C b fb) : EV X C (.Compare a [.NotIn] [b] pos) (mBin fNotIn fa fb) := ev_cmpL (op_notInT hu) hm (od_in true) ha hb
theorem et_in (hu : X.A.units + 150 < cLine) (hm : behindInMarks .In b = false) (ha : EL X C a fa) (hb : EL X C b fb) : ET X C (.Compare a [.In] [b] pos) (mTst (mBin fIn fa fb)) := et_cmpL (op_inT hu) hm (od_in false) ha hb
theorem et_notIn (hu : X.A.units + 150 < cLine) (hm : behindInMarks .NotIn b = false) (ha : EL X C a fa) (hb : EL X C b fb) : ET X C (.Compare a [.NotIn] [b] pos) (mTst (mBin fNotIn fa fb)) := et_cmpL (op_notInT hu) hm (od_in true) ha hb
end
end Ev
end
section
set_option Elab.async false
set_option linter.all false
set_option autoImplicit false
set_option maxRecDepth 100000
/-! Ev: subscripts, slices, chains, calls of built-ins and of defs. -/
namespace Ev
open PySem PySem.Spec PyProof.Rows L2
section
variable {X : Cx} {C : Cn} {K : PySem.W.Frag} {e a b c : Expr} {es : List Expr} {f fa fb fc : M Dt} {fs : M (List Dt)} {pos : Pos}
/-! ### a op b op c -/
def mCh (p p' : Int → Int → Bool) (fa fb fc : M Dt) : M Dt := fun r j => (fa r j).bind fun x => (fb r x.2).bind fun y => match x.1, y.1 with
  | .int i, .int k => if p i k = true then (fc r y.2).bind fun z => match z.1 with
      | .int l => some (.bool (p' k l), z.2)
      | _ => none
    else some (.bool false, y.2)
  | _, _ => none
theorem chain_core {p p' : Int → Int → Bool} (ha : EL X C a fa) (hb : EL X C b fb) (hc : EL X C c fc) {σ : L2.St} {H : Hp} {Q : VK} (h : tEV X.K C (mCh p p' fa fb fc) σ H Q) :
    tChain (rI0 fun i j => .bl (p i j)) (rI0 fun i j => .bl (p' i j)) (tEL X.K C fa) (tEL X.K C fb) (tEL X.K C fc) σ H Q := by
  obtain ⟨O, r, j, d, j', R, h, q⟩ := h
  obtain ⟨⟨x, j1⟩, e1, h⟩ := bind_some h
  obtain ⟨⟨y, j2⟩, e2, h⟩ := bind_some h
  refine ⟨O, r, j, x, j1, R, e1, fun v H1 k1 q1 rx => ?_⟩
  have R1 := R.keep k1 q1
  refine ⟨O, r, j1, y, j2, R1, e2, fun w H2 k2 q2 ry => ?_⟩
  have R2 := R1.keep k2 q2
  have rx2 := rx.keep R1 k2
  dsimp only at h
  split at h
  · cases rx2.flat fun _ z => nomatch z
    cases ry.flat fun _ z => nomatch z
    refine ⟨_, _, rfl, rfl, _, rfl, ?_⟩
    split at h
    · rename_i hp
      rw [if_pos hp]
      obtain ⟨⟨z, j3⟩, e3, h⟩ := bind_some h
      refine ⟨O, r, j2, z, j3, R2, e3, fun u H3 k3 q3 rz => ?_⟩
      dsimp only at h
      split at h
      · cases rz.flat fun _ z => nomatch z
        cases h
        exact ⟨_, _, rfl, rfl, q _ H3 ((k1.trans k2).trans k3) q3 (.bl _)⟩
      · cases h
    · rename_i hp
      rw [if_neg hp]
      cases h
      exact q _ H2 (k1.trans k2) q2 (.bl _)
  · cases h
theorem ev_ch {op op' : CmpOp} {p p' : Int → Int → Bool} (ho : OpR X (compareOp op) (rI0 fun i j => .bl (p i j))) (ho' : OpR X (compareOp op') (rI0 fun i j => .bl (p' i j))) (ha : EL X C a fa) (hb : EL X C b fb) (hc : EL X C c fc)
    (hm : lastMarks [op, op'] [b, c] = false := by with_unfolding_all rfl) : EV X C (.Compare a [op, op'] [b, c] pos) (mCh p p' fa fb fc) :=
  ⟨pe_weak (pe_chain ho ho' ha.pe hb.pe hc.pe hm) fun _ _ _ h => chain_core ha hb hc h⟩
theorem et_ch {op op' : CmpOp} {p p' : Int → Int → Bool} (ho : OpR X (compareOp op) (rI0 fun i j => .bl (p i j))) (ho' : OpR X (compareOp op') (rI0 fun i j => .bl (p' i j))) (ha : EL X C a fa) (hb : EL X C b fb) (hc : EL X C c fc)
    (hm : lastMarks [op, op'] [b, c] = false := by with_unfolding_all rfl) : ET X C (.Compare a [op, op'] [b, c] pos) (mTst (mCh p p' fa fb fc)) := by
  refine ⟨pt_weak (pt_chain ho ho' ha.pe hb.pe hc.pe hm) fun σ H Q h => chain_core ha hb hc ?_⟩
  obtain ⟨O, r, j, d, j', R, h, q⟩ := h
  obtain ⟨⟨z, j3⟩, g1, g2⟩ := bind_some h
  obtain ⟨k, e4, g3⟩ := map_some g2
  cases g3
  refine ⟨O, r, j, z, j3, R, g1, fun v H' kk w rv => ?_⟩
  cases z <;> first | (cases e4; done) | skip
  cases e4
  cases rv
  exact ⟨_, rfl, q H' kk w⟩
/-! ### subscripts -/
def fIx : Dt → Dt → Option Dt
  | .list ds, .int i => atI ds i
  | .tuple ds, .int i => atI ds i
  | .str z, .int i => (atI z.cps.toList i).map fun c => .str ⟨#[c]⟩
  | _, _ => none
theorem RpA.atI {H : Hp} {vs : List V} {ds : List Dt} {i : Int} {d : Dt} (r : RpA K H vs ds) (h : L2.atI ds i = some d) : ∃ v, L2.atI vs i = some v ∧ Rp K H v d := by
  unfold L2.atI at h ⊢
  rw [r.length]
  cases e : ixN ds.length i with
  | none =>
    rw [e] at h
    cases h
  | some n =>
    rw [e] at h
    exact r.get h
theorem od_ix : OpD K (rIx K) fIx := by
  intro C O H x y a b z Q hd rx ry e q
  unfold fIx at e
  split at e
  · obtain ⟨p, vs, rfl, hs, _, rp⟩ := rx.list
    cases ry.flat fun _ z => nomatch z
    obtain ⟨v, h1, h2⟩ := rp.atI e
    exact .inl ⟨_, _, _, _, rfl, rfl, hs, h1, q v H (.refl H) h2⟩
  · obtain ⟨p, vs, rfl, hs, _, rp⟩ := rx.tup
    cases ry.flat fun _ z => nomatch z
    obtain ⟨v, h1, h2⟩ := rp.atI e
    exact .inr (.inl ⟨_, _, _, _, rfl, rfl, hs, h1, q v H (.refl H) h2⟩)
  · obtain ⟨c, h1, h2⟩ := map_some e
    cases h2
    cases ry.flat fun _ z => nomatch z
    cases rx.flat fun _ z => nomatch z with
    | str _ a1 b1 =>
      refine .inr (.inr ⟨_, _, c, rfl, rfl, b1, h1, q _ H (.refl H) (.str _ ?_ ?_)⟩)
      · obtain ⟨k, _, hk, _⟩ := atI_get h1
        have hm := List.mem_of_getElem? hk
        unfold PyData.strOk at a1 ⊢
        have := Array.all_eq_true'.mp a1 c (by simpa using hm)
        simpa using this
      · show 1 ≤ sizeLine
        rw [sizeLine_eq]
        decide
  · cases e
theorem ev_ix (ha : EL X C a fa) (hb : EV X C b fb) (hs : PlainIx b := by intro _ _; rfl) : EV X C (.Subscript a b pos) (mBin fIx fa fb) :=
  ev_opL (fun _ _ h1 h2 => pe_ix ix_seq h1 h2 hs) od_ix ha (el_of hb)
theorem atI_map {j : List Int} {i n : Int} (h : atI j i = some n) : atI (j.map V.int) i = some (V.int n) := by
  unfold atI at h ⊢
  rw [List.length_map]
  cases e : ixN j.length i with
  | none =>
    rw [e] at h
    cases h
  | some m =>
    rw [e] at h
    show (j.map V.int)[m]? = _
    rw [List.getElem?_map, show j[m]? = some n from h] <;> rfl
/-- the jar's cell -/
def mJix (i : Nat) (fb : M Dt) : M Dt := fun r j => match r[i]? with
  | some (some .jar) => (fb r j).bind fun p => match p.1 with
    | .int k => (atI p.2 k).map fun n => (.int n, p.2)
    | _ => none
  | _ => none
theorem ev_jix (i : Nat) {x : Str} {p2 : Pos} (hb : EV X C b fb) (hN : X.N[i]? = some x := by rfl) (hv : Vis X.env.scope x := by first | exact Or.inl rfl | exact Or.inr (Or.inl rfl) | exact Or.inr (Or.inr rfl)) (hs : PlainIx b := by intro _ _; rfl)
    (hd : (x == ("__debug__" : Str)) = false := by decide) (hcd : (x == ("__classdict__" : Str)) = false := by decide) : EV X C (.Subscript (.Name x p2) b pos) (mJix i fb) := by
  refine ⟨pe_weak (pe_ix ix_list (pe_var hN hv hd hcd) hb.pe hs) fun σ H Q h => ?_⟩
  obtain ⟨O, r, j, d, j', R, h, q⟩ := h
  unfold mJix at h
  split at h
  · rename_i es
    obtain ⟨⟨k, j1⟩, e1, h⟩ := bind_some h
    obtain ⟨p, hp, ev⟩ := R.sl i _ es
    refine ⟨_, ev, O, r, j, k, j1, R, e1, fun y H1 k1 q1 ry => ?_⟩
    dsimp only at h
    split at h
    · obtain ⟨n, e2, h⟩ := map_some h
      cases h
      cases ry
      have e3 := atI_map e2
      exact ⟨p, _, _, _, rfl, rfl, .of (q1 p hp), e3, q _ H1 k1 q1 (.int _)⟩
    · cases h
  · cases h
/-! ### slices -/
def cutD {α : Type} (xs : List α) (lo hi : Option Int) : List α := (xs.drop (HT.sIx xs.length 0 lo)).take (HT.sIx xs.length xs.length hi - HT.sIx xs.length 0 lo)
theorem cutD_whole {α : Type} {xs : List α} {lo hi : Option Int} (h1 : HT.sIx xs.length 0 lo = 0) (h2 : HT.sIx xs.length xs.length hi = xs.length) : cutD xs lo hi = xs := by
  unfold cutD
  rw [h1, h2, List.drop_zero, Nat.sub_zero, List.take_length]
abbrev MO := Rg → Jr → Option (Option Int × Jr)
def tEO (K : PySem.W.Frag) (C : Cn) (f : MO) : TO := fun σ H Q => ∃ O r j i j', Rel K C O σ H r j ∧ f r j = some (i, j') ∧ ∀ H', Keep C H H' → JarIs C H' j' → Q i H'
structure EO (X : Cx) (C : Cn) (e : Option Expr) (f : MO) : Prop where
  po : PO X e (tEO X.K C f)
theorem po_weak {e : Option Expr} {t t' : TO} (h : PO X e t) (w : ∀ σ H Q, t' σ H Q → t σ H Q) : PO X e t' := ⟨fun pins s σ H Q I q => h.run pins s σ H Q I (w σ H Q q)⟩
def mOn : MO := fun _ j => some (none, j)
def mOs (fa : M Dt) : MO := fun r j => (fa r j).bind fun p => match p.1 with
  | .int i => some (some i, p.2)
  | _ => none
theorem eo_none : EO X C none mOn := ⟨po_weak po_none fun σ H Q h => by
  obtain ⟨O, r, j, i, j', R, h, q⟩ := h
  cases h
  exact q H .refl R.jarIs⟩
theorem eo_some (ha : EV X C a fa) : EO X C (some a) (mOs fa) := ⟨po_weak (po_some ha.pe) fun σ H Q h => by
  obtain ⟨O, r, j, i, j', R, h, q⟩ := h
  obtain ⟨⟨x, j1⟩, e1, h⟩ := bind_some h
  refine ⟨O, r, j, x, j1, R, e1, fun v H1 k1 q1 rv => ?_⟩
  dsimp only at h
  split at h
  · cases h
    cases rv
    exact ⟨_, rfl, q H1 k1 q1⟩
  · cases h⟩
def slD : Dt → Option Int → Option Int → Option Dt
  | .list ds, lo, hi => some (.list (cutD ds lo hi))
  | .tuple ds, lo, hi => some (.tuple (cutD ds lo hi))
  | _, _, _ => none
def mSl (fa : M Dt) (l u : MO) : M Dt := fun r j => (fa r j).bind fun x => (l r x.2).bind fun y => (u r y.2).bind fun z => (slD x.1 y.1 z.1).map fun w => (w, z.2)
theorem RpA.cut {H : Hp} {vs : List V} {ds : List Dt} (r : RpA K H vs ds) (lo hi : Option Int) : RpA K H (cutV vs lo hi) (cutD ds lo hi) := by
  unfold cutV cutD
  rw [r.length]
  exact (r.drop _).take _
theorem ev_slice {lo hi : Option Expr} {l u : MO} {p2 : Pos} (ha : EL X C a fa) (hl : EO X C lo l) (hu : EO X C hi u) : EV X C (.Subscript a (.Slice lo hi none p2) pos) (mSl fa l u) := by
  refine ⟨pe_weak (pe_slice (sl_list.or sl_tupA) ha.pe hl.po hu.po) fun σ H Q h => ?_⟩
  obtain ⟨O, r, j, d, j', R, h, q⟩ := h
  obtain ⟨⟨x, j1⟩, e1, h⟩ := bind_some h
  obtain ⟨⟨y, j2⟩, e2, h⟩ := bind_some h
  obtain ⟨⟨z, j3⟩, e3, h⟩ := bind_some h
  obtain ⟨w, e4, h⟩ := map_some h
  cases h
  refine ⟨O, r, j, x, j1, R, e1, fun v H1 k1 q1 rx => ?_⟩
  have R1 := R.keep k1 q1
  refine ⟨O, r, j1, y, j2, R1, e2, fun H2 k2 q2 => ?_⟩
  have R2 := R1.keep k2 q2
  refine ⟨O, r, j2, z, j3, R2, e3, fun H3 k3 q3 => ?_⟩
  have R3 := R2.keep k3 q3
  have rx3 := (rx.keep R1 k2).keep R2 k3
  have kk := (k1.trans k2).trans k3
  dsimp only at e4
  unfold slD at e4
  split at e4
  · cases e4
    obtain ⟨p, vs, rfl, hs, hz, rp⟩ := rx3.list
    refine .inl ⟨_, _, rfl, hs, fun p hp => ?_⟩
    exact q _ _ (kk.trans (.of (same_upd hp))) (q3.same (same_upd hp)) (rep_newL (R3.fresh hp) hp (Nat.le_trans (cutV_length _ _ _) hz) (rp.cut _ _))
  · cases e4
    have rx4 := rx3.flat fun _ z => nomatch z
    obtain ⟨p, vs, rfl, hs, hz, rp⟩ := rx3.tup
    refine .inr ⟨_, _, rfl, hs, fun hw => ?_, fun _ p hp => ?_⟩
    · rw [rp.length] at hw
      rw [cutD_whole hw.1 hw.2] at q
      exact q _ H3 kk q3 rx4
    · exact q _ _ (kk.trans (.of (same_upd hp))) (q3.same (same_upd hp)) (rep_newT (R3.fresh hp) hp (Nat.le_trans (cutV_length _ _ _) hz) (rp.cut _ _))
  · cases e4
/-! ### calls of built-ins -/
/-- one argument, seen -/
def UnD (K : PySem.W.Frag) (r : List V → Hp → VK → Prop) (g : Dt → Option Dt) : Prop := ∀ (C : Cn) (O : Addr → Prop) (H : Hp) (x : V) (a z : Dt) (Q : VK), (∀ p, O p → H p ≠ none) → View K C O H x a → g a = some z →
  (∀ v H', Same H H' → Rep K O H' v z → Q v H') → r [x] H Q
theorem un_core {r : List V → Hp → VK → Prop} {g : Dt → Option Dt} (hd : UnD X.K r g) {σ : L2.St} {H : Hp} {Q : VK} (h : tEV X.K C (mUn g fa) σ H Q) : tCB r (tCons (tEL X.K C fa) tNil) σ H Q := by
  obtain ⟨O, ρ, j, d, j', R, h, q⟩ := h
  obtain ⟨⟨x, j1⟩, e1, h⟩ := bind_some h
  obtain ⟨z, e2, h⟩ := map_some h
  cases h
  refine ⟨O, ρ, j, x, _, R, e1, fun v H1 k1 q1 rx => ?_⟩
  have R1 := R.keep k1 q1
  exact hd C O H1 v x _ Q R1.dom rx e2 fun w H' s rw' => q w H' (k1.trans (.of s)) (q1.same s) rw'
theorem ev_b1 {r : List V → Hp → VK → Prop} {g : Dt → Option Dt} {id : String} {x : Str} {p : Pos} (hc : CallR X (.builtin id) r) (hd : UnD X.K r g) (hm : X.mg x = none) (hv : bootBuiltins x = some (.builtin id)) (ha : EL X C e fa) (hg : Gl X x := by rfl)
    (hn : x ≠ "__name__" := by decide) (hdb : (x == ("__debug__" : Str)) = false := by decide)
    (he : starEach [e] X.env = (false, eval e X.env) :: starEach [] X.env := by rfl) : EV X C (.Call (.Name x p) [e] [] pos) (mUn g fa) :=
  ⟨pe_weak (pe_callB hc hg hm hv (pa_cons ha.pe pa_nil he) hn hdb he rfl) fun _ _ _ h => un_core hd h⟩
theorem ev_t1 {r : List V → Hp → VK → Prop} {g : Dt → Option Dt} {T : String} {x : Str} {p : Pos} (hc : CallR X (.type T) r) (hd : UnD X.K r g) (hm : X.mg x = none) (hv : bootBuiltins x = some (.type T)) (ha : EL X C e fa) (hg : Gl X x := by rfl)
    (hn : x ≠ "__name__" := by decide) (hdb : (x == ("__debug__" : Str)) = false := by decide)
    (he : starEach [e] X.env = (false, eval e X.env) :: starEach [] X.env := by rfl) : EV X C (.Call (.Name x p) [e] [] pos) (mUn g fa) :=
  ⟨pe_weak (pe_callTy hc hg hm hv (pa_cons ha.pe pa_nil he) hn hdb he rfl) fun _ _ _ h => un_core hd h⟩
def gLen : Dt → Option Dt
  | .list ds => some (.int ds.length)
  | .tuple ds => some (.int ds.length)
  | .str z => some (.int z.length)
  | _ => none
theorem ud_len : UnD K (fun xs H Q => ∃ x n, xs = [x] ∧ LenV K x H n ∧ Q (.int n) H) gLen := by
  intro C O H x a z Q hd rx e q
  unfold gLen at e
  split at e
  · cases e
    obtain ⟨p, vs, rfl, hs, _, rp⟩ := rx.list
    refine ⟨_, vs.length, rfl, .inl ⟨_, hs, rfl⟩, ?_⟩
    rw [rp.length]
    exact q _ H (.refl H) (.int _)
  · cases e
    obtain ⟨p, vs, rfl, hs, _, rp⟩ := rx.tup
    refine ⟨_, vs.length, rfl, .inr ⟨_, hs, rfl⟩, ?_⟩
    rw [rp.length]
    exact q _ H (.refl H) (.int _)
  · cases e
    cases rx.flat fun _ z => nomatch z with
    | str _ a1 b1 => exact ⟨_, _, rfl, ⟨b1, rfl⟩, q _ H (.refl H) (.int _)⟩
  · cases e
theorem ev_len {p : Pos} (hm : X.mg "len" = none) (ha : EL X C e fa) (hg : Gl X "len" := by rfl) (he : starEach [e] X.env = (false, eval e X.env) :: starEach [] X.env := by rfl) : EV X C (.Call (.Name "len" p) [e] [] pos) (mUn gLen fa) :=
  ev_b1 call_len ud_len hm (by decide +kernel) ha hg (by decide) (by decide) he
def gAbs : Dt → Option Dt
  | .int i => some (.int (if i < 0 then -i else i))
  | _ => none
theorem ev_abs {p : Pos} (hm : X.mg "abs" = none) (ha : EL X C e fa) (hg : Gl X "abs" := by rfl) (he : starEach [e] X.env = (false, eval e X.env) :: starEach [] X.env := by rfl) : EV X C (.Call (.Name "abs" p) [e] [] pos) (mUn gAbs fa) :=
  ev_b1 call_abs (by
    intro C O H x a z Q hd rx e q
    unfold gAbs at e
    split at e
    · cases e
      cases rx.flat fun _ z => nomatch z
      exact ⟨_, rfl, q _ H (.refl H) (.int _)⟩
    · cases e) hm (by decide +kernel) ha hg (by decide) (by decide) he
def gInt : Dt → Option Dt
  | .int i => some (.int i)
  | .bool k => some (.int (if k = true then 1 else 0))
  | _ => none
theorem ev_int1 {p : Pos} (hm : X.mg "int" = none) (ha : EL X C e fa) (hg : Gl X "int" := by rfl) (he : starEach [e] X.env = (false, eval e X.env) :: starEach [] X.env := by rfl) : EV X C (.Call (.Name "int" p) [e] [] pos) (mUn gInt fa) :=
  ev_t1 call_int1 (by
    intro C O H x a z Q hd rx e q
    unfold gInt at e
    split at e
    · cases e
      cases rx.flat fun _ z => nomatch z
      exact .inl ⟨_, rfl, q _ H (.refl H) (.int _)⟩
    · cases e
      cases rx.flat fun _ z => nomatch z
      exact .inr ⟨_, rfl, q _ H (.refl H) (.int _)⟩
    · cases e) hm (by decide +kernel) ha hg (by decide) (by decide) he
/-- a list of bools -/
def bools : List Dt → Option (List Bool)
  | [] => some []
  | .bool b :: r => (bools r).map (b :: ·)
  | _ :: _ => none
theorem bools_vals {H : Hp} : ∀ {ds : List Dt} {vs : List V} {bs : List Bool}, RpA K H vs ds → bools ds = some bs → vs = bs.map V.bl
  | [], _, _, .nil, e => by
    cases e
    rfl
  | .bool b :: r, _, bs, .cons h t, e => by
    obtain ⟨bs', e1, e2⟩ := map_some e
    subst e2
    cases h
    rw [bools_vals t e1]
    rfl
def gAll : Dt → Option Dt
  | .list ds => (bools ds).map fun bs => .bool (bs.all id)
  | _ => none
def gAny : Dt → Option Dt
  | .list ds => (bools ds).map fun bs => .bool (bs.any id)
  | _ => none
theorem ud_all : UnD K (fun xs H Q => ∃ (l : Addr) (bs : List Bool), xs = [.ref l] ∧ SqL K H l (bs.map V.bl) ∧ Q (.bl (bs.all id)) H) gAll := by
  intro C O H x a z Q hd rx e q
  unfold gAll at e
  split at e
  · obtain ⟨bs, e1, e2⟩ := map_some e
    cases e2
    obtain ⟨p, vs, rfl, hs, _, rp⟩ := rx.list
    rw [bools_vals rp e1] at hs
    exact ⟨_, bs, rfl, hs, q _ H (.refl H) (.bl _)⟩
  · cases e
theorem ev_all {p : Pos} (hc : X.calm = true) (hm : X.mg "all" = none) (ha : EL X C e fa) (hg : Gl X "all" := by rfl) (he : starEach [e] X.env = (false, eval e X.env) :: starEach [] X.env := by rfl) : EV X C (.Call (.Name "all" p) [e] [] pos) (mUn gAll fa) :=
  ev_b1 (cr_all hc) ud_all hm (by decide +kernel) ha hg (by decide) (by decide) he
theorem ev_any {p : Pos} (hc : X.calm = true) (hm : X.mg "any" = none) (ha : EL X C e fa) (hg : Gl X "any" := by rfl) (he : starEach [e] X.env = (false, eval e X.env) :: starEach [] X.env := by rfl) : EV X C (.Call (.Name "any" p) [e] [] pos) (mUn gAny fa) :=
  ev_b1 (cr_any hc) (by
    intro C O H x a z Q hd rx e q
    unfold gAny at e
    split at e
    · obtain ⟨bs, e1, e2⟩ := map_some e
      cases e2
      obtain ⟨p, vs, rfl, hs, _, rp⟩ := rx.list
      rw [bools_vals rp e1] at hs
      exact ⟨_, bs, rfl, hs, q _ H (.refl H) (.bl _)⟩
    · cases e) hm (by decide +kernel) ha hg (by decide) (by decide) he
/-- a list of ints -/
def asInts : List Dt → Option (List Int)
  | [] => some []
  | .int b :: r => (asInts r).map (b :: ·)
  | _ :: _ => none
theorem ints_vals {H : Hp} : ∀ {ds : List Dt} {vs : List V} {bs : List Int}, RpA K H vs ds → asInts ds = some bs → vs = bs.map V.int
  | [], _, _, .nil, e => by
    cases e
    rfl
  | .int b :: r, _, bs, .cons h t, e => by
    obtain ⟨bs', e1, e2⟩ := map_some e
    subst e2
    cases h
    rw [ints_vals t e1]
    rfl
def gSum : Dt → Option Dt
  | .list ds => (asInts ds).map fun ns => .int ns.sum
  | _ => none
theorem ev_sum {p : Pos} (hc : X.calm = true) (hm : X.mg "sum" = none) (ha : EL X C e fa) (hg : Gl X "sum" := by rfl) (he : starEach [e] X.env = (false, eval e X.env) :: starEach [] X.env := by rfl) : EV X C (.Call (.Name "sum" p) [e] [] pos) (mUn gSum fa) :=
  ev_b1 (cr_sum hc) (by
    intro C O H x a z Q hd rx e q
    unfold gSum at e
    split at e
    · obtain ⟨bs, e1, e2⟩ := map_some e
      cases e2
      obtain ⟨p, vs, rfl, hs, _, rp⟩ := rx.list
      rw [ints_vals rp e1] at hs
      exact ⟨_, bs, rfl, hs, q _ H (.refl H) (.int _)⟩
    · cases e) hm (by decide +kernel) ha hg (by decide) (by decide) he
def gTuple : Dt → Option Dt
  | .list ds => some (.tuple ds)
  | .tuple ds => some (.tuple ds)
  | _ => none
theorem ev_tuple {p : Pos} (hm : X.mg "tuple" = none) (ha : EL X C e fa) (hg : Gl X "tuple" := by rfl) (he : starEach [e] X.env = (false, eval e X.env) :: starEach [] X.env := by rfl) : EV X C (.Call (.Name "tuple" p) [e] [] pos) (mUn gTuple fa) :=
  ev_t1 call_tuple_of (by
    intro C O H x a z Q hd rx e q
    unfold gTuple at e
    split at e
    · cases e
      obtain ⟨p, vs, rfl, hs, hz, rp⟩ := rx.list
      exact ⟨_, _, rfl, .inl ⟨hs, fun l hl => q _ _ (same_upd hl) (rep_newT (fun o => hd l o hl) hl hz rp)⟩⟩
    · cases e
      have r0 := rx.flat fun _ z => nomatch z
      obtain ⟨p, vs, rfl, hs, hz, rp⟩ := rx.tup
      exact ⟨_, _, rfl, .inr ⟨hs, q _ H (.refl H) r0⟩⟩
    · cases e) hm (by decide +kernel) ha hg (by decide) (by decide) he
def gList : Dt → Option Dt
  | .list ds => some (.list ds)
  | .tuple ds => some (.list ds)
  | _ => none
theorem ev_list {p : Pos} (hm : X.mg "list" = none) (ha : EL X C e fa) (hg : Gl X "list" := by rfl) (he : starEach [e] X.env = (false, eval e X.env) :: starEach [] X.env := by rfl) : EV X C (.Call (.Name "list" p) [e] [] pos) (mUn gList fa) :=
  ev_t1 call_list_of (by
    intro C O H x a z Q hd rx e q
    unfold gList at e
    split at e
    · cases e
      obtain ⟨p, vs, rfl, hs, hz, rp⟩ := rx.list
      exact ⟨_, _, rfl, .inl hs, fun l hl => q _ _ (same_upd hl) (rep_newL (fun o => hd l o hl) hl hz rp)⟩
    · cases e
      obtain ⟨p, vs, rfl, hs, hz, rp⟩ := rx.tup
      exact ⟨_, _, rfl, .inr hs, fun l hl => q _ _ (same_upd hl) (rep_newL (fun o => hd l o hl) hl hz rp)⟩
    · cases e) hm (by decide +kernel) ha hg (by decide) (by decide) he
/-! ### isinstance -/
def tyD : Dt → String
  | .none => "NoneType"
  | .bool _ => "bool"
  | .int _ => "int"
  | .str _ => "str"
  | .list _ => "list"
  | .tuple _ => "tuple"
  | .dict _ => "dict"
/-- of built-in types -/
def gIsi (T : String) (d : Dt) : Option Dt := (kitB (tyD d) T).map .bool
theorem view_ty {C : Cn} {O : Addr → Prop} {H : Hp} {x : V} {d : Dt} (h : View K C O H x d) : TyX K H x (.type (tyD d)) := by
  rcases h.rp with h0 | ⟨a, vs, ds, rfl, rfl, hs, _⟩
  · cases h0 with
    | non => exact .base .non
    | bl b => exact .base (.bl b)
    | int i => exact .base (.int i)
    | str x _ _ => exact .base (.str x)
    | lst h1 _ _ => exact .base (.lst h1)
    | tup h1 _ _ =>
      rcases h1 with (h | ⟨o, h⟩) | ⟨o, its, n, hk, hc, _⟩
      · exact .base (.tup h)
      · exact .fTuple h
      · exact .kTuple hk hc
  · rcases hs with (h | ⟨o, h⟩) | ⟨o, its, n, hk, hc, _⟩
    · exact .base (.lst h)
    · exact .base (.frz h)
    · exact .kList hk hc
theorem ev_isi {T : String} {xT : Str} {p p2 : Pos} (hm : X.mg "isinstance" = none) (hmT : X.mg xT = none) (hvT : bootBuiltins xT = some (.type T)) (ha : EL X C e fa) (hg : Gl X "isinstance" := by rfl) (hgT : Gl X xT := by rfl)
    (hnT : xT ≠ "__name__" := by decide) (hdT : (xT == ("__debug__" : Str)) = false := by decide)
    (he : starEach [e, .Name xT p2] X.env = (false, eval e X.env) :: starEach [.Name xT p2] X.env := by rfl) (he2 : starEach [.Name xT p2] X.env = (false, eval (.Name xT p2) X.env) :: starEach [] X.env := by rfl)
    (hpl : (backTo pos (starEach [.Name xT p2] X.env)).any (·.1) = false := by rfl) :
    EV X C (.Call (.Name "isinstance" p) [e, .Name xT p2] [] pos) (mUn (gIsi T) fa) := by
  refine ⟨pe_weak (pe_callB call_isi hg hm (by decide +kernel) (pa_cons ha.pe (pa_cons (pe_bltn (v := .ty T) hgT hmT hvT rfl hnT hdT) pa_nil he2) he) (by decide) (by decide) he hpl) fun σ H Q h => ?_⟩
  obtain ⟨O, ρ, j, d, j', R, h, q⟩ := h
  obtain ⟨⟨x, j1⟩, e1, h⟩ := bind_some h
  obtain ⟨z, e2, h⟩ := map_some h
  cases h
  obtain ⟨k, e3, e4⟩ := map_some e2
  cases e4
  refine ⟨O, ρ, j, x, _, R, e1, fun v H1 k1 q1 rx => ?_⟩
  exact ⟨v, .ty T, _, _, k, rfl, .ty T, view_ty rx, kit_ty e3, q _ H1 k1 q1 (.bl _)⟩
/-! ### two arguments -/
def BiD (K : PySem.W.Frag) (r : List V → Hp → VK → Prop) (g : Dt → Dt → Option Dt) : Prop := ∀ (C : Cn) (O : Addr → Prop) (H : Hp) (x y : V) (a b z : Dt) (Q : VK), (∀ p, O p → H p ≠ none) → View K C O H x a → View K C O H y b → g a b = some z →
  (∀ v H', Same H H' → Rep K O H' v z → Q v H') → r [x, y] H Q
theorem bi_core {r : List V → Hp → VK → Prop} {g : Dt → Dt → Option Dt} (hd : BiD X.K r g) {σ : L2.St} {H : Hp} {Q : VK} (h : tEV X.K C (mBin g fa fb) σ H Q) : tCB r (tCons (tEL X.K C fa) (tCons (tEL X.K C fb) tNil)) σ H Q := by
  obtain ⟨O, ρ, j, d, j', R, h, q⟩ := h
  obtain ⟨⟨x, j1⟩, e1, h⟩ := bind_some h
  obtain ⟨⟨y, j2⟩, e2, h⟩ := bind_some h
  obtain ⟨z, e3, h⟩ := map_some h
  cases h
  refine ⟨O, ρ, j, x, j1, R, e1, fun v H1 k1 q1 rx => ?_⟩
  have R1 := R.keep k1 q1
  refine ⟨O, ρ, j1, y, j2, R1, e2, fun w H2 k2 q2 ry => ?_⟩
  have R2 := R1.keep k2 q2
  exact hd C O H2 v w x y _ Q R2.dom (rx.keep R1 k2) ry e3 fun u H' s ru => q u H' ((k1.trans k2).trans (.of s)) (q2.same s) ru
theorem ev_b2 {r : List V → Hp → VK → Prop} {g : Dt → Dt → Option Dt} {id : String} {x : Str} {p : Pos} (hc : CallR X (.builtin id) r) (hd : BiD X.K r g) (hm : X.mg x = none) (hv : bootBuiltins x = some (.builtin id)) (ha : EL X C a fa) (hb : EL X C b fb) (hg : Gl X x := by rfl)
    (hn : x ≠ "__name__" := by decide) (hdb : (x == ("__debug__" : Str)) = false := by decide)
    (he : starEach [a, b] X.env = (false, eval a X.env) :: starEach [b] X.env := by rfl) (he2 : starEach [b] X.env = (false, eval b X.env) :: starEach [] X.env := by rfl) (hpl : (backTo pos (starEach [b] X.env)).any (·.1) = false := by rfl) :
    EV X C (.Call (.Name x p) [a, b] [] pos) (mBin g fa fb) :=
  ⟨pe_weak (pe_callB hc hg hm hv (pa_cons ha.pe (pa_cons hb.pe pa_nil he2) he) hn hdb he hpl) fun _ _ _ h => bi_core hd h⟩
def gGcd : Dt → Dt → Option Dt
  | .int i, .int k => some (.int ((Nat.gcd i.natAbs k.natAbs : Nat) : Int))
  | _, _ => none
theorem ev_gcd {p : Pos} (hm : X.mg "gcd" = some (.builtin "math.gcd")) (ha : EL X C a fa) (hb : EL X C b fb) (hg : Gl X "gcd" := by rfl)
    (he : starEach [a, b] X.env = (false, eval a X.env) :: starEach [b] X.env := by rfl) (he2 : starEach [b] X.env = (false, eval b X.env) :: starEach [] X.env := by rfl) (hpl : (backTo pos (starEach [b] X.env)).any (·.1) = false := by rfl) :
    EV X C (.Call (.Name "gcd" p) [a, b] [] pos) (mBin gGcd fa fb) :=
  ⟨pe_weak (pe_callBfun cr_gcd hg hm (pa_cons ha.pe (pa_cons hb.pe pa_nil he2) he) (by decide) he hpl) fun _ _ _ h => bi_core (by
    intro C O H x y a b z Q hd rx ry e q
    unfold gGcd at e
    split at e
    · cases e
      cases rx.flat fun _ z => nomatch z
      cases ry.flat fun _ z => nomatch z
      exact ⟨_, _, rfl, q _ H (.refl H) (.int _)⟩
    · cases e) h⟩
def gDivmod : Dt → Dt → Option Dt
  | .int i, .int k => if 0 < k ∧ k < 1073741824 then some (.tuple [.int (i / k), .int (i % k)]) else none
  | _, _ => none
theorem ev_divmod {p : Pos} (hm : X.mg "divmod" = none) (ha : EL X C a fa) (hb : EL X C b fb) (hg : Gl X "divmod" := by rfl)
    (he : starEach [a, b] X.env = (false, eval a X.env) :: starEach [b] X.env := by rfl) (he2 : starEach [b] X.env = (false, eval b X.env) :: starEach [] X.env := by rfl) (hpl : (backTo pos (starEach [b] X.env)).any (·.1) = false := by rfl) :
    EV X C (.Call (.Name "divmod" p) [a, b] [] pos) (mBin gDivmod fa fb) :=
  ev_b2 call_divmod (by
    intro C O H x y a b z Q hd rx ry e q
    unfold gDivmod at e
    split at e
    · split at e
      · rename_i hk
        cases e
        cases rx.flat fun _ z => nomatch z
        cases ry.flat fun _ z => nomatch z
        exact ⟨_, _, rfl, hk, fun p hp => q _ _ (same_upd hp) (rep_newT (fun o => hd p o hp) hp (by show 2 ≤ sizeLine; rw [sizeLine_eq]; decide) (.cons (.int _) (.cons (.int _) .nil)))⟩
      · cases e
    · cases e) hm (by decide +kernel) ha hb hg (by decide) (by decide) he he2 hpl
def gMax : Dt → Dt → Option Dt
  | .int i, .int k => some (.int (if k > i then k else i))
  | _, _ => none
def gMin : Dt → Dt → Option Dt
  | .int i, .int k => some (.int (if k < i then k else i))
  | _, _ => none
theorem ev_max {p : Pos} (hc : X.calm = true) (hm : X.mg "max" = none) (ha : EL X C a fa) (hb : EL X C b fb) (hg : Gl X "max" := by rfl)
    (he : starEach [a, b] X.env = (false, eval a X.env) :: starEach [b] X.env := by rfl) (he2 : starEach [b] X.env = (false, eval b X.env) :: starEach [] X.env := by rfl) (hpl : (backTo pos (starEach [b] X.env)).any (·.1) = false := by rfl) :
    EV X C (.Call (.Name "max" p) [a, b] [] pos) (mBin gMax fa fb) :=
  ev_b2 (call_max2 hc) (by
    intro C O H x y a b z Q hd rx ry e q
    unfold gMax at e
    split at e
    · cases e
      cases rx.flat fun _ z => nomatch z
      cases ry.flat fun _ z => nomatch z
      exact ⟨_, _, rfl, q _ H (.refl H) (.int _)⟩
    · cases e) hm (by decide +kernel) ha hb hg (by decide) (by decide) he he2 hpl
theorem ev_min {p : Pos} (hc : X.calm = true) (hm : X.mg "min" = none) (ha : EL X C a fa) (hb : EL X C b fb) (hg : Gl X "min" := by rfl)
    (he : starEach [a, b] X.env = (false, eval a X.env) :: starEach [b] X.env := by rfl) (he2 : starEach [b] X.env = (false, eval b X.env) :: starEach [] X.env := by rfl) (hpl : (backTo pos (starEach [b] X.env)).any (·.1) = false := by rfl) :
    EV X C (.Call (.Name "min" p) [a, b] [] pos) (mBin gMin fa fb) :=
  ev_b2 (call_min2 hc) (by
    intro C O H x y a b z Q hd rx ry e q
    unfold gMin at e
    split at e
    · cases e
      cases rx.flat fun _ z => nomatch z
      cases ry.flat fun _ z => nomatch z
      exact ⟨_, _, rfl, q _ H (.refl H) (.int _)⟩
    · cases e) hm (by decide +kernel) ha hb hg (by decide) (by decide) he he2 hpl
end
end Ev
end
section
set_option Elab.async false
set_option linter.all false
set_option autoImplicit false
set_option maxRecDepth 100000
/-! Ev: statements, targets, loops. -/
namespace Ev
open PySem PySem.Spec PyProof.Rows L2
section
variable {K : PySem.W.Frag} {C : Cn} {O O' : Addr → Prop} {σ : L2.St} {H H' : Hp} {r : Rg} {j j' : Jr}
/-! ### the slots are set -/
theorem get_set {α : Type} {l : List α} {i k : Nat} {v w : α} (h : (l.set i v)[k]? = some w) : (k = i ∧ w = v ∧ i < l.length) ∨ (k ≠ i ∧ l[k]? = some w) := by
  by_cases e : k = i
  · subst e
    by_cases hl : k < l.length
    · rw [List.getElem?_set_self hl] at h
      cases h
      exact .inl ⟨rfl, rfl, hl⟩
    · rw [List.getElem?_eq_none (by rw [List.length_set]; omega)] at h
      cases h
  · rw [List.getElem?_set_ne (Ne.symm e)] at h
    exact .inr ⟨e, h⟩
theorem Rel.setD (R : Rel K C O σ H r j) (i : Nat) {v : V} {d : Dt} (rv : Rep K O H v d) : Rel K C O (σ.set i (some v)) H (r.set i (some (.d d))) j := by
  refine ⟨R.sub, R.dom, R.grow, R.jar, fun k s e => ?_, fun k l p xs ys e1 e2 e3 e4 => ?_, by rw [List.length_set, List.length_set, R.len]⟩
  · rcases get_set e with ⟨rfl, e2, hl⟩ | ⟨hk, e2⟩
    · cases e2
      exact ⟨v, List.getElem?_set_self (by rw [R.len]; exact hl), rv⟩
    · rw [List.getElem?_set_ne (Ne.symm hk)]
      exact R.sl k s e2
  · rcases get_set e1 with ⟨_, z, _⟩ | ⟨hk, e1⟩
    · cases z
    · rcases get_set e2 with ⟨_, z, _⟩ | ⟨hl, e2⟩
      · cases z
      · rw [List.getElem?_set_ne (Ne.symm hk)] at e3
        rw [List.getElem?_set_ne (Ne.symm hl)] at e4
        exact R.inj k l p xs ys e1 e2 e3 e4
/-- a slot forgotten -/
theorem Rel.setN (R : Rel K C O σ H r j) (i : Nat) : Rel K C O (σ.set i none) H (r.set i none) j := by
  refine ⟨R.sub, R.dom, R.grow, R.jar, fun k s e => ?_, fun k l p xs ys e1 e2 e3 e4 => ?_, by rw [List.length_set, List.length_set, R.len]⟩
  · rcases get_set e with ⟨rfl, e2, hl⟩ | ⟨hk, e2⟩
    · cases e2
    · rw [List.getElem?_set_ne (Ne.symm hk)]
      exact R.sl k s e2
  · rcases get_set e1 with ⟨_, z, _⟩ | ⟨hk, e1⟩
    · cases z
    · rcases get_set e2 with ⟨_, z, _⟩ | ⟨hl, e2⟩
      · cases z
      · rw [List.getElem?_set_ne (Ne.symm hk)] at e3
        rw [List.getElem?_set_ne (Ne.symm hl)] at e4
        exact R.inj k l p xs ys e1 e2 e3 e4
/-- what is owned grows by a new list (which is at p) -/
abbrev ownP (O : Addr → Prop) (p : Addr) : Addr → Prop := fun a => O a ∨ a = p
/-- the same state, more owned, more in the heap -/
theorem Rel.more (R : Rel K C O σ H r j) (s : ∀ a, O a → O' a) (d : ∀ a, O' a → H' a ≠ none) (x : Ext O H O' H') (k : Keep C H H') (q : JarIs C H' j') : Rel K C O' σ H' r j' := by
  refine ⟨fun a h => s a (R.sub a h), d, fun a o h n => k a o (R.grow a o h n) n, fun p e => ⟨(R.jar p e).1, q p e⟩, fun i t e => ?_, R.inj, R.len⟩
  have h := R.sl i t e
  cases t with
  | d x' =>
    obtain ⟨u, e1, rp⟩ := h
    exact ⟨u, e1, x.rep rp⟩
  | own xs =>
    obtain ⟨p, vs, e1, e2, z, op, n0, he, np, rp⟩ := h
    exact ⟨p, vs, e1, k _ _ e2 np, z, s _ op, n0, he, np, x.reps rp⟩
  | jar => exact h
  | scr ns => exact h
theorem ext_own {p : Addr} {x : HO} (hp : H p = none) : Ext O H (ownP O p) (upd H p x) := fun a o h n => by
  have ha := ne_of_none h hp
  exact ⟨by rw [upd_ne ha]; exact h, fun z => z.elim n ha⟩
theorem Rel.newOwn (R : Rel K C O σ H r j) {p : Addr} (x : HO) (hp : H p = none) : Rel K C (ownP O p) σ (upd H p x) r j := by
  refine R.more (fun a h => .inl h) (fun a h => ?_) (ext_own hp) (.of (same_upd hp)) (R.jarIs.same (same_upd hp))
  rcases h with h | rfl
  · have ha : a ≠ p := fun e => by
      subst e
      exact R.dom a h hp
    rw [upd_ne ha]
    exact R.dom a h
  · rw [upd_same]
    exact fun z => nomatch z
/-- an owned object that is no slot's is changed -/
theorem Rel.updOwned (R : Rel K C O σ H r j) {p : Addr} {x : HO} (op : O p) (he : C.He p = none) (np : C.pj ≠ some p) (ns : ∀ (i : Nat) xs, r[i]? = some (some (.own xs)) → σ[i]? ≠ some (some (.ref p))) : Rel K C O σ (upd H p x) r j := by
  have kp : ∀ a o, a ≠ p → H a = some o → upd H p x a = some o := fun a o n h => by
    rw [upd_ne n]
    exact h
  have ex : Ext O H O (upd H p x) := fun a o h n => ⟨kp a o (fun e => n (e ▸ op)) h, n⟩
  refine ⟨R.sub, fun a h => ?_, fun a o h n => kp a o (fun e => by rw [e, he] at h; cases h) (R.grow a o h n), fun q e => ⟨(R.jar q e).1, kp q _ (fun z => np (z ▸ e)) (R.jar q e).2⟩, fun i t e => ?_, R.inj, R.len⟩
  · by_cases ha : a = p
    · rw [ha, upd_same]
      exact fun z => nomatch z
    · rw [upd_ne ha]
      exact R.dom a h
  · have h := R.sl i t e
    cases t with
    | d x' =>
      obtain ⟨u, e1, rp⟩ := h
      exact ⟨u, e1, ex.rep rp⟩
    | own xs =>
      obtain ⟨q, vs, e1, e2, z, oq, n0, hq, nq, rp⟩ := h
      exact ⟨q, vs, e1, kp q _ (fun z => ns i xs e (z ▸ e1)) e2, z, oq, n0, hq, nq, ex.reps rp⟩
    | jar => exact h
    | scr ns => exact h
/-- an owned list that stands at p, held by no slot, comes into slot i -/
theorem Rel.setOwn (R : Rel K C O σ H r j) (i : Nat) {p : Addr} {vs : List V} {ds : List Dt} (hp : H p = some (.lst vs)) (z : vs.length ≤ sizeLine) (op : O p) (n0 : ¬ C.O0 p) (he : C.He p = none) (np : C.pj ≠ some p) (rp : Reps K O H vs ds)
    (ns : ∀ (k : Nat) xs, k ≠ i → r[k]? = some (some (.own xs)) → σ[k]? ≠ some (some (.ref p))) : Rel K C O (σ.set i (some (.ref p))) H (r.set i (some (.own ds))) j := by
  refine ⟨R.sub, R.dom, R.grow, R.jar, fun k s e => ?_, fun k l q xs ys e1 e2 e3 e4 => ?_, by rw [List.length_set, List.length_set, R.len]⟩
  · rcases get_set e with ⟨rfl, e2, hl⟩ | ⟨hk, e2⟩
    · cases e2
      exact ⟨p, vs, List.getElem?_set_self (by rw [R.len]; exact hl), hp, z, op, n0, he, np, rp⟩
    · rw [List.getElem?_set_ne (Ne.symm hk)]
      exact R.sl k s e2
  · rcases get_set e1 with ⟨h1, z1, hl⟩ | ⟨hk, f1⟩
    · subst h1
      rcases get_set e2 with ⟨h2, z2, _⟩ | ⟨hl2, f2⟩
      · exact h2.symm
      · rw [List.getElem?_set_self (by rw [R.len]; exact hl)] at e3
        rw [List.getElem?_set_ne (Ne.symm hl2)] at e4
        cases e3
        exact absurd e4 (ns l ys hl2 f2)
    · rcases get_set e2 with ⟨h2, z2, hl⟩ | ⟨hl2, f2⟩
      · subst h2
        rw [List.getElem?_set_ne (Ne.symm hk)] at e3
        rw [List.getElem?_set_self (by rw [R.len]; exact hl)] at e4
        cases e4
        exact absurd e3 (ns k xs hk f1)
      · rw [List.getElem?_set_ne (Ne.symm hk)] at e3
        rw [List.getElem?_set_ne (Ne.symm hl2)] at e4
        exact R.inj k l q xs ys f1 f2 e3 e4
/-- an own list is one's own no more -/
theorem Rel.frz (R : Rel K C O σ H r j) {i : Nat} {xs : List Dt} (e : r[i]? = some (some (.own xs))) : ∃ O', Rel K C O' σ H (r.set i (some (.d (.list xs)))) j ∧ ∀ a, O' a → O a := by
  obtain ⟨p, vs, e1, e2, z, op, n0, he, np, rp⟩ := R.sl i _ e
  have an : ∀ a, (O a ∧ a ≠ p) → O a := fun a h => h.1
  have ex : Same (hid O H) (hid (fun a => O a ∧ a ≠ p) H) := hid_anti an
  refine ⟨fun a => O a ∧ a ≠ p, ⟨fun a h => ⟨R.sub a h, fun z => n0 (z ▸ h)⟩, fun a h => R.dom a h.1, R.grow, R.jar, fun k s ek => ?_, fun k l q xs' ys' f1 f2 f3 f4 => ?_, by rw [List.length_set]; exact R.len⟩, an⟩
  · rcases get_set ek with ⟨rfl, e3, hl⟩ | ⟨hk, e3⟩
    · cases e3
      exact ⟨_, e1, .lst (hid_some.mpr ⟨fun h => h.2 rfl, e2⟩) z (rp.mono ex)⟩
    · have h := R.sl k s e3
      cases s with
      | d x =>
        obtain ⟨u, g1, g2⟩ := h
        exact ⟨u, g1, g2.mono ex⟩
      | own ys =>
        obtain ⟨q, ws, g1, g2, gz, oq, m0, hq, nq, gr⟩ := h
        exact ⟨q, ws, g1, g2, gz, ⟨oq, fun z => hk (R.inj k i q ys xs e3 e g1 (z ▸ e1))⟩, m0, hq, nq, gr.mono ex⟩
      | jar => exact h
      | scr ns => exact h
  · rcases get_set f1 with ⟨_, z1, _⟩ | ⟨_, f1⟩
    · cases z1
    · rcases get_set f2 with ⟨_, z2, _⟩ | ⟨_, f2⟩
      · cases z2
      · exact R.inj k l q xs' ys' f1 f2 f3 f4
theorem ext_frz {O O' : Addr → Prop} {H : Hp} (h : ∀ a, O' a → O a) : Ext O H O' H := fun a o e n => ⟨e, fun z => n (h a z)⟩
/-- the jar is written -/
theorem Rel.setJar (R : Rel K C O σ H r j) {p : Addr} (hp : C.pj = some p) (j' : Jr) : Rel K C O σ (upd H p (jarV j')) r j' := by
  have k : Keep C H (upd H p (jarV j')) := fun a o h n => by
    rw [upd_ne (by rintro rfl; exact n hp)]
    exact h
  refine R.keep k fun q e => ?_
  rw [hp] at e
  cases e
  exact upd_same
end
/-! ### statements -/
inductive Out where
  | nx
  | rt (d : Dt)
  | bk
  | ct
abbrev Sm := Rg → Jr → Option (Out × Rg × Jr)
def tES (K : PySem.W.Frag) (C : Cn) (g : Sm) : TS := fun Dn σ H => ∃ O r j out r' j', Rel K C O σ H r j ∧ g r j = some (out, r', j') ∧
  match out with
  | .nx => ∀ O' σ' H', Rel K C O' σ' H' r' j' → Ext O H O' H' → Dn.nx σ' H'
  | .bk => ∀ O' σ' H', Rel K C O' σ' H' r' j' → Ext O H O' H' → Dn.bk σ' H'
  | .ct => ∀ O' σ' H', Rel K C O' σ' H' r' j' → Ext O H O' H' → Dn.ct σ' H'
  | .rt d => ∀ O' σ' H' v, Rel K C O' σ' H' r' j' → Ext O H O' H' → Rep K O' H' v d → Dn.rt v H'
structure ES (X : Cx) (C : Cn) (st : Stmt) (g : Sm) : Prop where
  ps : PS X st (tES X.K C g)
structure ESs (X : Cx) (C : Cn) (st : List Stmt) (g : Sm) : Prop where
  ps : PSs X st (tES X.K C g)
section
variable {X : Cx} {C : Cn} {st : Stmt} {rest : List Stmt} {g g1 g2 : Sm} {e : Expr} {f : M Dt} {pos : Pos}
theorem ps_weak {t t' : TS} (h : PS X st t) (w : ∀ D σ H, t' D σ H → t D σ H) : PS X st t' := ⟨fun pins s σ H D I q => h.run pins s σ H D I (w D σ H q)⟩
theorem pss_weak {t t' : TS} (h : PSs X rest t) (w : ∀ D σ H, t' D σ H → t D σ H) : PSs X rest t' := ⟨fun pins s σ H D I q => h.run pins s σ H D I (w D σ H q)⟩
def sSeq (g1 g2 : Sm) : Sm := fun r j => (g1 r j).bind fun p => match p.1 with
  | .nx => g2 p.2.1 p.2.2
  | o => some (o, p.2)
def sNil : Sm := fun r j => some (.nx, r, j)
def sNo : Sm := fun _ _ => none
theorem es_no : ES X C st sNo := ⟨ps_weak ps_never fun D σ H h => by
  obtain ⟨O, r, j, out, r', j', R, h, _⟩ := h
  cases h⟩
theorem ess_no : ESs X C rest sNo := ⟨pss_weak pss_never fun D σ H h => by
  obtain ⟨O, r, j, out, r', j', R, h, _⟩ := h
  cases h⟩
theorem ess_nil : ESs X C [] sNil := ⟨pss_weak pss_nil fun D σ H h => by
  obtain ⟨O, r, j, out, r', j', R, h, q⟩ := h
  cases h
  exact q O σ H R .refl⟩
theorem ess_cons (h1 : ES X C st g1) (h2 : ESs X C rest g2) : ESs X C (st :: rest) (sSeq g1 g2) := by
  refine ⟨pss_weak (pss_cons h1.ps h2.ps) fun D σ H h => ?_⟩
  obtain ⟨O, r, j, out, r', j', R, h, q⟩ := h
  obtain ⟨⟨o1, r1, j1⟩, e1, h⟩ := bind_some h
  refine ⟨O, r, j, o1, r1, j1, R, e1, ?_⟩
  cases o1 with
  | nx =>
    intro O1 σ1 H1 R1 x1
    refine ⟨O1, r1, j1, out, r', j', R1, h, ?_⟩
    cases out with
    | nx => exact fun O2 σ2 H2 R2 x2 => q O2 σ2 H2 R2 (x1.trans x2)
    | bk => exact fun O2 σ2 H2 R2 x2 => q O2 σ2 H2 R2 (x1.trans x2)
    | ct => exact fun O2 σ2 H2 R2 x2 => q O2 σ2 H2 R2 (x1.trans x2)
    | rt d => exact fun O2 σ2 H2 v R2 x2 rv => q O2 σ2 H2 v R2 (x1.trans x2) rv
  | rt d =>
    cases h
    exact q
  | bk =>
    cases h
    exact q
  | ct =>
    cases h
    exact q
theorem ess_one (h1 : ES X C st g1) : ESs X C [st] g1 := ⟨pss_one h1.ps⟩
theorem ESs.imp {g g' : Sm} (h : ESs X C rest g) (w : ∀ r j z, g' r j = some z → g r j = some z) : ESs X C rest g' := ⟨pss_weak h.ps fun D σ H h => by
  obtain ⟨O, r, j, out, r', j', R, h, q⟩ := h
  exact ⟨O, r, j, out, r', j', R, w _ _ _ h, q⟩⟩
/-- an own list is frozen ahead of the rest -/
def sFrz (i : Nat) (g : Sm) : Sm := fun r j => match r[i]? with
  | some (some (.own xs)) => g (r.set i (some (.d (.list xs)))) j
  | _ => none
theorem ess_frz (i : Nat) (h : ESs X C rest g) : ESs X C rest (sFrz i g) := ⟨pss_weak h.ps fun D σ H h => by
  obtain ⟨O, r, j, out, r', j', R, h, q⟩ := h
  unfold sFrz at h
  split at h
  · rename_i xs e
    obtain ⟨O1, R1, an⟩ := R.frz e
    refine ⟨O1, _, j, out, r', j', R1, h, ?_⟩
    cases out with
    | nx => exact fun O2 σ2 H2 R2 x2 => q O2 σ2 H2 R2 ((ext_frz an).trans x2)
    | bk => exact fun O2 σ2 H2 R2 x2 => q O2 σ2 H2 R2 ((ext_frz an).trans x2)
    | ct => exact fun O2 σ2 H2 R2 x2 => q O2 σ2 H2 R2 ((ext_frz an).trans x2)
    | rt d => exact fun O2 σ2 H2 v R2 x2 rv => q O2 σ2 H2 v R2 ((ext_frz an).trans x2) rv
  · cases h⟩
def sRet (f : M Dt) : Sm := fun r j => (f r j).map fun p => (.rt p.1, r, p.2)
theorem es_ret (h : EV X C e f) : ES X C (.Return (some e) pos) (sRet f) := ⟨ps_weak (ps_ret h.pe) fun D σ H h => by
  obtain ⟨O, r, j, out, r', j', R, h, q⟩ := h
  obtain ⟨⟨d, j1⟩, e1, h⟩ := map_some h
  cases h
  exact ⟨O, _, j, d, _, R, e1, fun v H' k w rv => q O σ H' v (R.keep k w) (R.ext k) rv⟩⟩
def sRetN : Sm := fun r j => some (.rt .none, r, j)
theorem es_retN : ES X C (.Return none pos) sRetN := ⟨ps_weak ps_retN fun D σ H h => by
  obtain ⟨O, r, j, out, r', j', R, h, q⟩ := h
  cases h
  exact q O σ H .non R .refl .non⟩
def sPass : Sm := fun r j => some (.nx, r, j)
theorem es_pass : ES X C (.Pass pos) sPass := ⟨ps_weak ps_pass fun D σ H h => by
  obtain ⟨O, r, j, out, r', j', R, h, q⟩ := h
  cases h
  exact q O σ H R .refl⟩
theorem es_break : ES X C (.Break pos) (fun r j => some (.bk, r, j)) := ⟨ps_weak ps_break fun D σ H h => by
  obtain ⟨O, r, j, out, r', j', R, h, q⟩ := h
  cases h
  exact q O σ H R .refl⟩
theorem es_continue : ES X C (.Continue pos) (fun r j => some (.ct, r, j)) := ⟨ps_weak ps_continue fun D σ H h => by
  obtain ⟨O, r, j, out, r', j', R, h, q⟩ := h
  cases h
  exact q O σ H R .refl⟩
def sIf (c : M Bool) (a b : Sm) : Sm := fun r j => (c r j).bind fun p => if p.1 = true then a r p.2 else b r p.2
theorem es_if {c : Expr} {a b : List Stmt} {fc : M Bool} (hc : ET X C c fc) (ha : ESs X C a g1) (hb : ESs X C b g2) : ES X C (.If c a b pos) (sIf fc g1 g2) := ⟨ps_weak (ps_if hc.pt ha.ps hb.ps) fun D σ H h => by
  obtain ⟨O, r, j, out, r', j', R, h, q⟩ := h
  obtain ⟨⟨x, j1⟩, e1, h⟩ := bind_some h
  refine ⟨O, r, j, x, j1, R, e1, fun H1 k1 q1 => ?_⟩
  have x1 := R.ext k1
  cases x with
  | true =>
    refine ⟨O, r, j1, out, r', j', R.keep k1 q1, h, ?_⟩
    cases out with
    | nx => exact fun O2 σ2 H2 R2 x2 => q O2 σ2 H2 R2 (x1.trans x2)
    | bk => exact fun O2 σ2 H2 R2 x2 => q O2 σ2 H2 R2 (x1.trans x2)
    | ct => exact fun O2 σ2 H2 R2 x2 => q O2 σ2 H2 R2 (x1.trans x2)
    | rt d => exact fun O2 σ2 H2 v R2 x2 rv => q O2 σ2 H2 v R2 (x1.trans x2) rv
  | false =>
    refine ⟨O, r, j1, out, r', j', R.keep k1 q1, h, ?_⟩
    cases out with
    | nx => exact fun O2 σ2 H2 R2 x2 => q O2 σ2 H2 R2 (x1.trans x2)
    | bk => exact fun O2 σ2 H2 R2 x2 => q O2 σ2 H2 R2 (x1.trans x2)
    | ct => exact fun O2 σ2 H2 R2 x2 => q O2 σ2 H2 R2 (x1.trans x2)
    | rt d => exact fun O2 σ2 H2 v R2 x2 rv => q O2 σ2 H2 v R2 (x1.trans x2) rv⟩
/-! ### stores -/
def sSet (i : Nat) (f : M Dt) : Sm := fun r j => (f r j).map fun p => (.nx, r.set i (some (.d p.1)), p.2)
theorem es_set (i : Nat) {x : Str} {pos' : Pos} (h : EV X C e f) (hN : X.N.Nodup) (hi : X.N[i]? = some x := by rfl) (hx : Loc X.env.scope x := by first | exact Or.inl rfl | exact Or.inr rfl) (hs : swapsWith e (some (.Name x pos')) pos.line X.env = pure false := by rfl)
    (hf : X.fn x = true ∨ X.env.scope.names.lookup x = some .local := by first | exact .inl rfl | exact .inr rfl) : ES X C (.Assign [.Name x pos'] e pos) (sSet i f) := ⟨ps_weak (ps_set hN hi hx h.pe hs hf) fun D σ H h => by
  obtain ⟨O, r, j, out, r', j', R, h, q⟩ := h
  obtain ⟨⟨d, j1⟩, e1, h⟩ := map_some h
  cases h
  refine ⟨O, r, j, d, _, R, e1, fun v H' k w rv => ?_⟩
  exact q O _ H' ((R.keep k w).setD i rv) (R.ext k)⟩
/-! ### a new list of one's own -/
def tEF (K : PySem.W.Frag) (C : Cn) (f : M (List Dt)) : TE := fun σ H Q => ∃ O r j ds j', Rel K C O σ H r j ∧ f r j = some (ds, j') ∧ ∀ p vs H', H p = none → Keep C H H' → JarIs C H' j' → H' p = some (.lst vs) → vs.length ≤ sizeLine → Reps K (ownP O p) H' vs ds → Q (.ref p) H'
/-- a list that nobody else has -/
structure EF (X : Cx) (C : Cn) (e : Expr) (f : M (List Dt)) : Prop where
  pe : PE X e (tEF X.K C f)
def mL (f : M (List Dt)) : M Dt := fun r j => (f r j).map fun p => (.list p.1, p.2)
theorem ev_ef {f : M (List Dt)} (h : EF X C e f) : EV X C e (mL f) := ⟨pe_weak h.pe fun σ H Q h => by
  obtain ⟨O, r, j, d, j', R, h, q⟩ := h
  obtain ⟨⟨ds, j1⟩, e1, h⟩ := map_some h
  cases h
  refine ⟨O, r, j, ds, _, R, e1, fun p vs H' hp k w e2 z rp => ?_⟩
  exact q _ H' k w (.lst (hid_some.mpr ⟨R.fresh hp, e2⟩) z (rp.mono (hid_anti fun a h => .inl h)))⟩
def mDisp (a : M (List Dt)) : M (List Dt) := fun r j => (a r j).bind fun p => if p.1.length ≤ 1000 then some p else none
theorem Rel.freshK {K : PySem.W.Frag} {O : Addr → Prop} {σ : L2.St} {H H' : Hp} {r : Rg} {j j' : Jr} (R : Rel K C O σ H r j) (k : Keep C H H') (q : JarIs C H' j') {p : Addr} (hp : H' p = none) : H p = none := by
  cases e : H p with
  | none => rfl
  | some o =>
    by_cases n : C.pj = some p
    · rw [q p n] at hp
      cases hp
    · rw [k p o e n] at hp
      cases hp
theorem ef_lst {es : List Expr} {fs : M (List Dt)} (ha : EA X C es fs) : EF X C (.List es pos) (mDisp fs) := by
  refine ⟨pe_weak (pe_lst ha.pa) fun σ H Q h => ?_⟩
  obtain ⟨O, r, j, d, j', R, h, q⟩ := h
  obtain ⟨⟨xs, j1⟩, e1, h⟩ := bind_some h
  split at h
  · rename_i hl
    cases h
    refine ⟨O, r, j, d, _, R, e1, fun vs H1 k1 q1 rvs => ?_⟩
    have z := len1000 rvs hl
    refine ⟨z, fun p hp => ?_⟩
    have hp0 := R.freshK k1 q1 hp
    exact q p vs _ hp0 (k1.trans (.of (same_upd hp))) (q1.same (same_upd hp)) upd_same z ((ext_own hp).reps rvs)
  · cases h
def sOwn (i : Nat) (f : M (List Dt)) : Sm := fun r j => (f r j).map fun p => (.nx, r.set i (some (.own p.1)), p.2)
theorem Rel.ownK {K : PySem.W.Frag} {O : Addr → Prop} {σ : L2.St} {H H' : Hp} {r : Rg} {j j' : Jr} (R : Rel K C O σ H r j) (k : Keep C H H') (q : JarIs C H' j') {p : Addr} {x : HO} (hp : H p = none) (e : H' p = some x) : Rel K C (ownP O p) σ H' r j' ∧ Ext O H (ownP O p) H' := by
  have ex : Ext O H (ownP O p) H' := fun a o h n => ⟨k a o h (R.notJar n), fun z => z.elim n (ne_of_none h hp)⟩
  refine ⟨R.more (fun a h => .inl h) (fun a h => ?_) ex k q, ex⟩
  rcases h with h | rfl
  · exact (R.keep k q).dom a h
  · rw [e]
    exact fun z => nomatch z
theorem Rel.heNone {K : PySem.W.Frag} {O : Addr → Prop} {σ : L2.St} {H : Hp} {r : Rg} {j : Jr} (R : Rel K C O σ H r j) {p : Addr} (hp : H p = none) : C.He p = none ∧ C.pj ≠ some p ∧ ¬ C.O0 p := by
  have np : C.pj ≠ some p := fun e => by
    have := (R.jar p e).2
    rw [hp] at this
    cases this
  refine ⟨?_, np, fun h => R.dom p (R.sub p h) hp⟩
  cases e : C.He p with
  | none => rfl
  | some o =>
    have := R.grow p o e np
    rw [hp] at this
    cases this
theorem Rel.noSlot {K : PySem.W.Frag} {O : Addr → Prop} {σ : L2.St} {H : Hp} {r : Rg} {j : Jr} (R : Rel K C O σ H r j) {p : Addr} (hp : H p = none) (i : Nat) (xs : List Dt) (e : r[i]? = some (some (.own xs))) : σ[i]? ≠ some (some (.ref p)) := fun z => by
  obtain ⟨q, vs, e1, e2, _⟩ := R.sl i _ e
  rw [z] at e1
  cases e1
  rw [hp] at e2
  cases e2
theorem es_own (i : Nat) {x : Str} {pos' : Pos} {f : M (List Dt)} (h : EF X C e f) (hN : X.N.Nodup) (hi : X.N[i]? = some x := by rfl) (hx : Loc X.env.scope x := by first | exact Or.inl rfl | exact Or.inr rfl) (hs : swapsWith e (some (.Name x pos')) pos.line X.env = pure false := by rfl)
    (hf : X.fn x = true ∨ X.env.scope.names.lookup x = some .local := by first | exact .inl rfl | exact .inr rfl) : ES X C (.Assign [.Name x pos'] e pos) (sOwn i f) := ⟨ps_weak (ps_set hN hi hx h.pe hs hf) fun D σ H h => by
  obtain ⟨O, r, j, out, r', j', R, h, q⟩ := h
  obtain ⟨⟨ds, j1⟩, e1, h⟩ := map_some h
  cases h
  refine ⟨O, r, j, ds, _, R, e1, fun p vs H' hp k w e2 z rp => ?_⟩
  obtain ⟨R1, ex⟩ := R.ownK k w hp e2
  obtain ⟨he, np, n0⟩ := R.heNone hp
  exact q (ownP O p) _ H' (R1.setOwn i e2 z (.inr rfl) n0 he np rp fun k xs _ => R.noSlot hp k xs) ex⟩
end
end Ev
end
section
set_option Elab.async false
set_option linter.all false
set_option autoImplicit false
set_option maxRecDepth 100000
/-! Ev: methods of own lists, targets, several stores at once. -/
namespace Ev
open PySem PySem.Spec PyProof.Rows L2
section
variable {X : Cx} {C : Cn} {st : Stmt} {rest : List Stmt} {g g1 g2 : Sm} {e a b c : Expr} {f fa fb fc : M Dt} {pos : Pos}
/-! ### xs.append(e), xs.extend(ys) -/
def sApp (i : Nat) (f : M Dt) : Sm := fun r j => match r[i]? with
  | some (some (.own xs)) => (f r j).bind fun p => if xs.length < lineN then some (.nx, r.set i (some (.own (xs ++ [p.1]))), p.2) else none
  | _ => none
theorem list_set_self {α : Type} {l : List α} {i : Nat} {x : α} (h : l[i]? = some x) : l.set i x = l := by
  apply List.ext_getElem?
  intro k
  by_cases e : i = k
  · subst e
    rw [List.getElem?_set_self (List.getElem?_eq_some_iff.mp h).1, h]
  · rw [List.getElem?_set_ne e]
/-- the own list in slot i is written -/
theorem Rel.putOwn {K : PySem.W.Frag} {O : Addr → Prop} {σ : L2.St} {H : Hp} {r : Rg} {j : Jr} (R : Rel K C O σ H r j) {i : Nat} {xs ys : List Dt} {p : Addr} {ws : List V} (e : r[i]? = some (some (.own xs))) (es : σ[i]? = some (some (.ref p)))
    (z : ws.length ≤ sizeLine) (rp : Reps K O H ws ys) : Rel K C O σ (upd H p (.lst ws)) (r.set i (some (.own ys))) j ∧ Ext O H O (upd H p (.lst ws)) := by
  obtain ⟨p', vs, e1, e2, z0, op, n0, he, np, _⟩ := R.sl i _ e
  rw [es] at e1
  cases e1
  have kp : ∀ a o, a ≠ p → H a = some o → upd H p (.lst ws) a = some o := fun a o n h => by
    rw [upd_ne n]
    exact h
  have ex : Ext O H O (upd H p (.lst ws)) := fun a o h n => ⟨kp a o (fun e => n (e ▸ op)) h, n⟩
  have hi : i < r.length := (List.getElem?_eq_some_iff.mp e).1
  refine ⟨⟨R.sub, fun a h => ?_, fun a o h n => kp a o (fun e => by rw [e, he] at h; cases h) (R.grow a o h n), fun q e => ⟨(R.jar q e).1, kp q _ (fun z => np (z ▸ e)) (R.jar q e).2⟩, fun k t ek => ?_, fun k l q xs' ys' f1 f2 f3 f4 => ?_, by rw [List.length_set]; exact R.len⟩, ex⟩
  · by_cases ha : a = p
    · rw [ha, upd_same]
      exact fun z => nomatch z
    · rw [upd_ne ha]
      exact R.dom a h
  · rcases get_set ek with ⟨rfl, e3, hl⟩ | ⟨hk, e3⟩
    · cases e3
      exact ⟨p, ws, es, upd_same, z, op, n0, he, np, ex.reps rp⟩
    · have h := R.sl k t e3
      cases t with
      | d x' =>
        obtain ⟨u, e1, rp⟩ := h
        exact ⟨u, e1, ex.rep rp⟩
      | own zs =>
        obtain ⟨q, us, g1, g2, gz, oq, m0, hq, nq, gr⟩ := h
        exact ⟨q, us, g1, kp q _ (fun z => hk (R.inj k i q zs xs e3 e g1 (z ▸ es))) g2, gz, oq, m0, hq, nq, ex.reps gr⟩
      | jar => exact h
      | scr ns => exact h
  · have own : ∀ m zs, (r.set i (some (Sl.own ys)))[m]? = some (some (Sl.own zs)) → ∃ zs', r[m]? = some (some (Sl.own zs')) := fun m zs h => by
      rcases get_set h with ⟨rfl, _, _⟩ | ⟨_, h⟩
      · exact ⟨xs, e⟩
      · exact ⟨zs, h⟩
    obtain ⟨a1, b1⟩ := own k xs' f1
    obtain ⟨a2, b2⟩ := own l ys' f2
    exact R.inj k l q a1 a2 b1 b2 f3 f4
theorem es_app (i : Nat) {x : Str} {p1 p2 p3 : Pos} (h : EV X C e f) (hN : X.N[i]? = some x := by rfl) (hv : Vis X.env.scope x := by first | exact Or.inl rfl | exact Or.inr (Or.inl rfl) | exact Or.inr (Or.inr rfl)) (hd : (x == ("__debug__" : Str)) = false := by decide)
    (hcd : (x == ("__classdict__" : Str)) = false := by decide) (hbase : attributeBase (.Name x p1) "append" X.env (eval (.Name x p1) X.env) = eval (.Name x p1) X.env := by rfl)
    (hfew : ((backTo p3 (starEach [e] X.env)).all (fun x => !x.1) && (backToKw p3 (keywordEach [] X.env)).all (fun x => x.1.isSome)
      && decide ([e].length + ([] : List Keyword).length + (if ([] : List Keyword).isEmpty then 0 else 1) < 30)) = true := by rfl)
    (hline : (p2.endLine == p3.line) = true := by rfl) (he : starEach [e] X.env = (false, eval e X.env) :: starEach [] X.env := by rfl) (hplain : (backTo p3 (starEach [] X.env)).any (·.1) = false := by rfl)
    (hs : swapsWith (.Call (.Attribute (.Name x p1) "append" p2) [e] [] p3) none pos.line X.env = pure false := by rfl) :
    ES X C (.Expr (.Call (.Attribute (.Name x p1) "append" p2) [e] [] p3) pos) (sApp i f) := by
  refine ⟨ps_weak (ps_expr (pe_bm PySem.F.plainAttrs_list PySem.F.slot_list_append PySem.F.type_list_append mt_append (pe_var hN hv hd hcd) (pa_cons h.pe pa_nil he) hbase hfew hline he hplain) hs) fun D σ H h => ?_⟩
  obtain ⟨O, r, j, out, r', j', R, h, q⟩ := h
  unfold sApp at h
  split at h
  · rename_i xs es
    obtain ⟨⟨d, j1⟩, e1, h⟩ := bind_some h
    dsimp only at h
    split at h
    · rename_i hl
      cases h
      obtain ⟨p, vs, f1, f2, z, op, n0, hh, np, rp⟩ := R.sl i _ es
      refine ⟨_, f1, .inl ⟨rfl, vs, .of f2⟩, O, r, j, d, _, R, e1, fun v H1 k1 q1 rv => ?_⟩
      have R1 := R.keep k1 q1
      have g2 := k1 _ _ f2 np
      have hlen : vs.length < sizeLine := by
        rw [rp.length, sizeLine_eq]
        exact hl
      refine ⟨p, vs, v, rfl, rfl, g2, hlen, ?_⟩
      obtain ⟨R2, x2⟩ := R1.putOwn (ws := vs ++ [v]) (ys := xs ++ [d]) es f1 (by rw [List.length_append]; exact hlen) (((R.ext k1).reps rp).app (.cons rv .nil))
      exact q O σ _ R2 ((R.ext k1).trans x2)
    · cases h
  · cases h
def sExt (i : Nat) (f : M Dt) : Sm := fun r j => match r[i]? with
  | some (some (.own xs)) => (f r j).bind fun p => match p.1 with
    | .list ys => if xs.length + ys.length ≤ lineN then some (.nx, r.set i (some (.own (xs ++ ys))), p.2) else none
    | _ => none
  | _ => none
theorem es_ext (i : Nat) {x : Str} {p1 p2 p3 : Pos} (h : EV X C e f) (hN : X.N[i]? = some x := by rfl) (hv : Vis X.env.scope x := by first | exact Or.inl rfl | exact Or.inr (Or.inl rfl) | exact Or.inr (Or.inr rfl)) (hd : (x == ("__debug__" : Str)) = false := by decide)
    (hcd : (x == ("__classdict__" : Str)) = false := by decide) (hbase : attributeBase (.Name x p1) "extend" X.env (eval (.Name x p1) X.env) = eval (.Name x p1) X.env := by rfl)
    (hfew : ((backTo p3 (starEach [e] X.env)).all (fun x => !x.1) && (backToKw p3 (keywordEach [] X.env)).all (fun x => x.1.isSome)
      && decide ([e].length + ([] : List Keyword).length + (if ([] : List Keyword).isEmpty then 0 else 1) < 30)) = true := by rfl)
    (hline : (p2.endLine == p3.line) = true := by rfl) (he : starEach [e] X.env = (false, eval e X.env) :: starEach [] X.env := by rfl) (hplain : (backTo p3 (starEach [] X.env)).any (·.1) = false := by rfl)
    (hs : swapsWith (.Call (.Attribute (.Name x p1) "extend" p2) [e] [] p3) none pos.line X.env = pure false := by rfl) :
    ES X C (.Expr (.Call (.Attribute (.Name x p1) "extend" p2) [e] [] p3) pos) (sExt i f) := by
  refine ⟨ps_weak (ps_expr (pe_bm PySem.F.plainAttrs_list PySem.F.slot_list_extend PySem.F.type_list_extend mt_extend (pe_var hN hv hd hcd) (pa_cons h.pe pa_nil he) hbase hfew hline he hplain) hs) fun D σ H h => ?_⟩
  obtain ⟨O, r, j, out, r', j', R, h, q⟩ := h
  unfold sExt at h
  split at h
  · rename_i xs es
    obtain ⟨⟨d, j1⟩, e1, h⟩ := bind_some h
    dsimp only at h
    split at h
    · split at h
      · rename_i hl
        cases h
        obtain ⟨p, vs, f1, f2, z, op, n0, hh, np, rp⟩ := R.sl i _ es
        refine ⟨_, f1, .inl ⟨rfl, vs, .of f2⟩, O, r, j, _, _, R, e1, fun v H1 k1 q1 rv => ?_⟩
        have R1 := R.keep k1 q1
        have g2 := k1 _ _ f2 np
        cases rv with
        | lst hb hz rb =>
          rename_i b ws
          have hlen : vs.length + ws.length ≤ sizeLine := by
            rw [rp.length, rb.length, sizeLine_eq]
            exact hl
          refine ⟨p, _, vs, _, rfl, rfl, g2, (hid_some.mp hb).2, hlen, ?_⟩
          obtain ⟨R2, x2⟩ := R1.putOwn (ws := vs ++ ws) es f1 (by rw [List.length_append]; exact hlen) (((R.ext k1).reps rp).app rb)
          exact q O σ _ R2 ((R.ext k1).trans x2)
      · cases h
    · cases h
  · cases h
/-! ### targets -/
abbrev Tm := Dt → Rg → Jr → Option (Rg × Jr)
abbrev Tms := List Dt → Rg → Jr → Option (Rg × Jr)
def tEG (K : PySem.W.Frag) (C : Cn) (ft : Tm) (sl : List Nat) : TG := fun v σ H Q => ∃ O r j d r' j', Rel K C O σ H r j ∧ Rep K O H v d ∧ ft d r j = some (r', j') ∧
  ∀ σ' H', Rel K C O σ' H' r' j' → Keep C H H' → σ'.length = σ.length → (∀ i : Nat, i ∉ sl → σ'[i]? = σ[i]?) → Q σ' H'
def tEGs (K : PySem.W.Frag) (C : Cn) (ft : Tms) (sl : List Nat) : TGs := fun vs σ H Q => ∃ O r j ds r' j', Rel K C O σ H r j ∧ Reps K O H vs ds ∧ ft ds r j = some (r', j') ∧
  ∀ σ' H', Rel K C O σ' H' r' j' → Keep C H H' → σ'.length = σ.length → (∀ i : Nat, i ∉ sl → σ'[i]? = σ[i]?) → Q σ' H'
structure EG (X : Cx) (C : Cn) (tg : Expr) (ft : Tm) (sl : List Nat) : Prop where
  pg : PG X tg (tEG X.K C ft sl)
structure EGs (X : Cx) (C : Cn) (tg : List Expr) (ft : Tms) (sl : List Nat) : Prop where
  pg : PGs X tg (tEGs X.K C ft sl)
theorem pg_weak {tg : Expr} {t t' : TG} (h : PG X tg t) (w : ∀ v σ H Q, t' v σ H Q → t v σ H Q) : PG X tg t' := ⟨fun pins s σ H v u Q I r q => h.run pins s σ H v u Q I r (w v σ H Q q)⟩
theorem pgs_weak {tg : List Expr} {t t' : TGs} (h : PGs X tg t) (w : ∀ v σ H Q, t' v σ H Q → t v σ H Q) : PGs X tg t' := ⟨fun pins s σ H v u Q I r q => h.run pins s σ H v u Q I r (w v σ H Q q)⟩
def gNm (i : Nat) : Tm := fun d r j => some (r.set i (some (.d d)), j)
theorem eg_name (i : Nat) {x : Str} (hN : X.N.Nodup) (hi : X.N[i]? = some x := by rfl) (hx : Loc X.env.scope x := by first | exact Or.inl rfl | exact Or.inr rfl) (hf : X.fn x = true ∨ X.env.scope.names.lookup x = some .local := by first | exact .inl rfl | exact .inr rfl) :
    EG X C (.Name x pos) (gNm i) [i] := ⟨pg_weak (pg_name hN hi hx hf) fun v σ H Q h => by
  obtain ⟨O, r, j, d, r', j', R, rv, h, q⟩ := h
  cases h
  exact q _ H (R.setD i rv) .refl (List.length_set ..) fun k hk => List.getElem?_set_ne (fun e => hk (by simp [e]))⟩
def gsNil : Tms := fun ds r j => match ds with
  | [] => some (r, j)
  | _ => none
def gsCons (t : Tm) (u : Tms) : Tms := fun ds r j => match ds with
  | d :: ds => (t d r j).bind fun p => u ds p.1 p.2
  | [] => none
theorem egs_nil : EGs X C [] gsNil [] := ⟨pgs_weak pgs_nil fun v σ H Q h => by
  obtain ⟨O, r, j, d, r', j', R, rv, h, q⟩ := h
  unfold gsNil at h
  split at h
  · cases h
    cases rv
    exact ⟨rfl, q σ H R .refl rfl fun _ _ => rfl⟩
  · cases h⟩
theorem egs_cons {tg : Expr} {tgs : List Expr} {t : Tm} {u : Tms} {s1 s2 : List Nat} (h1 : EG X C tg t s1) (h2 : EGs X C tgs u s2)
    (hs : (assignEach (tg :: tgs) X.env).map (·.2) = assign tg X.env :: (assignEach tgs X.env).map (·.2) := by rfl) : EGs X C (tg :: tgs) (gsCons t u) (s1 ++ s2) := ⟨pgs_weak (pgs_cons h1.pg h2.pg hs) fun v σ H Q h => by
  obtain ⟨O, r, j, d, r', j', R, rv, h, q⟩ := h
  unfold gsCons at h
  split at h
  · obtain ⟨⟨r1, j1⟩, e1, h⟩ := bind_some h
    cases rv with
    | cons rv rvs =>
      refine ⟨_, _, rfl, O, r, j, _, r1, j1, R, rv, e1, fun σ1 H1 R1 k1 l1 s1' => ?_⟩
      refine ⟨O, r1, j1, _, r', j', R1, (R.ext k1).reps rvs, h, fun σ2 H2 R2 k2 l2 s2' => ?_⟩
      exact q σ2 H2 R2 (k1.trans k2) (l2.trans l1) fun i hi => (s2' i fun z => hi (List.mem_append_right _ z)).trans (s1' i fun z => hi (List.mem_append_left _ z))
  · cases h⟩
def gTp (t : Tms) : Tm := fun d r j => match d with
  | .tuple ds => t ds r j
  | _ => none
theorem eg_tup {es : List Expr} {k n : Nat} {t : Tms} {sl : List Nat} (hc : X.calm = true) (h : EGs X C es t sl) (hl : ∀ ds r j z, t ds r j = some z → ds.length = n)
    (hn : (assignEach es X.env).length = n := by rfl) (hst : (assignEach es X.env).findIdx? (·.1) = none := by rfl) : EG X C (.Tuple es k pos) (gTp t) sl := ⟨pg_weak (pg_tup hc h.pg hn hst) fun v σ H Q h => by
  obtain ⟨O, r, j, d, r', j', R, rv, h, q⟩ := h
  unfold gTp at h
  split at h
  · obtain ⟨a, vs, rfl, hs, hz, rp⟩ := rep_tup rv
    exact ⟨a, vs, rfl, hs, by rw [rp.length]; exact hl _ _ _ _ h, O, r, j, _, r', j', R, rp, h, q⟩
  · cases h⟩
theorem gsNil_len {ds : List Dt} {r : Rg} {j : Jr} {z : Rg × Jr} (h : gsNil ds r j = some z) : ds.length = 0 := by
  unfold gsNil at h
  split at h
  · rfl
  · cases h
theorem gsCons_len {t : Tm} {u : Tms} {n : Nat} (hu : ∀ ds r j z, u ds r j = some z → ds.length = n) : ∀ ds r j z, gsCons t u ds r j = some z → ds.length = n + 1 := by
  intro ds r j z h
  unfold gsCons at h
  split at h
  · obtain ⟨p, _, h⟩ := bind_some h
    exact congrArg (· + 1) (hu _ _ _ _ h)
  · cases h
/-- the jar's cell as a target -/
def gJar (i : Nat) (k : Nat) : Tm := fun d r j => match r[i]?, d with
  | some (some .jar), .int n => if k < j.length then some (r, j.set k n) else none
  | _, _ => none
theorem eg_jar (i k : Nat) {x : Str} {p1 p2 : Pos} {kk : Nat} (hN : X.N[i]? = some x := by rfl) (hv : Vis X.env.scope x := by first | exact Or.inl rfl | exact Or.inr (Or.inl rfl) | exact Or.inr (Or.inr rfl)) (hd : (x == ("__debug__" : Str)) = false := by decide)
    (hcd : (x == ("__classdict__" : Str)) = false := by decide) {ki : Int} (hk : ki = (k : Int) := by rfl) : EG X C (.Subscript (.Name x p1) (.Constant (.int ki) kk p2) pos) (gJar i k) [] := by
  subst hk
  refine ⟨pg_weak (pg_sub (pe_var hN hv hd hcd) pe_int set_list) fun v σ H Q h => ?_⟩
  obtain ⟨O, r, j, d, r', j', R, rv, h, q⟩ := h
  unfold gJar at h
  split at h
  · rename_i m es
    split at h
    · rename_i hl
      cases h
      obtain ⟨p, hp, ev⟩ := R.sl i _ es
      cases rv
      have hj := (R.jar p hp).2
      refine ⟨_, ev, p, _, _, k, rfl, rfl, hj, ?_, ?_⟩
      · rw [List.length_map]
        unfold ixN
        rw [if_pos (by omega), if_pos (by omega)] <;> simp
      · have em : (j.map V.int).set k (V.int m) = (j.set k m).map V.int := by rw [List.map_set]
        rw [em]
        have kp : Keep C H (upd H p (jarV (j.set k m))) := fun a o h n => by
          rw [upd_ne (by rintro rfl; exact n hp)]
          exact h
        exact q σ _ (R.setJar hp _) kp rfl fun _ _ => rfl
    · cases h
  · cases h
/-- target = e -/
def sAsg (f : M Dt) (t : Tm) : Sm := fun r j => (f r j).bind fun p => (t p.1 r p.2).map fun z => (.nx, z.1, z.2)
theorem es_asg {tg : Expr} {t : Tm} {sl : List Nat} (he : EV X C e f) (hg : EG X C tg t sl) (hs : swapsWithSole [tg] e pos.line X.env = pure false := by rfl) (hw : swappedStores [tg] e X.env = pure none := by rfl)
    (h1 : (assignEach [tg] X.env).map (·.2) = [assign tg X.env] := by rfl) : ES X C (.Assign [tg] e pos) (sAsg f t) := ⟨ps_weak (ps_asg he.pe hg.pg hs hw h1) fun D σ H h => by
  obtain ⟨O, r, j, out, r', j', R, h, q⟩ := h
  obtain ⟨⟨d, j1⟩, e1, h⟩ := bind_some h
  obtain ⟨⟨r2, j2⟩, e2, h⟩ := map_some h
  cases h
  refine ⟨O, r, j, d, j1, R, e1, fun v H1 k1 q1 rv => ?_⟩
  have R1 := R.keep k1 q1
  exact ⟨O, r, j1, d, _, _, R1, rv, e2, fun σ2 H2 R2 k2 _ _ => q O σ2 H2 R2 ((R.ext k1).trans (R1.ext k2))⟩⟩
/-! ### several stores at once -/
/-- what comes into a slot -/
inductive Cv where
  | d (x : Dt)
  | own (xs : List Dt)
def Cv.sl : Cv → Sl
  | .d x => .d x
  | .own xs => .own xs
/-- values that stand ready: new lists are nowhere yet -/
inductive Pend (K : PySem.W.Frag) (C : Cn) (O : Addr → Prop) (H : Hp) : (Addr → Prop) → List V → List Cv → Prop
  | nil {bad : Addr → Prop} : Pend K C O H bad [] []
  | d {bad : Addr → Prop} {v : V} {vs : List V} {x : Dt} {ws : List Cv} : Rep K O H v x → Pend K C O H bad vs ws → Pend K C O H bad (v :: vs) (.d x :: ws)
  | own {bad : Addr → Prop} {p : Addr} {us vs : List V} {xs : List Dt} {ws : List Cv} : H p = some (.lst us) → us.length ≤ sizeLine → O p → ¬ C.O0 p → C.He p = none → C.pj ≠ some p → Reps K O H us xs → ¬ bad p →
      Pend K C O H (fun a => bad a ∨ a = p) vs ws → Pend K C O H bad (.ref p :: vs) (.own xs :: ws)
theorem Pend.weak {K : PySem.W.Frag} {O : Addr → Prop} {H : Hp} {vs : List V} {ws : List Cv} {bad : Addr → Prop} (h : Pend K C O H bad vs ws) : ∀ {bad' : Addr → Prop}, (∀ a, bad' a → bad a) → Pend K C O H bad' vs ws := by
  induction h with
  | nil => exact fun _ => .nil
  | d r t ih => exact fun w => .d r (ih w)
  | own a1 a2 a3 a4 a5 a6 a7 a8 t ih => exact fun w => .own a1 a2 a3 a4 a5 a6 a7 (fun z => a8 (w _ z)) (ih fun a z => z.elim (fun z => .inl (w a z)) .inr)
theorem Pend.grow {K : PySem.W.Frag} {O O2 : Addr → Prop} {H H2 : Hp} {vs : List V} {ws : List Cv} {bad : Addr → Prop} (h : Pend K C O H bad vs ws) (ex : Ext O H O2 H2) (kp : ∀ a o, H a = some o → H2 a = some o) (up : ∀ a, O a → O2 a) : Pend K C O2 H2 bad vs ws := by
  induction h with
  | nil => exact .nil
  | d rv t ih => exact .d (ex.rep rv) ih
  | own a1 a2 a3 a4 a5 a6 a7 a8 t ih => exact .own (kp _ _ a1) a2 (up _ a3) a4 a5 a6 (ex.reps a7) a8 ih
def tEP (K : PySem.W.Frag) (C : Cn) (f : M (List Cv)) : TA := fun σ H Q => ∃ O r j ws j', Rel K C O σ H r j ∧ f r j = some (ws, j') ∧
  ∀ O' vs H', Rel K C O' σ H' r j' → Ext O H O' H' → Keep C H H' → (∀ a, O a → O' a) → Pend K C O' H' (fun a => H a ≠ none) vs ws → Q vs H'
structure EP (X : Cx) (C : Cn) (es : List Expr) (f : M (List Cv)) : Prop where
  pa : PA X es (tEP X.K C f)
def pNil : M (List Cv) := fun _ j => some ([], j)
def pD (f : M Dt) (g : M (List Cv)) : M (List Cv) := fun r j => (f r j).bind fun p => (g r p.2).map fun q => (.d p.1 :: q.1, q.2)
def pO (f : M (List Dt)) (g : M (List Cv)) : M (List Cv) := fun r j => (f r j).bind fun p => (g r p.2).map fun q => (.own p.1 :: q.1, q.2)
theorem ep_nil : EP X C [] pNil := ⟨pa_weak pa_nil fun σ H Q h => by
  obtain ⟨O, r, j, d, j', R, h, q⟩ := h
  cases h
  exact q O [] H R .refl .refl (fun _ h => h) .nil⟩
variable {es : List Expr} {gp : M (List Cv)}
theorem ep_d (ha : EV X C e f) (hr : EP X C es gp) (hs : starEach (e :: es) X.env = (false, eval e X.env) :: starEach es X.env := by rfl) : EP X C (e :: es) (pD f gp) := by
  refine ⟨pa_weak (pa_cons ha.pe hr.pa hs) fun σ H Q h => ?_⟩
  obtain ⟨O, r, j, d, j', R, h, q⟩ := h
  obtain ⟨⟨x, j1⟩, e1, h⟩ := bind_some h
  obtain ⟨⟨xs, j2⟩, e2, h⟩ := map_some h
  cases h
  refine ⟨O, r, j, x, j1, R, e1, fun v H1 k1 q1 rv => ?_⟩
  have R1 := R.keep k1 q1
  refine ⟨O, r, j1, xs, _, R1, e2, fun O2 vs H2 R2 x2 k2 up pn => ?_⟩
  refine q O2 (v :: vs) H2 R2 ((R.ext k1).trans x2) (k1.trans k2) up (.d (x2.rep rv) (pn.weak fun a ha z => ha (R.freshK k1 q1 z)))
theorem ep_o {f : M (List Dt)} (ha : EF X C e f) (hr : EP X C es gp) (hs : starEach (e :: es) X.env = (false, eval e X.env) :: starEach es X.env := by rfl) : EP X C (e :: es) (pO f gp) := by
  refine ⟨pa_weak (pa_cons ha.pe hr.pa hs) fun σ H Q h => ?_⟩
  obtain ⟨O, r, j, d, j', R, h, q⟩ := h
  obtain ⟨⟨x, j1⟩, e1, h⟩ := bind_some h
  obtain ⟨⟨xs, j2⟩, e2, h⟩ := map_some h
  cases h
  refine ⟨O, r, j, x, j1, R, e1, fun p us H1 hp k1 q1 e3 z rp => ?_⟩
  obtain ⟨R1, ex⟩ := R.ownK k1 q1 hp e3
  obtain ⟨he, np, n0⟩ := R.heNone hp
  refine ⟨ownP O p, r, j1, xs, _, R1, e2, fun O2 vs H2 R2 x2 k2 up pn => ?_⟩
  refine q O2 (.ref p :: vs) H2 R2 (ex.trans x2) (k1.trans k2) (fun a h => up a (.inl h)) (.own (k2 _ _ e3 np) z (up p (.inr rfl)) n0 he np (x2.reps rp) (fun h => h hp) (pn.weak fun a ha z => ?_))
  rcases ha with ha | rfl
  · exact ha (R.freshK k1 q1 z)
  · rw [e3] at z
    cases z
/-- slots' own lists stand where bad says -/
def SB (r : Rg) (σ : L2.St) (bad : Addr → Prop) : Prop := ∀ (i : Nat) xs p, r[i]? = some (some (Sl.own xs)) → σ[i]? = some (some (V.ref p)) → bad p
theorem Rel.sb {K : PySem.W.Frag} {O : Addr → Prop} {σ : L2.St} {H : Hp} {r : Rg} {j : Jr} (R : Rel K C O σ H r j) : SB r σ fun a => H a ≠ none := fun i xs p e1 e2 => by
  obtain ⟨q, vs, f1, f2, _⟩ := R.sl i _ e1
  rw [e2] at f1
  cases f1
  rw [f2]
  exact fun z => nomatch z
theorem SB.weak {r : Rg} {σ : L2.St} {bad bad' : Addr → Prop} (h : SB r σ bad) (w : ∀ a, bad a → bad' a) : SB r σ bad' := fun i xs p e1 e2 => w p (h i xs p e1 e2)
def putR : Rg → List Nat → List Cv → Rg
  | r, i :: is, w :: ws => putR (r.set i (some w.sl)) is ws
  | r, _, _ => r
def putS : L2.St → List Nat → List V → L2.St
  | σ, i :: is, v :: vs => putS (σ.set i (some v)) is vs
  | σ, _, _ => σ
theorem Rel.put {K : PySem.W.Frag} {O : Addr → Prop} {H : Hp} {j : Jr} {bad : Addr → Prop} {vs : List V} {ws : List Cv} (h : Pend K C O H bad vs ws) : ∀ {σ : L2.St} {r : Rg} {is : List Nat}, Rel K C O σ H r j → SB r σ bad → is.length = ws.length → Rel K C O (putS σ is vs) H (putR r is ws) j := by
  induction h with
  | nil =>
    intro σ r is R _ hl
    cases is with
    | nil => exact R
    | cons _ _ => cases hl
  | d rv t ih =>
    intro σ r is R sb hl
    cases is with
    | nil => cases hl
    | cons i is =>
      refine ih (R.setD i rv) (fun k xs p e1 e2 => ?_) (Nat.succ.inj hl)
      rcases get_set e1 with ⟨_, z, _⟩ | ⟨hk, e1'⟩
      · cases z
      · rw [List.getElem?_set_ne (Ne.symm hk)] at e2
        exact sb k xs p e1' e2
  | own a1 a2 a3 a4 a5 a6 a7 a8 t ih =>
    intro σ r is R sb hl
    cases is with
    | nil => cases hl
    | cons i is =>
      refine ih (R.setOwn i a1 a2 a3 a4 a5 a6 a7 fun k xs hk e1 e2 => a8 (sb k xs _ e1 e2)) (fun k xs p e1 e2 => ?_) (Nat.succ.inj hl)
      rcases get_set e1 with ⟨hk, z, hi⟩ | ⟨hk, e1'⟩
      · subst hk
        rw [List.getElem?_set_self (by rw [R.len]; exact hi)] at e2
        cases e2
        exact .inr rfl
      · rw [List.getElem?_set_ne (Ne.symm hk)] at e2
        exact .inl (sb k xs p e1' e2)
def sPar (is : List Nat) (f : M (List Cv)) : Sm := fun r j => (f r j).bind fun p => if is.length = p.1.length then some (.nx, putR r is p.1, p.2) else none
theorem Pend.len {K : PySem.W.Frag} {O : Addr → Prop} {H : Hp} {bad : Addr → Prop} {vs : List V} {ws : List Cv} (h : Pend K C O H bad vs ws) : vs.length = ws.length := by
  induction h with
  | nil => rfl
  | d _ _ ih => exact congrArg (· + 1) ih
  | own _ _ _ _ _ _ _ _ _ ih => exact congrArg (· + 1) ih
theorem par_core (ha : EP X C es gp) {is : List Nat} {D : Ends} {σ : L2.St} {H : Hp} (h : tES X.K C (sPar is gp) D σ H) : tEP X.K C gp σ H fun vs H1 => vs.length = is.length ∧ D.nx (putS σ is vs) H1 := by
  obtain ⟨O, r, j, out, r', j', R, h, q⟩ := h
  obtain ⟨⟨ws, j1⟩, e1, h⟩ := bind_some h
  split at h
  · rename_i hl
    cases h
    refine ⟨O, r, j, ws, _, R, e1, fun O2 vs H2 R2 x2 k2 up pn => ⟨by rw [pn.len]; exact hl.symm, ?_⟩⟩
    exact q O2 _ H2 (R2.put pn (R.sb.weak fun a z => z) hl) x2
  · cases h
theorem pa_imp {t t' : TA} {es : List Expr} (h : PA X es t) (w : ∀ σ H Q, t' σ H Q → t σ H Q) : PA X es t' := pa_weak h w
theorem es_par2 (i l : Nat) {x y : Str} {px py pt : Pos} {kt k2 : Nat} {pt2 : Pos} (ha : EP X C [a, b] gp) (hc : X.calm = true) (hN : X.N.Nodup) (hi : X.N[i]? = some x := by rfl) (hj : X.N[l]? = some y := by rfl) (hij : i ≠ l := by decide)
    (hx : X.env.scope.names.lookup x = some .local := by rfl) (hy : X.env.scope.names.lookup y = some .local := by rfl)
    (hw : swappedStores [.Tuple [.Name x px, .Name y py] kt pt] (.Tuple [a, b] k2 pt2) X.env = pure (some [x, y]) := by rfl)
    (hs : swapsWithSole [.Tuple [.Name x px, .Name y py] kt pt] (.Tuple [a, b] k2 pt2) pos.line X.env = pure false := by rfl) :
    ES X C (.Assign [.Tuple [.Name x px, .Name y py] kt pt] (.Tuple [a, b] k2 pt2) pos) (sPar [i, l] gp) := ⟨ps_weak (ps_par hc hN hi hj hij hx hy ha.pa hw hs) fun D σ H h => by
  obtain ⟨O, r, j, ws, j', R, e1, q⟩ := par_core ha h
  refine ⟨O, r, j, ws, j', R, e1, fun O2 vs H2 R2 x2 k2 up pn => ?_⟩
  obtain ⟨hl, qn⟩ := q O2 vs H2 R2 x2 k2 up pn
  match vs, hl with
  | [v, w], _ => exact ⟨v, w, rfl, qn⟩⟩
theorem es_par3 (i l m : Nat) {x y z : Str} {px py pz pt : Pos} {kt k2 : Nat} {pt2 : Pos} (ha : EP X C [a, b, c] gp) (hc : X.calm = true) (hN : X.N.Nodup) (hi : X.N[i]? = some x := by rfl) (hj : X.N[l]? = some y := by rfl) (hm : X.N[m]? = some z := by rfl) (hij : i ≠ l := by decide) (him : i ≠ m := by decide) (hjm : l ≠ m := by decide)
    (hx : X.env.scope.names.lookup x = some .local := by rfl) (hy : X.env.scope.names.lookup y = some .local := by rfl) (hz : X.env.scope.names.lookup z = some .local := by rfl)
    (hw : swappedStores [.Tuple [.Name x px, .Name y py, .Name z pz] kt pt] (.Tuple [a, b, c] k2 pt2) X.env = pure (some [x, y, z]) := by rfl)
    (hs : swapsWithSole [.Tuple [.Name x px, .Name y py, .Name z pz] kt pt] (.Tuple [a, b, c] k2 pt2) pos.line X.env = pure false := by rfl) :
    ES X C (.Assign [.Tuple [.Name x px, .Name y py, .Name z pz] kt pt] (.Tuple [a, b, c] k2 pt2) pos) (sPar [i, l, m] gp) := ⟨ps_weak (ps_par3 hc hN hi hj hm hij him hjm hx hy hz ha.pa hw hs) fun D σ H h => by
  obtain ⟨O, r, j, ws, j', R, e1, q⟩ := par_core ha h
  refine ⟨O, r, j, ws, j', R, e1, fun O2 vs H2 R2 x2 k2 up pn => ?_⟩
  obtain ⟨hl, qn⟩ := q O2 vs H2 R2 x2 k2 up pn
  match vs, hl with
  | [v, w, u], _ => exact ⟨v, w, u, rfl, qn⟩⟩
/-- names as targets, the heap as it is -/
def gNames : List Nat → TGs
  | [] => gNil
  | i :: is => gCons (gName i) (gNames is)
structure ENs (X : Cx) (ts : List Expr) (is : List Nat) : Prop where
  pg : PGs X ts (gNames is)
theorem ens_nil : ENs X [] [] := ⟨pgs_nil⟩
theorem ens_cons (i : Nat) {x : Str} {ts : List Expr} {is : List Nat} {px : Pos} (h : ENs X ts is) (hN : X.N.Nodup) (hi : X.N[i]? = some x := by rfl) (hx : Loc X.env.scope x := by first | exact Or.inl rfl | exact Or.inr rfl) (hf : X.fn x = true ∨ X.env.scope.names.lookup x = some .local := by first | exact .inl rfl | exact .inr rfl)
    (hs : (assignEach (.Name x px :: ts) X.env).map (·.2) = assign (.Name x px) X.env :: (assignEach ts X.env).map (·.2) := by rfl) : ENs X (.Name x px :: ts) (i :: is) := ⟨pgs_cons (pg_name hN hi hx hf) h.pg hs⟩
theorem gNames_put : ∀ {is : List Nat} {vs : List V} {σ : L2.St} {H : Hp} {Q : L2.St → Hp → Prop}, vs.length = is.length → Q (putS σ is vs) H → gNames is vs σ H Q
  | [], [], _, _, _, _, q => ⟨rfl, q⟩
  | i :: is, v :: vs, σ, H, Q, hl, q => ⟨v, vs, rfl, gNames_put (is := is) (Nat.succ.inj hl) q⟩
/-- the same where a tuple is made and taken apart -/
theorem es_parT {is : List Nat} {ts : List Expr} {pt : Pos} {kt k2 n : Nat} {pt2 : Pos} (ha : EP X C es gp) (hg : ENs X ts is) (hc : X.calm = true) (hn : n ≤ 1000 := by decide) (hl : is.length = n := by rfl)
    (hl2 : (assignEach ts X.env).length = n := by rfl) (hst : (assignEach ts X.env).findIdx? (·.1) = none := by rfl)
    (hs : swapsWithSole [.Tuple ts kt pt] (.Tuple es k2 pt2) pos.line X.env = pure false := by rfl) (hw : swappedStores [.Tuple ts kt pt] (.Tuple es k2 pt2) X.env = pure none := by rfl)
    (h1 : (assignEach [.Tuple ts kt pt] X.env).map (·.2) = [assign (.Tuple ts kt pt) X.env] := by rfl) : ES X C (.Assign [.Tuple ts kt pt] (.Tuple es k2 pt2) pos) (sPar is gp) := ⟨ps_weak (ps_asg (pe_tup ha.pa) (pg_tup hc hg.pg hl2 hst) hs hw h1) fun D σ H h => by
  obtain ⟨O, r, j, out, r', j', R, h, q⟩ := h
  obtain ⟨⟨ws, j1⟩, e1, h⟩ := bind_some h
  split at h
  · rename_i hz
    cases h
    refine ⟨O, r, j, ws, _, R, e1, fun O2 vs H2 R2 x2 k2 up pn => ?_⟩
    have hv : vs.length = n := by rw [pn.len, ← hl]; exact hz.symm
    refine ⟨by rw [hv, sizeLine_eq]; omega, fun p hp => ?_⟩
    refine ⟨p, vs, rfl, .inl (.inl upd_same), hv, gNames_put (by rw [hv, hl]) ?_⟩
    -- the tuple is nobody's
    have ex := ext_own (O := O2) (x := .tup vs) hp
    have R3 := R2.newOwn (.tup vs) hp
    have kp : ∀ a o, H2 a = some o → upd H2 p (.tup vs) a = some o := same_upd hp
    have pn3 := pn.grow ex kp fun a h => .inl h
    exact q _ _ _ (R3.put pn3 (R.sb.weak fun a z => z) hz) (x2.trans ex)
  · cases h⟩
end
end Ev
end
section
set_option Elab.async false
set_option linter.all false
set_option autoImplicit false
set_option maxRecDepth 100000
/-! Ev: loops, comprehensions. -/
namespace Ev
open PySem PySem.Spec PyProof.Rows L2
/-- J goes through ds -/
def Wk (K : PySem.W.Frag) (J : It) (ds : List Dt) (O : Addr → Prop) (H : Hp) : Prop :=
  ∃ G Y, Walk J ds.length G Y ∧ ds.length ≤ sizeLine ∧ (∀ O' H', Ext O H O' H' → G H') ∧
    ∀ i O' H' x H'', i < ds.length → Ext O H O' H' → (∀ a, O' a → H' a ≠ none) → Y i H' x H'' → ∃ d, ds[i]? = some d ∧ Same H' H'' ∧ Rep K O' H'' x d
theorem Wk.ext {K : PySem.W.Frag} {J : It} {ds : List Dt} {O O1 : Addr → Prop} {H H1 : Hp} (w : Wk K J ds O H) (e : Ext O H O1 H1) : Wk K J ds O1 H1 := by
  obtain ⟨G, Y, w1, w2, w3, w4⟩ := w
  exact ⟨G, Y, w1, w2, fun O' H' x => w3 O' H' (e.trans x), fun i O' H' x H'' hi ex => w4 i O' H' x H'' hi (e.trans ex)⟩
def tEI (K : PySem.W.Frag) (C : Cn) (f : M (List Dt)) : TI := fun σ H R => ∃ O r j ds j', Rel K C O σ H r j ∧ f r j = some (ds, j') ∧ ∀ J H', Keep C H H' → JarIs C H' j' → Wk K J ds O H' → R J H'
/-- what is gone through -/
structure EI (X : Cx) (C : Cn) (tg e : Expr) (f : M (List Dt)) : Prop where
  pi : PI X tg e (tEI X.K C f)
theorem pi_weak {X : Cx} {tg e : Expr} {t t' : TI} (h : PI X tg e t) (w : ∀ σ H R, t' σ H R → t σ H R) : PI X tg e t' := ⟨fun pins s σ H R I q => h.run pins s σ H R I (w σ H R q)⟩
/-! ### what a statement is to reach -/
def After (K : PySem.W.Frag) (C : Cn) (Dn : Ends) (O : Addr → Prop) (H : Hp) (out : Out) (r' : Rg) (j' : Jr) : Prop :=
  match out with
  | .nx => ∀ O' σ' H', Rel K C O' σ' H' r' j' → Ext O H O' H' → Dn.nx σ' H'
  | .bk => ∀ O' σ' H', Rel K C O' σ' H' r' j' → Ext O H O' H' → Dn.bk σ' H'
  | .ct => ∀ O' σ' H', Rel K C O' σ' H' r' j' → Ext O H O' H' → Dn.ct σ' H'
  | .rt d => ∀ O' σ' H' v, Rel K C O' σ' H' r' j' → Ext O H O' H' → Rep K O' H' v d → Dn.rt v H'
theorem After.ext {K : PySem.W.Frag} {C : Cn} {Dn : Ends} {O O1 : Addr → Prop} {H H1 : Hp} {out : Out} {r' : Rg} {j' : Jr} (a : After K C Dn O H out r' j') (e : Ext O H O1 H1) : After K C Dn O1 H1 out r' j' := by
  cases out with
  | nx => exact fun O2 σ2 H2 R x => a O2 σ2 H2 R (e.trans x)
  | bk => exact fun O2 σ2 H2 R x => a O2 σ2 H2 R (e.trans x)
  | ct => exact fun O2 σ2 H2 R x => a O2 σ2 H2 R (e.trans x)
  | rt d => exact fun O2 σ2 H2 v R x rv => a O2 σ2 H2 v R (e.trans x) rv
theorem tES_iff {K : PySem.W.Frag} {C : Cn} {g : Sm} {Dn : Ends} {σ : L2.St} {H : Hp} : tES K C g Dn σ H ↔ ∃ O r j out r' j', Rel K C O σ H r j ∧ g r j = some (out, r', j') ∧ After K C Dn O H out r' j' := Iff.rfl
/-! ### for -/
def loopS (t : Tm) (b : Sm) : List Dt → Rg → Jr → Option (Out × Rg × Jr)
  | [], r, j => some (.nx, r, j)
  | d :: ds, r, j => (t d r j).bind fun p => (b p.1 p.2).bind fun q => match q.1 with
    | .nx => loopS t b ds q.2.1 q.2.2
    | .ct => loopS t b ds q.2.1 q.2.2
    | .bk => some (.nx, q.2.1, q.2.2)
    | .rt d => some (.rt d, q.2.1, q.2.2)
def sFor (it : M (List Dt)) (t : Tm) (b : Sm) : Sm := fun r j => (it r j).bind fun p => loopS t b p.1 r p.2
section
variable {X : Cx} {C : Cn} {tg iter e c elt : Expr} {body : List Stmt} {it : M (List Dt)} {t : Tm} {b g : Sm} {pos : Pos} {sl : List Nat}
theorem es_for (hp : PassesOwn (model X.prog X.w) X.A X.env X.xe) (hc : X.calm = true) (hi : EI X C tg iter it) (hg : EG X C tg t sl) (hb : ESs X C body b)
    (hs : ∀ x, foldedSetIterable iter X.env x = pure x := by intro _; rfl) : ES X C (.For tg iter body [] pos) (sFor it t b) := ⟨ps_weak (ps_for hp hc hi.pi hg.pg hb.ps hs) fun D σ H h => by
  obtain ⟨O, r, j, out, r', j', R, h, q⟩ := tES_iff.mp h
  obtain ⟨⟨ds, j1⟩, e1, h⟩ := bind_some h
  refine ⟨O, r, j, ds, j1, R, e1, fun J H1 k1 q1 w => ?_⟩
  have R1 := R.keep k1 q1
  have q := q.ext (R.ext k1)
  obtain ⟨G, Y, w1, w2, w3, w4⟩ := w
  refine for_it w1 (fun i σ' H' => ∃ O' r2 j2, Rel X.K C O' σ' H' r2 j2 ∧ Ext O H1 O' H' ∧ loopS t b (ds.drop i) r2 j2 = some (out, r', j')) ⟨O, r, j1, R1, .refl, h⟩ (fun i σ' H' _ ⟨O', r2, j2, _, x, _⟩ => w3 O' H' x) ?_ ?_
  · rintro i x σ2 H2 H3 hi ⟨O2, r2, j2, R2, x2, e2⟩ y
    obtain ⟨d, hd, sm, rv⟩ := w4 i O2 H2 x H3 hi x2 R2.dom y
    have R3 := R2.keep (.of sm) (R2.jarIs.same sm)
    have x3 := x2.trans (R2.ext (.of sm))
    have ed : ds.drop i = d :: ds.drop (i + 1) := by
      rw [List.drop_eq_getElem_cons hi]
      congr 1
      rw [List.getElem?_eq_getElem hi] at hd
      exact Option.some.inj hd
    rw [ed] at e2
    obtain ⟨⟨r4, j4⟩, f1, e2⟩ := bind_some e2
    obtain ⟨⟨out5, r5, j5⟩, f2, e2⟩ := bind_some e2
    refine ⟨O2, r2, j2, d, r4, j4, R3, rv, f1, fun σ4 H4 R4 k4 _ _ => ?_⟩
    have x4 := x3.trans (R3.ext k4)
    refine tES_iff.mpr ⟨O2, r4, j4, out5, r5, j5, R4, f2, ?_⟩
    cases out5 with
    | nx => exact fun O5 σ5 H5 R5 x5 => ⟨O5, r5, j5, R5, x4.trans x5, e2⟩
    | ct => exact fun O5 σ5 H5 R5 x5 => ⟨O5, r5, j5, R5, x4.trans x5, e2⟩
    | bk =>
      cases e2
      exact fun O5 σ5 H5 R5 x5 => q O5 σ5 H5 R5 (x4.trans x5)
    | rt d' =>
      cases e2
      exact fun O5 σ5 H5 v R5 x5 rv => q O5 σ5 H5 v R5 (x4.trans x5) rv
  · rintro σ2 H2 ⟨O2, r2, j2, R2, x2, e2⟩
    rw [List.drop_length] at e2
    cases e2
    exact q O2 σ2 H2 R2 x2⟩
/-! ### while -/
def whileS (c : M Bool) (b : Sm) : Nat → Rg → Jr → Option (Out × Rg × Jr)
  | 0, _, _ => none
  | n + 1, r, j => (c r j).bind fun p => if p.1 = true then (b r p.2).bind fun q => match q.1 with
    | .nx => whileS c b n q.2.1 q.2.2
    | .ct => whileS c b n q.2.1 q.2.2
    | .bk => some (.nx, q.2.1, q.2.2)
    | .rt d => some (.rt d, q.2.1, q.2.2)
    else some (.nx, r, p.2)
def sWhile (fuel : Rg → Nat) (c : M Bool) (b : Sm) : Sm := fun r j => whileS c b (fuel r) r j
theorem es_while {fc : M Bool} (fuel : Rg → Nat) (hp : PassesOwn (model X.prog X.w) X.A X.env X.xe) (hc : ET X C c fc) (hb : ESs X C body b) : ES X C (.While c body [] pos) (sWhile fuel fc b) := ⟨ps_weak (ps_while hp hc.pt hb.ps) fun D σ H h => by
  obtain ⟨O, r, j, out, r', j', R, h, q⟩ := tES_iff.mp h
  refine ⟨fun m σ' H' => ∃ O' r2 j2, Rel X.K C O' σ' H' r2 j2 ∧ Ext O H O' H' ∧ whileS fc b m r2 j2 = some (out, r', j'), ⟨_, O, r, j, R, .refl, h⟩, ?_⟩
  rintro m σ2 H2 ⟨O2, r2, j2, R2, x2, e2⟩
  cases m with
  | zero => cases e2
  | succ m =>
    obtain ⟨⟨z, j3⟩, f1, e2⟩ := bind_some e2
    refine ⟨O2, r2, j2, z, j3, R2, f1, fun H3 k3 q3 => ?_⟩
    have R3 := R2.keep k3 q3
    have x3 := x2.trans (R2.ext k3)
    cases z with
    | false =>
      cases e2
      exact q O2 σ2 H3 R3 x3
    | true =>
      obtain ⟨⟨out5, r5, j5⟩, f2, e2⟩ := bind_some e2
      refine ⟨fun σ' H' => ∃ O' r2 j2, Rel X.K C O' σ' H' r2 j2 ∧ Ext O H O' H' ∧ whileS fc b m r2 j2 = some (out, r', j'), fun σ' H' w => ⟨m, Nat.lt_succ_self m, w⟩, ?_⟩
      refine tES_iff.mpr ⟨O2, r2, j3, out5, r5, j5, R3, f2, ?_⟩
      cases out5 with
      | nx => exact fun O5 σ5 H5 R5 x5 => ⟨O5, r5, j5, R5, x3.trans x5, e2⟩
      | ct => exact fun O5 σ5 H5 R5 x5 => ⟨O5, r5, j5, R5, x3.trans x5, e2⟩
      | bk =>
        cases e2
        exact fun O5 σ5 H5 R5 x5 => q O5 σ5 H5 R5 (x3.trans x5)
      | rt d' =>
        cases e2
        exact fun O5 σ5 H5 v R5 x5 rv => q O5 σ5 H5 v R5 (x3.trans x5) rv⟩
/-! ### comprehensions -/
def wipeR (r : Rg) : List Nat → Rg
  | [] => r
  | v :: vs => (wipeR r vs).set v none
theorem Rel.wipe {K : PySem.W.Frag} {O : Addr → Prop} {σ : L2.St} {H : Hp} {r : Rg} {j : Jr} (R : Rel K C O σ H r j) : ∀ vs : List Nat, Rel K C O (L2.wipe σ vs) H (wipeR r vs) j
  | [] => R
  | v :: vs => (R.wipe vs).setN v
theorem wipe_at {σ : L2.St} {i : Nat} : ∀ {vs : List Nat}, i ∈ vs → i < σ.length → (L2.wipe σ vs)[i]? = some none
  | v :: vs, h, hl => by
    unfold L2.wipe
    by_cases e : v = i
    · subst e
      exact List.getElem?_set_self (by rw [wipe_length]; exact hl)
    · rw [List.getElem?_set_ne e]
      exact wipe_at ((List.mem_cons.mp h).resolve_left fun z => e z.symm) hl
theorem wipe_same {σ σ2 : L2.St} {vs sl : List Nat} (hl : σ2.length = σ.length) (hsl : ∀ i ∈ sl, i ∈ vs) (hs : ∀ i : Nat, i ∉ sl → σ2[i]? = (L2.wipe σ vs)[i]?) : L2.wipe σ2 vs = L2.wipe σ vs := by
  apply List.ext_getElem?
  intro i
  by_cases h : i ∈ vs
  · by_cases hi : i < σ.length
    · rw [wipe_at h hi, wipe_at h (by rw [hl]; exact hi)]
    · rw [List.getElem?_eq_none (by rw [wipe_length]; omega), List.getElem?_eq_none (by rw [wipe_length]; omega)]
  · rw [wipe_out h, hs i fun z => h (hsl i z)]
def tETs (K : PySem.W.Frag) (C : Cn) (c : M Bool) : TT := tET K C c
structure ETs (X : Cx) (C : Cn) (ifs : List Expr) (c : M Bool) : Prop where
  pt : PTs X ifs (tET X.K C c)
def mYes : M Bool := fun _ j => some (true, j)
theorem ets_nil : ETs X C [] mYes := ⟨⟨fun pins s σ H Q I h => pts_nil.run pins s σ H Q I (by
  obtain ⟨O, r, j, z, j', R, h, q⟩ := h
  cases h
  exact q H .refl R.jarIs)⟩⟩
theorem ets_one {fc : M Bool} (h : ET X C c fc) : ETs X C [c] fc := ⟨pts_one h.pt⟩
def lcS (t : Tm) (c : M Bool) (e : M Dt) (r0 : Rg) : List Dt → Jr → Option (List Dt × Jr)
  | [], j => some ([], j)
  | d :: ds, j => (t d r0 j).bind fun p => (c p.1 p.2).bind fun q => if q.1 = true then (e p.1 q.2).bind fun z => (lcS t c e r0 ds z.2).map fun y => (z.1 :: y.1, y.2) else lcS t c e r0 ds q.2
def mLc (it : M (List Dt)) (t : Tm) (c : M Bool) (e : M Dt) (vs : List Nat) : M (List Dt) := fun r j => (it r j).bind fun p => lcS t c e (wipeR r vs) p.1 p.2
theorem lc_core0 {K : PySem.W.Frag} {t : Tm} {c : M Bool} {e : M Dt} {vs sl : List Nat} (hsl : ∀ i ∈ sl, i ∈ vs) {O : Addr → Prop} {σ : L2.St} {H1 : Hp} {r : Rg} {j1 j' : Jr} {ds out : List Dt} {J : It} {Q : VK} (R1 : Rel K C O σ H1 r j1) (w : Wk K J ds O H1)
    (h : lcS t c e (wipeR r vs) ds j1 = some (out, j')) (q : ∀ p av H', H1 p = none → Keep C H1 H' → JarIs C H' j' → H' p = some (.lst av) → av.length ≤ sizeLine → Reps K (ownP O p) H' av out → Q (.ref p) H') (D : Addr) (hD : H1 D = none) :
    ∃ W : Nat → Nat → Hp → Prop, (∃ m, W 0 m (upd H1 D (.lst []))) ∧ ∀ i m H, W i m H →
      (J.stop i H ∧ Q (.ref D) H) ∨ (J.go i H ∧ ∃ Nx : Hp → Prop, (∀ H', Nx H' → ∃ m', m' < m ∧ W (i + 1) m' H') ∧ ∀ x H', J.yld i H x H' → tEG K C t sl x (L2.wipe σ vs) H' fun σ2 H2 => L2.wipe σ2 vs = L2.wipe σ vs ∧ tET K C c σ2 H2 fun b H3 =>
        if b = true then tEV K C e σ2 H3 fun y H4 => ∃ acc, H4 D = some (.lst acc) ∧ acc.length < sizeLine ∧ Nx (upd H4 D (.lst (acc ++ [y]))) else Nx H3) := by
  have R1' := (R1.wipe vs).newOwn (.lst []) hD
  obtain ⟨heD, npD, n0D⟩ := R1.heNone hD
  have x1 : Ext O H1 (ownP O D) (upd H1 D (.lst [])) := ext_own hD
  obtain ⟨G, Y, w1, w2, w3, w4⟩ := w
  refine lc_it w1 (fun i H' => ∃ j2 av acc rest, Rel K C (ownP O D) (L2.wipe σ vs) H' (wipeR r vs) j2 ∧ Keep C H1 H' ∧ H' D = some (.lst av) ∧ acc.length ≤ i ∧ Reps K (ownP O D) H' av acc ∧ lcS t c e (wipeR r vs) (ds.drop i) j2 = some (rest, j') ∧ out = acc ++ rest)
    ⟨j1, [], [], out, R1', .of (same_upd hD), upd_same, Nat.zero_le _, .nil, h, rfl⟩ (fun i H' _ ⟨j2, av, acc, rest, R2, k2, _⟩ => w3 (ownP O D) H' fun a o ha na => ⟨k2 a o ha (R1.notJar na), fun z => z.elim na (ne_of_none ha hD)⟩) ?_ ?_
  · rintro i x H2 H3 hi ⟨j2, av, acc, rest, R2, k2, eD, hl, ra, e2, eo⟩ y
    have x2 : Ext O H1 (ownP O D) H2 := fun a o ha na => ⟨k2 a o ha (R1.notJar na), fun z => z.elim na (ne_of_none ha hD)⟩
    obtain ⟨d, hd, sm, rv⟩ := w4 i (ownP O D) H2 x H3 hi x2 R2.dom y
    have R3 := R2.keep (.of sm) (R2.jarIs.same sm)
    have ed : ds.drop i = d :: ds.drop (i + 1) := by
      rw [List.drop_eq_getElem_cons hi]
      congr 1
      rw [List.getElem?_eq_getElem hi] at hd
      exact Option.some.inj hd
    rw [ed] at e2
    obtain ⟨⟨r4, j4⟩, f1, e2⟩ := bind_some e2
    obtain ⟨⟨z, j5⟩, f2, e2⟩ := bind_some e2
    refine ⟨ownP O D, _, j2, d, r4, j4, R3, rv, f1, fun σ4 H4 R4 k4 l4 s4 => ⟨wipe_same (by rw [l4, wipe_length]) hsl s4, ownP O D, r4, j4, z, j5, R4, f2, fun H5 k5 q5 => ?_⟩⟩
    have R5 := R4.keep k5 q5
    have kk : Keep C H2 H5 := ((Keep.of sm).trans k4).trans k5
    have R2' := R2.keep kk q5
    cases z with
    | false =>
      dsimp only
      rw [if_neg Bool.false_ne_true]
      rw [if_neg Bool.false_ne_true] at e2
      exact ⟨j5, av, acc, rest, R2', k2.trans kk, kk _ _ eD npD, Nat.le_succ_of_le hl, (R2.ext kk).reps ra, e2, eo⟩
    | true =>
      dsimp only
      rw [if_pos rfl]
      rw [if_pos rfl] at e2
      obtain ⟨⟨zd, j6⟩, f3, e2⟩ := bind_some e2
      obtain ⟨⟨rs, j7⟩, f4, e2⟩ := map_some e2
      cases e2
      refine ⟨ownP O D, r4, j5, zd, j6, R5, f3, fun yv H6 k6 q6 ry => ?_⟩
      have kk6 := kk.trans k6
      have R6 := R2.keep kk6 q6
      have eD6 := kk6 _ _ eD npD
      have lav : av.length ≤ i := by rw [ra.length]; exact hl
      have lens : (av ++ [yv]).length ≤ sizeLine := by
        rw [List.length_append]
        simp only [List.length_cons, List.length_nil]
        omega
      have ns : ∀ (k : Nat) xs, (wipeR r vs)[k]? = some (some (.own xs)) → (L2.wipe σ vs)[k]? ≠ some (some (.ref D)) := (R1.wipe vs).noSlot hD
      have R7 := R6.updOwned (x := .lst (av ++ [yv])) (.inr rfl) heD npD ns
      have ex7 : Ext (ownP O D) H6 (ownP O D) (upd H6 D (.lst (av ++ [yv]))) := fun a o ha na => ⟨by rw [upd_ne fun z => na (.inr z)]; exact ha, na⟩
      refine ⟨av, eD6, by omega, j6, av ++ [yv], acc ++ [zd], rs, R7, fun a o ha np => ?_, upd_same, ?_, ?_, f4, ?_⟩
      · rw [upd_ne (ne_of_none ha hD)]
        exact (k2.trans kk6) a o ha np
      · rw [List.length_append]
        exact Nat.succ_le_succ hl
      · exact ex7.reps (((R2.ext kk6).reps ra).app (.cons ry .nil))
      · rw [eo, List.append_assoc]
        rfl
  · rintro H2 ⟨j2, av, acc, rest, R2, k2, eD, hl, ra, e2, eo⟩
    rw [List.drop_length] at e2
    cases e2
    rw [List.append_nil] at eo
    subst eo
    exact q D av H2 hD k2 R2.jarIs eD (by rw [ra.length]; omega) ra
theorem lc_core1 {K : PySem.W.Frag} {it : M (List Dt)} {t : Tm} {c : M Bool} {e : M Dt} {vs sl : List Nat} (hsl : ∀ i ∈ sl, i ∈ vs) {σ : L2.St} {H : Hp} {Q : VK} (h : tEF K C (mLc it t c e vs) σ H Q) :
    tLc (tEI K C it) (tEG K C t sl) (tET K C c) (tEV K C e) vs σ H Q := by
  obtain ⟨O, r, j, out, j', R, h, q⟩ := h
  obtain ⟨⟨ds, j1⟩, e1, h⟩ := bind_some h
  refine ⟨O, r, j, ds, j1, R, e1, fun J H1 k1 q1 w D hD => ?_⟩
  exact lc_core0 hsl (R.keep k1 q1) w h (fun p av H' hp k2 q2 e2 z rp => q p av H' (R.freshK k1 q1 hp) (k1.trans k2) q2 e2 z rp) D hD
section
variable {scope : Scope} {own : List (Str × Nat)} {ifs : List Expr} {tt : M Bool} {te : M Dt}
theorem ef_lc (own : List (Str × Nat)) (hc : X.calm = true) (hN : X.N.Nodup) (hi : EI X C tg iter it) (ok : BlkOk X.N X.env.scope scope own)
    (hg : ∀ (s : Shared) (H : Hp) (Ca : Addr) (cl : List (Str × Addr)) (fp : List Addr), EG (X.blk s H scope (compEnvC scope cl Ca X.env) fp) C tg t sl)
    (ht : ∀ (s : Shared) (H : Hp) (Ca : Addr) (cl : List (Str × Addr)) (fp : List Addr), ETs (X.blk s H scope (compEnvC scope cl Ca X.env) fp) C ifs tt)
    (he : ∀ (s : Shared) (H : Hp) (Ca : Addr) (cl : List (Str × Addr)) (fp : List Addr), EV (X.blk s H scope (compEnvC scope cl Ca X.env) fp) C elt te)
    (hsl : ∀ i ∈ sl, i ∈ own.map (·.2) := by decide) (hs : ∀ x, foldedSetIterable iter X.env x = pure x := by intro _; rfl) : EF X C (.ListComp elt [⟨tg, iter, ifs, 0⟩] scope pos) (mLc it t tt te (own.map (·.2))) :=
  ⟨pe_weak (pe_lc hc hN hi.pi ok (fun s H Ca cl fp => (hg s H Ca cl fp).pg) (fun s H Ca cl fp => (ht s H Ca cl fp).pt) (fun s H Ca cl fp => (he s H Ca cl fp).pe) hs) fun σ H Q h => lc_core1 hsl h⟩
theorem es_setLc (own : List (Str × Nat)) (i : Nat) {y : Str} {py spos : Pos} (hc : X.calm = true) (hN : X.N.Nodup) (hi : EI X C tg iter it) (ok : BlkOk X.N X.env.scope scope own)
    (hg : ∀ (s : Shared) (H : Hp) (Ca : Addr) (cl : List (Str × Addr)) (fp : List Addr), EG (X.blk s H scope (compEnvC scope cl Ca X.env) fp) C tg t sl)
    (ht : ∀ (s : Shared) (H : Hp) (Ca : Addr) (cl : List (Str × Addr)) (fp : List Addr), ETs (X.blk s H scope (compEnvC scope cl Ca X.env) fp) C ifs tt)
    (he : ∀ (s : Shared) (H : Hp) (Ca : Addr) (cl : List (Str × Addr)) (fp : List Addr), EV (X.blk s H scope (compEnvC scope cl Ca X.env) fp) C elt te)
    (hsw : swapsWith (.ListComp elt [⟨tg, iter, ifs, 0⟩] scope pos) (some (.Name y py)) spos.line X.env = pure true) (hy : X.N[i]? = some y := by rfl) (hyl : X.env.scope.names.lookup y = some .local := by rfl)
    (hsl : ∀ i ∈ sl, i ∈ own.map (·.2) := by decide) (hs : ∀ x, foldedSetIterable iter X.env x = pure x := by intro _; rfl) : ES X C (.Assign [.Name y py] (.ListComp elt [⟨tg, iter, ifs, 0⟩] scope pos) spos) (sOwn i (mLc it t tt te (own.map (·.2)))) :=
  ⟨ps_weak (ps_setLc hc hN hy hyl hsw hi.pi ok (fun s H Ca cl fp => (hg s H Ca cl fp).pg) (fun s H Ca cl fp => (ht s H Ca cl fp).pt) (fun s H Ca cl fp => (he s H Ca cl fp).pe) hs) fun D σ H h => by
    refine lc_core1 (it := it) (t := t) (c := tt) (e := te) hsl ?_
    obtain ⟨O, r, j, out, r', j', R, h, q⟩ := h
    obtain ⟨⟨ds, j1⟩, e1, h⟩ := map_some h
    cases h
    refine ⟨O, r, j, ds, _, R, e1, fun p vs H' hp k w e2 z rp => ?_⟩
    obtain ⟨R1, ex⟩ := R.ownK k w hp e2
    obtain ⟨he, np, n0⟩ := R.heNone hp
    exact q (ownP O p) _ H' (R1.setOwn i e2 z (.inr rfl) n0 he np rp fun k xs _ => R.noSlot hp k xs) ex⟩
theorem es_setLcD (own : List (Str × Nat)) (i : Nat) {y : Str} {py spos : Pos} (hc : X.calm = true) (hN : X.N.Nodup) (hi : EI X C tg iter it) (ok : BlkOk X.N X.env.scope scope own)
    (hg : ∀ (s : Shared) (H : Hp) (Ca : Addr) (cl : List (Str × Addr)) (fp : List Addr), EG (X.blk s H scope (compEnvC scope cl Ca X.env) fp) C tg t sl)
    (ht : ∀ (s : Shared) (H : Hp) (Ca : Addr) (cl : List (Str × Addr)) (fp : List Addr), ETs (X.blk s H scope (compEnvC scope cl Ca X.env) fp) C ifs tt)
    (he : ∀ (s : Shared) (H : Hp) (Ca : Addr) (cl : List (Str × Addr)) (fp : List Addr), EV (X.blk s H scope (compEnvC scope cl Ca X.env) fp) C elt te)
    (hsw : swapsWith (.ListComp elt [⟨tg, iter, ifs, 0⟩] scope pos) (some (.Name y py)) spos.line X.env = pure true) (hy : X.N[i]? = some y := by rfl) (hyl : X.env.scope.names.lookup y = some .local := by rfl)
    (hsl : ∀ i ∈ sl, i ∈ own.map (·.2) := by decide) (hs : ∀ x, foldedSetIterable iter X.env x = pure x := by intro _; rfl) : ES X C (.Assign [.Name y py] (.ListComp elt [⟨tg, iter, ifs, 0⟩] scope pos) spos) (sSet i (mL (mLc it t tt te (own.map (·.2))))) :=
  ⟨ps_weak (ps_setLc hc hN hy hyl hsw hi.pi ok (fun s H Ca cl fp => (hg s H Ca cl fp).pg) (fun s H Ca cl fp => (ht s H Ca cl fp).pt) (fun s H Ca cl fp => (he s H Ca cl fp).pe) hs) fun D σ H h => by
    refine lc_core1 (it := it) (t := t) (c := tt) (e := te) hsl ?_
    obtain ⟨O, r, j, out, r', j', R, h, q⟩ := h
    obtain ⟨⟨d1, j0⟩, e0, h⟩ := map_some h
    cases h
    obtain ⟨⟨ds, j1⟩, e1, h⟩ := map_some e0
    cases h
    refine ⟨O, r, j, ds, _, R, e1, fun p vs H' hp k w e2 z rp => ?_⟩
    exact q O _ H' ((R.keep k w).setD i (.lst (hid_some.mpr ⟨R.fresh hp, e2⟩) z (rp.mono (hid_anti fun a h => .inl h)))) (R.ext k)⟩
end
end
end Ev
end
section
set_option Elab.async false
set_option linter.all false
set_option autoImplicit false
set_option maxRecDepth 100000
/-! Ev: what a loop goes through. -/
namespace Ev
open PySem PySem.Spec PyProof.Rows L2
/-- the two kinds of a row -/
inductive Sk where
  | l
  | t
def SqK (K : PySem.W.Frag) (k : Sk) (H : Hp) (a : Addr) (xs : List V) : Prop := match k with
  | .l => SqL K H a xs
  | .t => SqT K H a xs
def RowAt (k : Sk) (h : Heap) (a : Addr) (its : Array Value) : Prop := match k with
  | .l => h.IsList a its
  | .t => h.IsTuple a its
def PtrAt (k : Sk) (h : Heap) (it a : Addr) (i : Nat) : Prop := match k with
  | .l => h.IsListIter it a i
  | .t => h.IsTupleIter it a i
def ptrOb (k : Sk) (a : Addr) : Obj := match k with
  | .l => { cls := .type "list_iterator", data := .fields #[.ref a, .int 0 0] }
  | .t => { cls := .type "tuple_iterator", data := .fields #[.ref a, .int 0 0] }
theorem ptr_begins (k : Sk) (a : Addr) (its : Array Value) : Begins (.ref a) (ptrOb k a) (fun h => RowAt k h a its) := by
  cases k with
  | l => exact begins_list a its
  | t => exact begins_tuple a its
theorem ptr_draws {prog : Program} {w : World} {A : Around} (k : Sk) (hh : A.handled = none) (it a : Addr) (hne : a ≠ it) (its : Array Value) :
    Draws prog w A it [it, a] its.size (fun i v => its[i]? = some v) (fun i h => PtrAt k h it a i ∧ RowAt k h a its) := by
  cases k with
  | l => exact Draws.list hh it a hne its
  | t => exact Draws.tuple hh it a hne its
theorem PtrAt.ob {k : Sk} {h : Heap} {it a : Addr} {i : Nat} (p : PtrAt k h it a i) : ∃ o, h.get? it = some o ∧ ∀ v, o.data ≠ .cell v := by
  cases k with
  | l =>
    obtain ⟨o, e, _, d⟩ := p
    exact ⟨o, e, fun v z => by rw [d] at z; cases z⟩
  | t =>
    obtain ⟨o, e, _, d⟩ := p
    exact ⟨o, e, fun v z => by rw [d] at z; cases z⟩
theorem PtrAt.keep {k : Sk} {h h' : Heap} {it a : Addr} {i : Nat} (p : PtrAt k h it a i) (q : ∀ o, h.get? it = some o → h'.get? it = some o) : PtrAt k h' it a i := by
  cases k with
  | l => obtain ⟨o, e, r⟩ := p; exact ⟨o, q o e, r⟩
  | t => obtain ⟨o, e, r⟩ := p; exact ⟨o, q o e, r⟩
theorem ptr_new {k : Sk} {h : Heap} {it a : Addr} (e : h.get? it = some (ptrOb k a)) : PtrAt k h it a 0 := by
  cases k with
  | l => exact ⟨_, e, rfl, rfl⟩
  | t => exact ⟨_, e, rfl, rfl⟩
section
variable {X : Cx} {pins : List (Addr × Obj)} {σ : L2.St} {H : Hp} {s : Shared}
theorem row_of {k : Sk} {a : Addr} {xs : List V} (I : Inv X pins σ H s) (q : SqK X.K k H a xs) : ∃ its : List Value, Vals xs its ∧ RowAt k s.heap a its.toArray ∧ a < s.heap.objs.size := by
  cases k with
  | l =>
    obtain ⟨its, r, p, _⟩ := I.list q
    exact ⟨its, r, p.isList, p.lt⟩
  | t =>
    obtain ⟨its, r, p, _⟩ := I.tuple q
    obtain ⟨o, e, w⟩ := id p
    exact ⟨its, r, ⟨o, e, w⟩, Heap.lt_size e⟩
theorem row_inj {k : Sk} {a : Addr} {xs ys : List V} (I : Inv X pins σ H s) (q : SqK X.K k H a xs) (q' : SqK X.K k H a ys) : xs = ys := by
  cases k with
  | l => exact I.list_inj q q'
  | t => exact I.tuple_inj q q'
end
/-! ### zip of any two rows -/
def ItzK (K : PySem.W.Frag) (k1 k2 : Sk) (a b : Addr) : It :=
  ⟨fun i H => ∃ (xs ys : List V), SqK K k1 H a xs ∧ SqK K k2 H b ys ∧ i < xs.length ∧ i < ys.length,
    fun i H v H' => ∃ T x y, v = .ref T ∧ H T = none ∧ H' = upd H T (.tup [x, y]) ∧ (∀ xs, SqK K k1 H a xs → xs[i]? = some x) ∧ ∀ ys, SqK K k2 H b ys → ys[i]? = some y,
    fun i H => ∃ xs ys : List V, SqK K k1 H a xs ∧ SqK K k2 H b ys ∧ i = min xs.length ys.length⟩
theorem turn_zipK {P : Program} {w : World} {K : PySem.W.Frag} {elts : List Expr} {kk : Nat} {tpos : Pos} {k1 k2 : Sk} {a b z TI TO i1 i2 : Addr} (D : ZipSep2 z TI TO i1 i2 [i1, a] [i2, b]) (na : a ≠ i1) (nb : b ≠ i2) :
    Turn P w K (.Tuple elts kk tpos) (ItzK K k1 k2 a b) [z, TI, TO, i1, i2] z (fun i h => IsZip h z TI TO .none ∧ IsTupOf2 h TI (.ref i1) (.ref i2) ∧ (∃ x y, IsTupOf2 h TO x y) ∧ PtrAt k1 h i1 a i ∧ PtrAt k2 h i2 b i) where
  mem := by simp
  obj := fun i h st c hc => by
    obtain ⟨hz, hTI, ⟨x, y, hTO⟩, p1, p2⟩ := st
    simp only [List.mem_cons, List.mem_nil_iff, or_false, List.not_mem_nil] at hc
    rcases hc with rfl | rfl | rfl | rfl | rfl
    · exact ⟨_, hz, fun v q => nomatch q⟩
    · exact ⟨_, hTI, fun v q => nomatch q⟩
    · exact ⟨_, hTO, fun v q => nomatch q⟩
    · exact p1.ob
    · exact p2.ob
  keep := fun i h h' st kp => by
    obtain ⟨hz, hTI, ⟨x, y, hTO⟩, p1, p2⟩ := st
    exact ⟨kp z (by simp) _ hz, kp TI (by simp) _ hTI, ⟨x, y, kp TO (by simp) _ hTO⟩, p1.keep fun o e => kp i1 (by simp) o e, p2.keep fun o e => kp i2 (by simp) o e⟩
  item := by
    intro X hP hw hK hc i pins s σ H E I hf st hg
    subst hP hw hK
    obtain ⟨hz, hTI, hTO, p1, p2⟩ := st
    obtain ⟨xs, ys, qx, qy, lx, ly⟩ := hg
    obtain ⟨its, rv, ra, la⟩ := row_of I qx
    obtain ⟨its2, rv2, rb, lb⟩ := row_of I qy
    have e1 := rv.length
    have e2 := rv2.length
    have G := GoesN.zip2 (elts := elts) (x1 := kk) (pos := tpos) D (ptr_draws (prog := X.prog) (w := X.w) (A := X.A.in1) k1 (I.ok.hd hc) i1 a na its.toArray) (ptr_draws (prog := X.prog) (w := X.w) (A := X.A.in1) k2 (I.ok.hd hc) i2 b nb its2.toArray)
    refine G.goes i s _ E (by simp; omega) ⟨hz, hTI, hTO, ⟨p1, ra⟩, ⟨p2, rb⟩⟩ fun v h' tk hy st' kp _ => ?_
    obtain ⟨T, u1, u2, rfl, hT, hu1, hu2, tT⟩ := hy
    obtain ⟨z', TI', TO', ⟨p1', _⟩, ⟨p2', _⟩⟩ := st'
    obtain ⟨x, hx⟩ : ∃ x, xs[i]? = some x := ⟨xs[i], by simp [lx]⟩
    obtain ⟨y, hy⟩ : ∃ y, ys[i]? = some y := ⟨ys[i], by simp [ly]⟩
    obtain ⟨w1, hw1, rw1⟩ := rv.get hx
    obtain ⟨w2, hw2, rw2⟩ := rv2.get hy
    rw [List.getElem?_toArray] at hu1 hu2
    rw [hw1] at hu1
    rw [hw2] at hu2
    cases hu1
    cases hu2
    have new : ObjOk X.prog X.w (upd H T (.tup [x, y])) h' T (.tup [x, y]) :=
      ⟨show 2 ≤ sizeLine by decide, [u1, u2], .cons rw1 (.cons rw2 .nil), tT⟩
    have I1 : Inv X pins σ (upd H T (.tup [x, y])) { s with heap := h', toks := tk } :=
      I.turnedNew (t' := tk) (ch := [z, TI, TO, i1, i2]) (fun c o hb q => kp c o (fun m => hb (by
        simp only [List.mem_cons, List.not_mem_nil, or_false] at m ⊢
        rcases m with m | m | m | m <;> simp [m])) q) hf hT new
    refine ⟨.ref T, _, I1, rfl, ⟨T, x, y, rfl, I.hok.fresh hT, rfl, fun l hl => by rw [row_inj I hl qx]; exact hx, fun l hl => by rw [row_inj I hl qy]; exact hy⟩, ⟨z', TI', TO', p1', p2'⟩, fun c hcm => ?_⟩
    have hlt : c < s.heap.objs.size := by
      simp only [List.mem_cons, List.not_mem_nil, or_false] at hcm
      rcases hcm with rfl | rfl | rfl | rfl | rfl
      · exact Heap.lt_size hz
      · exact Heap.lt_size hTI
      · obtain ⟨_, _, q⟩ := hTO; exact Heap.lt_size q
      · obtain ⟨_, q, _⟩ := p1.ob; exact Heap.lt_size q
      · obtain ⟨_, q, _⟩ := p2.ob; exact Heap.lt_size q
    rw [upd_ne (Nat.ne_of_lt (Nat.lt_of_lt_of_le hlt hT))]
    exact (hf c hcm).1
  done := by
    intro X hP hw hK hc i pins s σ H E I hf st hg
    subst hP hw hK
    obtain ⟨hz, hTI, hTO, p1, p2⟩ := st
    obtain ⟨xs, ys, qx, qy, rfl⟩ := hg
    obtain ⟨its, rv, ra, la⟩ := row_of I qx
    obtain ⟨its2, rv2, rb, lb⟩ := row_of I qy
    have e1 := rv.length
    have e2 := rv2.length
    have G := GoesN.zip2 (elts := elts) (x1 := kk) (pos := tpos) D (ptr_draws (prog := X.prog) (w := X.w) (A := X.A.in1) k1 (I.ok.hd hc) i1 a na its.toArray) (ptr_draws (prog := X.prog) (w := X.w) (A := X.A.in1) k2 (I.ok.hd hc) i2 b nb its2.toArray)
    have em : min its.toArray.size its2.toArray.size = min xs.length ys.length := by simp [e1, e2]
    rw [em] at G
    refine G.stops s _ E ⟨hz, hTI, hTO, ⟨p1, ra⟩, ⟨p2, rb⟩⟩ fun h' tk kp _ => ?_
    exact I.turnedL (t' := tk) (ch := [z, TI, TO, i1, i2]) (fun c o hb q => kp c o (fun m => hb (by
        simp only [List.mem_cons, List.not_mem_nil, or_false] at m ⊢
        rcases m with m | m | m | m <;> simp [m])) q) hf
  self := fun A i s Q E st h => wpAny_pyIter_zip st.1 h
/-- the five cells of a zip, new at N -/
def ZipNew (h : Heap) (N : Nat) (k1 k2 : Sk) (a b : Addr) : Prop :=
  IsZip h (N + 4) (N + 2) (N + 3) .none ∧ IsTupOf2 h (N + 2) (.ref N) (.ref (N + 1)) ∧ IsTupOf2 h (N + 3) .none .none ∧ h.get? N = some (ptrOb k1 a) ∧ h.get? (N + 1) = some (ptrOb k2 b)
def iZipK (K : PySem.W.Frag) (ta : TA) : TI := fun σ H R => ta σ H fun vs H1 => ∃ k1 k2 a b, vs = [.ref a, .ref b] ∧ (∃ xs, SqK K k1 H1 a xs) ∧ (∃ ys, SqK K k2 H1 b ys) ∧ R (ItzK K k1 k2 a b) H1
section
variable {X : Cx}
theorem zip_apart {N a b : Nat} (la : a < N) (lb : b < N) : ZipSep2 (N + 4) (N + 2) (N + 3) N (N + 1) [N, a] [N + 1, b] :=
  zip_sep2 (fp1 := [a]) (fp2 := [b]) (fun c hc => by rw [List.mem_singleton.mp hc]; exact la) (fun c hc => by rw [List.mem_singleton.mp hc]; exact lb)
theorem pi_zipK {e e2 : Expr} {ta : TA} {p pos tpos : Pos} {elts : List Expr} {kk : Nat} (hm : X.mg "zip" = none) (ha : PA X [e, e2] ta) (hg : Gl X "zip" := by rfl)
    (hs : starEach [e, e2] X.env = (false, eval e X.env) :: starEach [e2] X.env := by rfl) (hpl : (backTo pos (starEach [e2] X.env)).any (·.1) = false := by rfl) :
    PI X (.Tuple elts kk tpos) (.Call (.Name "zip" p) [e, e2] [] pos) (iZipK X.K ta) := by
  refine ⟨fun pins s σ H R I h => ?_⟩
  refine Call_ (ld_blt I hg hm PyProof.Rows.boot_zip (PyProof.Rows.callWith_type1 (thn (ha.run pos pins s σ H _ I h) fun us s1 ⟨vs, H1, I1, r1, q1⟩ => ?_) hs hpl))
  obtain ⟨k1, k2, a, b, ex, ⟨xs, qx⟩, ⟨ys, qy⟩, q⟩ := q1
  subst ex
  obtain ⟨u1, ur, rfl, rr, r2⟩ : ∃ u1 ur, us = u1 :: ur ∧ RelV (.ref a) u1 ∧ Vals [.ref b] ur := by
    cases r1 with
    | cons r rr => exact ⟨_, _, rfl, r, rr⟩
  obtain ⟨u2, rfl, r3⟩ := vals1 r2
  have eu1 : u1 = .ref a := rr
  have eu2 : u2 = .ref b := r3
  subst eu1 eu2
  obtain ⟨its, rv, ra, la⟩ := row_of I1 qx
  obtain ⟨its2, rv2, rb, lb⟩ := row_of I1 qy
  refine zip_begins2 (ptr_begins k1 a its.toArray) (ptr_begins k2 b its2.toArray) ra rb fun h' hz hTI hTO g1 g2 _ kp => wpAny_pyIter_zip hz ?_
  have I2 : Inv X pins σ H1 { s1 with heap := h' } := I1.kept (t' := s1.toks) kp
  refine ⟨s1.heap.objs.size + 4, [s1.heap.objs.size + 4, s1.heap.objs.size + 2, s1.heap.objs.size + 3, s1.heap.objs.size, s1.heap.objs.size + 1], _, _, H1, rfl, I2,
    turn_zipK (k1 := k1) (k2 := k2) (zip_apart la lb) (Nat.ne_of_lt la) (Nat.ne_of_lt (Nat.lt_succ_of_lt lb)), ⟨hz, hTI, ⟨_, _, hTO⟩, ptr_new g1, ptr_new g2⟩, fun c hcm => ?_, q⟩
  have hle : s1.heap.objs.size ≤ c := by
    simp only [List.mem_cons, List.not_mem_nil, or_false] at hcm
    rcases hcm with rfl | rfl | rfl | rfl | rfl
    · exact Nat.le_add_right _ _
    · exact Nat.le_add_right _ _
    · exact Nat.le_add_right _ _
    · exact Nat.le_refl _
    · exact Nat.le_add_right _ _
  exact I1.fpOk hle (I1.hok.fresh hle)
end
end Ev
end
section
set_option Elab.async false
set_option linter.all false
set_option autoImplicit false
set_option maxRecDepth 100000
/-! Ev: enumerate of any row; what the rules of loops take. -/
namespace Ev
open PySem PySem.Spec PyProof.Rows L2
set_option maxHeartbeats 1000000 in
theorem enumNew1 {v : Value} {ob : Obj} {G : Heap → Prop} (B : Begins v ob G) :
    Meets (Builtin.«enumerate.__new__» ⟨[.type "enumerate", v], []⟩) (fun _ R s1 => G s1.heap ∧
      R (.ok (.ret (.ref (s1.heap.push ob).objs.size)))
        { s1 with heap := (s1.heap.push ob).push { cls := .type "enumerate", data := .fields #[.none, .bool false, .ref s1.heap.objs.size, rawInt 0, .none, .none] } }) :=
  .of_wp fun prog w A R s1 hh => by
    obtain ⟨hp, gg, dd, tt, oo⟩ := s1
    obtain ⟨h1, h2⟩ := hh
    have hsub := sub_enumerate
    have go : ∀ {A1 : Around} {E1 : Value → Shared → Prop} {Q1 : Value → Shared → Prop}, Q1 (.ref hp.objs.size) ⟨hp.push ob, gg, dd, tt, oo⟩ → wpAny (model prog w) A1 (pyIter v) Q1 E1 ⟨hp, gg, dd, tt, oo⟩ :=
      fun q => B.iter prog w _ _ ⟨hp, gg, dd, tt, oo⟩ _ h1 q
    wp_walk using go
    refine wpAny_stack_any fun st => wpAny_pure ?_
    split
    · rename_i c _ _ _ _ _
      cases (c == Value.type "enumerate")
      · wp_walk using go
        exact ⟨_, rfl, h2⟩
      · wp_walk using go
        exact ⟨_, rfl, h2⟩
    · wp_walk using go
      exact ⟨_, rfl, h2⟩
section
variable {prog : Program} {w : World} {A : Around} {E : Value → Shared → Prop} {s : Shared}
theorem enum_call1 {v : Value} {ob : Obj} {G : Heap → Prop} {Q : Value → Shared → Prop} (B : Begins v ob G) (h1 : G s.heap)
    (h : ∀ h', IsEnum h' (s.heap.objs.size + 1) s.heap.objs.size 0 .none → h'.get? s.heap.objs.size = some ob →
      (∀ b u, s.heap.get? b = some u → h'.get? b = some u) → Q (.ref (s.heap.objs.size + 1)) { s with heap := h' }) :
    wpAny (model prog w) A (call (.type "enumerate") [v]) Q E s := by
  refine callType_new F.called_enumerate (by decide) (F.typeCall_enumerate_1 _) (F.newCall_enumerate_1 _) (fun obj => F.args_object_init_2 obj _) F.entry_enumerate_new (enumNew1 B) ⟨h1, ?_⟩
  have hz : (s.heap.push ob).objs.size = s.heap.objs.size + 1 := Heap.size_push ..
  have he := Heap.get?_push_size (s.heap.push ob) (o := { cls := .type "enumerate", data := .fields #[.none, .bool false, .ref s.heap.objs.size, rawInt 0, .none, .none] }) rfl
  show _ ∧ _
  rw [hz] at he ⊢
  exact ⟨⟨_, he, rfl⟩, h _ he (Heap.get?_push_of_some _ (Heap.get?_push_size _ B.free)) fun b u x => Heap.get?_push_of_some _ (Heap.get?_push_of_some _ x)⟩
end
/-! ### enumerate of any row -/
def IteK (K : PySem.W.Frag) (k : Sk) (a : Addr) : It :=
  ⟨fun i H => ∃ xs : List V, SqK K k H a xs ∧ i < xs.length, fun i H v H' => ∃ T x, v = .ref T ∧ H T = none ∧ H' = upd H T (.tup [.int (i : Nat), x]) ∧ ∀ xs, SqK K k H a xs → xs[i]? = some x,
    fun i H => ∃ xs : List V, SqK K k H a xs ∧ i = xs.length⟩
theorem turn_enumK {P : Program} {w : World} {K : PySem.W.Frag} {elts : List Expr} {kk : Nat} {tpos : Pos} {k : Sk} {a e it : Addr} (na : a ≠ it) (hei : e ≠ it) (hea : e ≠ a) :
    Turn P w K (.Tuple elts kk tpos) (IteK K k a) [e, it] e (fun i h => (∃ old, IsEnum h e it ((i : Nat) : Int) old) ∧ PtrAt k h it a i) where
  mem := by simp
  obj := fun i h st c hc => by
    obtain ⟨⟨old, he⟩, p1⟩ := st
    simp only [List.mem_cons, or_false, List.not_mem_nil] at hc
    rcases hc with rfl | rfl
    · exact ⟨_, he, fun v q => nomatch q⟩
    · exact p1.ob
  keep := fun i h h' st kp => by
    obtain ⟨⟨old, he⟩, p1⟩ := st
    exact ⟨⟨old, kp e (by simp) _ he⟩, p1.keep fun o z => kp it (by simp) o z⟩
  item := by
    intro X hP hw hK hc i pins s σ H E I hf st hg
    subst hP hw hK
    obtain ⟨⟨old, he⟩, p1⟩ := st
    obtain ⟨xs, qx, lx⟩ := hg
    obtain ⟨its, rv, ra, la⟩ := row_of I qx
    have e1 := rv.length
    have G := GoesN.enumFrom (elts := elts) (x1 := kk) (pos := tpos) 0 (ptr_draws (prog := X.prog) (w := X.w) (A := X.A.in1) k (I.ok.hd hc) it a na its.toArray) e hei (by simp; exact ⟨hei, hea⟩) (by simp)
    refine G.goes i s _ E (by simp; omega) ⟨⟨old, by rw [Int.zero_add]; exact he⟩, p1, ra⟩ fun v h' tk hy st' kp _ => ?_
    obtain ⟨T, t, u1, rfl, hT, hu1, tT⟩ := hy
    obtain ⟨⟨old', he'⟩, p1', _⟩ := st'
    obtain ⟨x, hx⟩ : ∃ x, xs[i]? = some x := ⟨xs[i], by simp [lx]⟩
    obtain ⟨w1, hw1, rw1⟩ := rv.get hx
    rw [List.getElem?_toArray] at hu1
    rw [hw1] at hu1
    cases hu1
    rw [Int.zero_add] at tT he'
    have new : ObjOk X.prog X.w (upd H T (.tup [.int (i : Nat), x])) h' T (.tup [.int (i : Nat), x]) :=
      ⟨show 2 ≤ sizeLine by decide, [.int (i : Nat) t, u1], .cons ⟨_, rfl⟩ (.cons rw1 .nil), tT⟩
    have I1 : Inv X pins σ (upd H T (.tup [.int (i : Nat), x])) { s with heap := h', toks := tk } := I.turnedNew (t' := tk) (ch := [e, it]) (fun c o hb q => kp c o hb q) hf hT new
    refine ⟨.ref T, _, I1, rfl, ⟨T, x, rfl, I.hok.fresh hT, rfl, fun l hl => by rw [row_inj I hl qx]; exact hx⟩, ⟨⟨old', he'⟩, p1'⟩, fun c hcm => ?_⟩
    have hlt : c < s.heap.objs.size := by
      simp only [List.mem_cons, List.not_mem_nil, or_false] at hcm
      rcases hcm with rfl | rfl
      · exact Heap.lt_size he
      · obtain ⟨_, q, _⟩ := p1.ob; exact Heap.lt_size q
    rw [upd_ne (Nat.ne_of_lt (Nat.lt_of_lt_of_le hlt hT))]
    exact (hf c hcm).1
  done := by
    intro X hP hw hK hc i pins s σ H E I hf st hg
    subst hP hw hK
    obtain ⟨⟨old, he⟩, p1⟩ := st
    obtain ⟨xs, qx, rfl⟩ := hg
    obtain ⟨its, rv, ra, la⟩ := row_of I qx
    have e1 := rv.length
    have G := GoesN.enumFrom (elts := elts) (x1 := kk) (pos := tpos) 0 (ptr_draws (prog := X.prog) (w := X.w) (A := X.A.in1) k (I.ok.hd hc) it a na its.toArray) e hei (by simp; exact ⟨hei, hea⟩) (by simp)
    have em : its.toArray.size = xs.length := by simp [e1]
    rw [em] at G
    refine G.stops s _ E ⟨⟨old, by rw [Int.zero_add]; exact he⟩, p1, ra⟩ fun h' tk kp _ => ?_
    exact I.turnedL (t' := tk) (ch := [e, it]) (fun c o hb q => kp c o hb q) hf
  self := fun A i s Q E st h => let ⟨⟨_, he⟩, _⟩ := st; wpAny_pyIter_enum he h
def iEnumK (K : PySem.W.Frag) (ta : TA) : TI := fun σ H R => ta σ H fun vs H1 => ∃ k a, vs = [.ref a] ∧ (∃ xs, SqK K k H1 a xs) ∧ R (IteK K k a) H1
def ItsK (K : PySem.W.Frag) (k : Sk) (a : Addr) : It := match k with
  | .l => Itl K a
  | .t => Itt K a
def iRow (K : PySem.W.Frag) (te : TE) : TI := fun σ H R => te σ H fun v H1 => (∃ k a, v = .ref a ∧ (∃ xs, SqK K k H1 a xs) ∧ R (ItsK K k a) H1) ∨ ∃ x, v = .str x ∧ R (Its x) H1
section
variable {X : Cx}
theorem pi_enumK {e : Expr} {ta : TA} {p pos tpos : Pos} {elts : List Expr} {kk : Nat} (hm : X.mg "enumerate" = none) (ha : PA X [e] ta) (hg : Gl X "enumerate" := by rfl) (hs : starEach [e] X.env = [(false, eval e X.env)] := by rfl) :
    PI X (.Tuple elts kk tpos) (.Call (.Name "enumerate" p) [e] [] pos) (iEnumK X.K ta) := by
  refine ⟨fun pins s σ H R I h => ?_⟩
  refine Call_ (ld_blt I hg hm boot_enumerate (PyProof.Rows.callWith_type1 (thn (ha.run pos pins s σ H _ I h) fun us s1 ⟨vs, H1, I1, r1, q1⟩ => ?_) hs rfl))
  obtain ⟨k, a, ex, ⟨xs, qx⟩, q⟩ := q1
  subst ex
  obtain ⟨u1, rfl, rr⟩ := vals1 r1
  have eu1 : u1 = .ref a := rr
  subst eu1
  obtain ⟨its, rv, ra, la⟩ := row_of I1 qx
  refine enum_call1 (ptr_begins k a its.toArray) ra fun h' he g1 kp => wpAny_pyIter_enum he ?_
  have I2 : Inv X pins σ H1 { s1 with heap := h' } := I1.kept (t' := s1.toks) kp
  refine ⟨s1.heap.objs.size + 1, [s1.heap.objs.size + 1, s1.heap.objs.size], _, _, H1, rfl, I2,
    turn_enumK (k := k) (a := a) (Nat.ne_of_lt la) (Nat.succ_ne_self _) (Nat.ne_of_gt (Nat.lt_succ_of_lt la)), ⟨⟨.none, he⟩, ptr_new g1⟩, fun c hcm => ?_, q⟩
  have hle : s1.heap.objs.size ≤ c := by
    simp only [List.mem_cons, List.not_mem_nil, or_false] at hcm
    rcases hcm with rfl | rfl
    · exact Nat.le_add_right _ _
    · exact Nat.le_refl _
  exact I1.fpOk hle (I1.hok.fresh hle)
theorem pi_row {tg e : Expr} {te : TE} (he : PE X e te) : PI X tg e (iRow X.K te) := by
  refine ⟨fun pins s σ H R I h => ?_⟩
  refine thn (he.run pins s σ H _ I h) fun v s1 ⟨x, H1, I1, r1, q1⟩ => ?_
  have one : ∀ b, b ∈ [s1.heap.objs.size] → FpOk X pins H1 b := fun b hb => by
    rw [List.mem_singleton.mp hb]
    exact I1.fpOk (Nat.le_refl _) (I1.hok.fresh (Nat.le_refl _))
  rcases q1 with ⟨k, a, rfl, ⟨xs, qx⟩, q⟩ | ⟨z, rfl, q⟩
  · have ev : v = .ref a := r1
    subst ev
    obtain ⟨its, rv, ra, la⟩ := row_of I1 qx
    cases k with
    | l => exact wpAny_pyIter_list ra ⟨s1.heap.objs.size, [s1.heap.objs.size], _, _, H1, rfl, I1.kept (t' := s1.toks) fun b o z => Heap.get?_push_of_some _ z, turn_list a _, ⟨_, Heap.get?_push_size _ rfl, rfl, rfl⟩, one, q⟩
    | t => exact wpAny_pyIter_tuple ra ⟨s1.heap.objs.size, [s1.heap.objs.size], _, _, H1, rfl, I1.kept (t' := s1.toks) fun b o z => Heap.get?_push_of_some _ z, turn_tuple a _, ⟨_, Heap.get?_push_size _ rfl, rfl, rfl⟩, one, q⟩
  · obtain ⟨t, rfl⟩ := r1
    cases ha : z.cps.all (· < 128) with
    | false => exact wpAny_pyIter_wide ha (pi_one (tk := s1.toks) I1 _ (turn_str _ z t "str_iterator" (.inr rfl)) ⟨_, Heap.get?_push_size _ rfl, rfl, rfl⟩ q)
    | true => exact wpAny_pyIter_ascii ha (pi_one (tk := s1.toks) I1 _ (turn_str _ z t "str_ascii_iterator" (.inl rfl)) ⟨_, Heap.get?_push_size _ rfl, rfl, rfl⟩ q)
end
/-! ### as words of this layer -/
def sqD : Dt → Option (List Dt)
  | .list ds => some ds
  | .tuple ds => some ds
  | _ => none
theorem rep_row {K : PySem.W.Frag} {O : Addr → Prop} {H : Hp} {v : V} {d : Dt} {ds : List Dt} (h : Rep K O H v d) (e : sqD d = some ds) :
    ∃ k a vs, v = .ref a ∧ vs.length ≤ sizeLine ∧ Reps K O H vs ds ∧ ∀ O' H', Ext O H O' H' → SqK K k H' a vs := by
  cases h with
  | lst h z rp =>
    cases e
    rename_i a xs
    refine ⟨.l, a, xs, rfl, z, rp, fun O' H' x => ?_⟩
    obtain ⟨n, q⟩ := hid_some.mp h
    exact .of (x _ _ q n).1
  | tup h z rp =>
    cases e
    rename_i a xs
    refine ⟨.t, a, xs, rfl, z, rp, fun O' H' x => ?_⟩
    exact sqT_hid (seqT x.hid h)
  | _ => cases e
theorem strOk_sign {x : Str} {i c : Nat} (h : PyData.strOk x = true) (hc : x.cps[i]? = some c) : PyData.strOk ⟨#[c]⟩ = true := by
  have h1 : c < 1114112 := by
    obtain ⟨hi, e⟩ := Array.getElem?_eq_some_iff.mp hc
    have := (Array.all_eq_true.mp h) i hi
    rw [e] at this
    exact of_decide_eq_true this
  show (#[c].all fun x => decide (x < 1114112)) = true
  simp [h1]
def signsD (x : Str) : List Dt := x.cps.toList.map fun c => .str ⟨#[c]⟩
def rowD : Dt → Option (List Dt)
  | .list ds => some ds
  | .tuple ds => some ds
  | .str x => some (signsD x)
  | _ => none
section
variable {K : PySem.W.Frag} {O : Addr → Prop} {H : Hp}
theorem wk_row {k : Sk} {a : Addr} {vs : List V} {ds : List Dt} (z : vs.length ≤ sizeLine) (rp : Reps K O H vs ds) (hq : ∀ O' H', Ext O H O' H' → SqK K k H' a vs) : Wk K (ItsK K k a) ds O H := by
  have el := rp.length
  refine ⟨fun H' => SqK K k H' a vs, fun i H1 x H2 => H2 = H1 ∧ vs[i]? = some x, ?_, by omega, hq, fun i O' H' x H'' hi ex _ y => ?_⟩
  · rw [← el]
    cases k with
    | l => exact walk_list
    | t => exact walk_tup
  · obtain ⟨rfl, ex2⟩ := y
    obtain ⟨d, hd⟩ : ∃ d, ds[i]? = some d := ⟨ds[i], by simp [hi]⟩
    obtain ⟨v, hv, rv⟩ := rp.get hd
    rw [hv] at ex2
    cases ex2
    exact ⟨d, hd, fun _ _ h => h, ex.rep rv⟩
theorem wk_zip {k1 k2 : Sk} {a b : Addr} {vs ws : List V} {ds es : List Dt} (z : vs.length ≤ sizeLine) (rp : Reps K O H vs ds) (rp2 : Reps K O H ws es) (hq : ∀ O' H', Ext O H O' H' → SqK K k1 H' a vs) (hq2 : ∀ O' H', Ext O H O' H' → SqK K k2 H' b ws) :
    Wk K (ItzK K k1 k2 a b) (List.zipWith (fun x y => .tuple [x, y]) ds es) O H := by
  have el := rp.length
  have el2 := rp2.length
  have eln : (List.zipWith (fun x y => PyData.tuple [x, y]) ds es).length = min vs.length ws.length := by rw [List.length_zipWith, el, el2]
  refine ⟨fun H' => SqK K k1 H' a vs ∧ SqK K k2 H' b ws, fun i H1 v H2 => ∃ T x y, v = .ref T ∧ H1 T = none ∧ H2 = upd H1 T (.tup [x, y]) ∧ vs[i]? = some x ∧ ws[i]? = some y, ?_, by rw [eln]; omega, fun O' H' x => ⟨hq O' H' x, hq2 O' H' x⟩, fun i O' H' x H'' hi ex dm y => ?_⟩
  · rw [eln]
    refine ⟨fun i H' hi q => ⟨vs, ws, q.1, q.2, by omega, by omega⟩, fun H' q => ⟨vs, ws, q.1, q.2, rfl⟩, fun i H' x H'' hi q y => ?_⟩
    obtain ⟨T, x1, y1, e1, e2, e3, e4, e5⟩ := y
    exact ⟨T, x1, y1, e1, e2, e3, e4 vs q.1, e5 ws q.2⟩
  · obtain ⟨T, x1, y1, rfl, hT, rfl, hx, hy⟩ := y
    rw [eln] at hi
    obtain ⟨d, hd⟩ : ∃ d, ds[i]? = some d := ⟨ds[i]'(by omega), by simp [show i < ds.length by omega]⟩
    obtain ⟨e, he⟩ : ∃ e, es[i]? = some e := ⟨es[i]'(by omega), by simp [show i < es.length by omega]⟩
    obtain ⟨v, hv, rv⟩ := rp.get hd
    obtain ⟨w, hw, rw'⟩ := rp2.get he
    rw [hv] at hx
    rw [hw] at hy
    cases hx
    cases hy
    refine ⟨.tuple [d, e], ?_, same_upd hT, rep_newT (fun o => dm T o hT) hT (show 2 ≤ sizeLine by decide) (.cons (ex.rep rv) (.cons (ex.rep rw') .nil))⟩
    rw [List.getElem?_zipWith, hd, he]
theorem wk_enum {k : Sk} {a : Addr} {vs : List V} {ds : List Dt} (z : vs.length ≤ sizeLine) (rp : Reps K O H vs ds) (hq : ∀ O' H', Ext O H O' H' → SqK K k H' a vs) : Wk K (IteK K k a) (ds.zipIdx.map fun p => .tuple [.int (p.2 : Nat), p.1]) O H := by
  have el := rp.length
  have eln : (ds.zipIdx.map fun p => PyData.tuple [.int (p.2 : Nat), p.1]).length = vs.length := by rw [List.length_map, List.length_zipIdx, el]
  refine ⟨fun H' => SqK K k H' a vs, fun i H1 v H2 => ∃ T x, v = .ref T ∧ H1 T = none ∧ H2 = upd H1 T (.tup [.int (i : Nat), x]) ∧ vs[i]? = some x, ?_, by rw [eln]; exact z, hq, fun i O' H' x H'' hi ex dm y => ?_⟩
  · rw [eln]
    refine ⟨fun i H' hi q => ⟨vs, q, hi⟩, fun H' q => ⟨vs, q, rfl⟩, fun i H' x H'' hi q y => ?_⟩
    obtain ⟨T, x1, e1, e2, e3, e4⟩ := y
    exact ⟨T, x1, e1, e2, e3, e4 vs q⟩
  · obtain ⟨T, x1, rfl, hT, rfl, hx⟩ := y
    rw [eln] at hi
    obtain ⟨d, hd⟩ : ∃ d, ds[i]? = some d := ⟨ds[i]'(by omega), by simp [show i < ds.length by omega]⟩
    obtain ⟨v, hv, rv⟩ := rp.get hd
    rw [hv] at hx
    cases hx
    refine ⟨.tuple [.int (i : Nat), d], ?_, same_upd hT, rep_newT (fun o => dm T o hT) hT (show 2 ≤ sizeLine by decide) (.cons (.int _) (.cons (ex.rep rv) .nil))⟩
    rw [List.getElem?_map, List.getElem?_zipIdx, hd]
    simp
end
def mRow (f : M Dt) : M (List Dt) := fun r j => (f r j).bind fun p => (rowD p.1).map fun ds => (ds, p.2)
def mZip (a : M (List Dt)) : M (List Dt) := fun r j => (a r j).bind fun p => match p.1 with
  | [x, y] => (sqD x).bind fun ds => (sqD y).map fun es => (List.zipWith (fun x y => .tuple [x, y]) ds es, p.2)
  | _ => none
def mEnum (a : M (List Dt)) : M (List Dt) := fun r j => (a r j).bind fun p => match p.1 with
  | [x] => (sqD x).map fun ds => (ds.zipIdx.map fun p => .tuple [.int (p.2 : Nat), p.1], p.2)
  | _ => none
section
variable {X : Cx} {C : Cn} {tg e e2 : Expr} {f : M Dt} {fs : M (List Dt)} {pos p tpos : Pos} {elts : List Expr} {kk : Nat}
theorem ei_row (h : EV X C e f) : EI X C tg e (mRow f) := ⟨pi_weak (pi_row h.pe) fun σ H R h => by
  obtain ⟨O, r, j, ds, j', R1, h, q⟩ := h
  obtain ⟨⟨d, j1⟩, e1, h⟩ := bind_some h
  obtain ⟨ds', e2, h⟩ := map_some h
  cases h
  refine ⟨O, r, j, d, _, R1, e1, fun v H' k1 q1 rv => ?_⟩
  cases rv with
  | str x hx hz =>
    cases e2
    refine .inr ⟨x, rfl, q _ H' k1 q1 ?_⟩
    have eln : (signsD x).length = x.cps.size := by simp [signsD]
    refine ⟨fun _ => True, fun i H v H' => H' = H ∧ ∃ c, x.cps[i]? = some c ∧ v = .str ⟨#[c]⟩, by rw [eln]; exact walk_str, by rw [eln]; exact hz, fun _ _ _ => trivial, fun i O' H1 x1 H2 hi ex dm y => ?_⟩
    obtain ⟨rfl, c, hc, rfl⟩ := y
    refine ⟨.str ⟨#[c]⟩, by simp [signsD, hc], fun _ _ h => h, .str _ ?_ ?_⟩
    · exact strOk_sign hx hc
    · show 1 ≤ sizeLine
      decide
  | lst h1 h2 h3 =>
    cases e2
    obtain ⟨k, a, vs, ev, z, rp, hq⟩ := rep_row (K := X.K) (Rp.lst h1 h2 h3) rfl
    exact .inl ⟨k, a, ev, ⟨vs, hq O H' .refl⟩, q _ H' k1 q1 (wk_row z rp hq)⟩
  | tup h1 h2 h3 =>
    cases e2
    obtain ⟨k, a, vs, ev, z, rp, hq⟩ := rep_row (K := X.K) (Rp.tup h1 h2 h3) rfl
    exact .inl ⟨k, a, ev, ⟨vs, hq O H' .refl⟩, q _ H' k1 q1 (wk_row z rp hq)⟩
  | _ => cases e2⟩
theorem ei_zip (hm : X.mg "zip" = none) (ha : EA X C [e, e2] fs) (hg : Gl X "zip" := by rfl) (hs : starEach [e, e2] X.env = (false, eval e X.env) :: starEach [e2] X.env := by rfl) (hpl : (backTo pos (starEach [e2] X.env)).any (·.1) = false := by rfl) :
    EI X C (.Tuple elts kk tpos) (.Call (.Name "zip" p) [e, e2] [] pos) (mZip fs) := ⟨pi_weak (pi_zipK hm ha.pa hg hs hpl) fun σ H R h => by
  obtain ⟨O, r, j, ds, j', R1, h, q⟩ := h
  obtain ⟨⟨as, j1⟩, e1, h⟩ := bind_some h
  refine ⟨O, r, j, as, j1, R1, e1, fun us H' k1 q1 rvs => ?_⟩
  dsimp only at h
  split at h
  · obtain ⟨xs, ex, h⟩ := bind_some h
    obtain ⟨ys, ey, h⟩ := map_some h
    cases h
    cases rvs with
    | cons rv t =>
      cases t with
      | cons rv2 t2 =>
        cases t2
        obtain ⟨k1', a, vs, rfl, z, rp, hq⟩ := rep_row rv ex
        obtain ⟨k2', b, ws, rfl, z2, rp2, hq2⟩ := rep_row rv2 ey
        exact ⟨k1', k2', a, b, rfl, ⟨vs, hq O H' .refl⟩, ⟨ws, hq2 O H' .refl⟩, q _ H' k1 q1 (wk_zip z rp rp2 hq hq2)⟩
  · cases h⟩
theorem ei_enum (hm : X.mg "enumerate" = none) (ha : EA X C [e] fs) (hg : Gl X "enumerate" := by rfl) (hs : starEach [e] X.env = [(false, eval e X.env)] := by rfl) :
    EI X C (.Tuple elts kk tpos) (.Call (.Name "enumerate" p) [e] [] pos) (mEnum fs) := ⟨pi_weak (pi_enumK hm ha.pa hg hs) fun σ H R h => by
  obtain ⟨O, r, j, ds, j', R1, h, q⟩ := h
  obtain ⟨⟨as, j1⟩, e1, h⟩ := bind_some h
  refine ⟨O, r, j, as, j1, R1, e1, fun us H' k1 q1 rvs => ?_⟩
  dsimp only at h
  split at h
  · obtain ⟨xs, ex, h⟩ := map_some h
    cases h
    cases rvs with
    | cons rv t =>
      cases t
      obtain ⟨k1', a, vs, rfl, z, rp, hq⟩ := rep_row rv ex
      exact ⟨k1', a, rfl, ⟨vs, hq O H' .refl⟩, q _ H' k1 q1 (wk_enum z rp hq)⟩
  · cases h⟩
/-! ### range -/
def rangeL (lo n : Int) : List Dt := (List.range (n - lo).toNat).map fun i => .int (lo + (i : Nat))
def mRng1 (a : M (List Dt)) : M (List Dt) := fun r j => (a r j).bind fun p => match p.1 with
  | [.int n] => if -100000 ≤ n ∧ n ≤ 100000 then some (rangeL 0 n, p.2) else none
  | _ => none
def mRng2 (a : M (List Dt)) : M (List Dt) := fun r j => (a r j).bind fun p => match p.1 with
  | [.int m, .int n] => if -100000 ≤ m ∧ n ≤ 100000 ∧ m ≤ 200000 ∧ -100000 ≤ n then some (rangeL m n, p.2) else none
  | _ => none
theorem wk_range {K : PySem.W.Frag} {O : Addr → Prop} {H : Hp} {lo hi : Int} (hz : (hi - lo).toNat ≤ sizeLine) : Wk K (Itr lo (hi - lo).toNat) (rangeL lo hi) O H := by
  have eln : (rangeL lo hi).length = (hi - lo).toNat := by simp [rangeL]
  refine ⟨fun _ => True, _, by rw [eln]; exact walk_range, by rw [eln]; exact hz, fun _ _ _ => trivial, fun i O' H1 x1 H2 hi ex dm y => ?_⟩
  obtain ⟨rfl, rfl⟩ := y
  rw [eln] at hi
  refine ⟨.int (lo + (i : Nat)), ?_, fun _ _ h => h, .int _⟩
  simp [rangeL, hi]
theorem ei_rng1 {a : Expr} (hm : X.mg "range" = none) (ha : EA X C [a] fs) (hg : Gl X "range" := by rfl) (hs : starEach [a] X.env = [(false, eval a X.env)] := by rfl) : EI X C tg (.Call (.Name "range" p) [a] [] pos) (mRng1 fs) :=
  ⟨pi_weak (pi_range1 hg hm ha.pa hs) fun σ H R h => by
    obtain ⟨O, r, j, ds, j', R1, h, q⟩ := h
    obtain ⟨⟨as, j1⟩, e1, h⟩ := bind_some h
    refine ⟨O, r, j, as, j1, R1, e1, fun us H' k1 q1 rvs => ?_⟩
    dsimp only at h
    split at h
    · split at h
      · rename_i n hn
        cases h
        cases rvs with
        | cons rv t =>
          cases t
          cases rv
          refine ⟨n, rfl, by omega, by omega, ?_⟩
          have hw := wk_range (K := X.K) (O := O) (H := H') (lo := 0) (hi := n) (by rw [sizeLine_eq]; omega)
          rw [Int.sub_zero] at hw
          exact q _ H' k1 q1 hw
      · cases h
    · cases h⟩
theorem ei_rng2 {a b : Expr} (hm : X.mg "range" = none) (ha : EA X C [a, b] fs) (hg : Gl X "range" := by rfl) (hs : starEach [a, b] X.env = [(false, eval a X.env), (false, eval b X.env)] := by rfl) (hs2 : starEach [b] X.env = [(false, eval b X.env)] := by rfl) :
    EI X C tg (.Call (.Name "range" p) [a, b] [] pos) (mRng2 fs) := ⟨pi_weak (pi_range2 hg hm ha.pa hs hs2) fun σ H R h => by
    obtain ⟨O, r, j, ds, j', R1, h, q⟩ := h
    obtain ⟨⟨as, j1⟩, e1, h⟩ := bind_some h
    refine ⟨O, r, j, as, j1, R1, e1, fun us H' k1 q1 rvs => ?_⟩
    dsimp only at h
    split at h
    · split at h
      · rename_i m n hn
        cases h
        cases rvs with
        | cons rv t =>
          cases t with
          | cons rv2 t =>
            cases t
            cases rv
            cases rv2
            refine ⟨m, n, rfl, ⟨by omega, by omega, by omega, by omega⟩, ?_⟩
            exact q _ H' k1 q1 (wk_range (K := X.K) (O := O) (H := H') (by rw [sizeLine_eq]; omega))
      · cases h
    · cases h⟩
end
end Ev
end
section
set_option Elab.async false
set_option linter.all false
set_option autoImplicit false
set_option maxRecDepth 100000
/-! Ev: calls of defs, and what a def's body promises. -/
namespace Ev
open PySem PySem.Spec PyProof.Rows L2
/-! ### promises -/
def spF (K : PySem.W.Frag) (n : Nat) (F : List Dt → Option Dt) : Sp := fun vs H Q _ => ∃ O ds d, (∀ a, O a → H a ≠ none) ∧ Reps K O H vs ds ∧ ds.length = n ∧ F ds = some d ∧ ∀ v H', Same H H' → Rep K O H' v d → Q v H'
/-- .. whose first argument is the jar -/
def spJ (K : PySem.W.Frag) (n : Nat) (F : List Dt → Jr → Option (Dt × Jr)) : Sp := fun vs H Q _ => ∃ O p ws ds j d j', vs = .ref p :: ws ∧ (∀ a, O a → H a ≠ none) ∧ O p ∧ H p = some (jarV j) ∧ Reps K O H ws ds ∧ ds.length + 1 = n ∧ F ds j = some (d, j') ∧
  ∀ v H', (∀ a o, H a = some o → a ≠ p → H' a = some o) → H' p = some (jarV j') → Rep K O H' v d → Q v H'
/-- .. that makes a jar of the script and a number -/
def spW (K : PySem.W.Frag) (G : List Int → Int → Option Jr) : Sp := fun vs H Q _ => ∃ a ns t js, vs = [.ref a, .int t] ∧ SqL K H a (ns.map V.int) ∧ ns.length ≤ sizeLine ∧ G ns t = some js ∧ ∀ p H', H p = none → Same H H' → H' p = some (jarV js) → Q (.ref p) H'
structure HasP (P : Program) (w : World) (K : PySem.W.Frag) (mg : Str → Option Value) (base : Heap) (k : Nat) (x : Str) (n : Nat) (sp : Sp) : Prop where
  ex : ∃ f fd ps, mg x = some (.ref f) ∧ PySem.W.keepIn K (.ref f) = true ∧ Binds K fd ps [] ∧ ps.length = n ∧ FnOk P w K mg base CX0 k f fd ps sp
section
variable {X : Cx} {C : Cn} {e : Expr} {es : List Expr} {fs : M (List Dt)} {f2 : M Dt} {x y : Str} {k k2 n : Nat} {F : List Dt → Option Dt} {G : List Dt → Jr → Option (Dt × Jr)} {p pos : Pos}
def mCall (F : List Dt → Option Dt) (fs : M (List Dt)) : M Dt := fun r j => (fs r j).bind fun p => (F p.1).map fun d => (d, p.2)
theorem ev_call (h : HasP X.prog X.w X.K X.mg X.base k x n (spF X.K n F)) (hr : Room k X.A) (ha : EA X C (e :: es) fs) (hn : (e :: es).length = n := by rfl) (hg : Gl X x := by rfl) (hdb : (x == ("__debug__" : Str)) = false := by decide)
    (he : starEach (e :: es) X.env = (false, eval e X.env) :: starEach es X.env := by rfl) (hpl : (backTo pos (starEach es X.env)).any (·.1) = false := by rfl) (hl : ∀ r j z, fs r j = some z → z.1.length = n) :
    EV X C (.Call (.Name x p) (e :: es) [] pos) (mCall F fs) := by
  obtain ⟨f, fd, ps, hm, hk, hb, hps, Fn⟩ := h.ex
  refine ⟨pe_weak (pe_call (dvs := []) (ds := []) (E := L2.E0) Fn hr hg hm hk hb .nil pass0 ha.pa hdb he hpl) fun σ H Q h => ?_⟩
  obtain ⟨O, r, j, d, j', R, h, q⟩ := h
  obtain ⟨⟨ds, j1⟩, e1, h⟩ := bind_some h
  obtain ⟨d', e2, h⟩ := map_some h
  cases h
  refine ⟨O, r, j, ds, _, R, e1, fun vs H1 k1 q1 rvs => ?_⟩
  have R1 := R.keep k1 q1
  refine ⟨O, ds, d, R1.dom, ?_, hl _ _ _ e1, e2, fun v H2 s2 rv => q v H2 (k1.trans (.of s2)) (q1.same s2) rv⟩
  rw [List.append_nil]
  exact rvs
def mCallJ (i : Nat) (G : List Dt → Jr → Option (Dt × Jr)) (fs : M (List Dt)) : M Dt := fun r j => match r[i]? with
  | some (some .jar) => (fs r j).bind fun p => G p.1 p.2
  | _ => none
theorem ev_callJ (i : Nat) {p1 : Pos} (h : HasP X.prog X.w X.K X.mg X.base k x n (spJ X.K n G)) (hr : Room k X.A) (ha : EA X C es fs) (hl : ∀ r j z, fs r j = some z → z.1.length + 1 = n)
    (hN : X.N[i]? = some y := by rfl) (hv : Vis X.env.scope y := by first | exact Or.inl rfl | exact Or.inr (Or.inl rfl) | exact Or.inr (Or.inr rfl)) (hd : (y == ("__debug__" : Str)) = false := by decide)
    (hcd : (y == ("__classdict__" : Str)) = false := by decide) (hg : Gl X x := by rfl) (hdb : (x == ("__debug__" : Str)) = false := by decide)
    (he : starEach (.Name y p1 :: es) X.env = (false, eval (.Name y p1) X.env) :: starEach es X.env := by rfl) (hpl : (backTo pos (starEach es X.env)).any (·.1) = false := by rfl) :
    EV X C (.Call (.Name x p) (.Name y p1 :: es) [] pos) (mCallJ i G fs) := by
  obtain ⟨f, fd, ps, hm, hk, hb, hps, Fn⟩ := h.ex
  refine ⟨pe_weak (pe_call (dvs := []) (ds := []) (E := L2.E0) Fn hr hg hm hk hb .nil pass0 (pa_cons (pe_var hN hv hd hcd) ha.pa he) hdb he hpl) fun σ H Q h => ?_⟩
  obtain ⟨O, r, j, d, j', R, h, q⟩ := h
  unfold mCallJ at h
  split at h
  · rename_i es1
    obtain ⟨⟨ds, j1⟩, e1, h⟩ := bind_some h
    obtain ⟨p, hp, ev⟩ := R.sl i _ es1
    refine ⟨.ref p, ev, O, r, j, ds, j1, R, e1, fun vs H1 k1 q1 rvs => ?_⟩
    have R1 := R.keep k1 q1
    have op := R1.sub p (R1.jar p hp).1
    show spJ X.K n G (.ref p :: vs ++ []) H1 Q L2.E0
    rw [List.append_nil]
    refine ⟨O, p, vs, ds, j1, d, j', rfl, R1.dom, op, q1 p hp, rvs, hl _ _ _ e1, h, fun v H2 k2 q2 rv => ?_⟩
    exact q v H2 (k1.trans fun a o ha na => k2 a o ha fun e => na (e ▸ hp)) (fun p' hp' => by rw [hp] at hp'; cases hp'; exact q2) rv
  · cases h
def mScr (i : Nat) : M Dt := fun r j => match r[i]? with
  | some (some (.scr ns)) => some (.list (ns.map .int), j)
  | _ => none
theorem reps_ints {K : PySem.W.Frag} {H : Hp} : ∀ ns : List Int, RpA K H (ns.map V.int) (ns.map PyData.int)
  | [] => .nil
  | _ :: ns => .cons (.int _) (reps_ints ns)
theorem el_scr (i : Nat) {x : Str} (hN : X.N[i]? = some x := by rfl) (hv : Vis X.env.scope x := by first | exact Or.inl rfl | exact Or.inr (Or.inl rfl) | exact Or.inr (Or.inr rfl)) (hd : (x == ("__debug__" : Str)) = false := by decide)
    (hcd : (x == ("__classdict__" : Str)) = false := by decide) : EL X C (.Name x pos) (mScr i) := ⟨pe_weak (pe_var hN hv hd hcd) fun σ H Q h => by
  obtain ⟨O, r, j, d, j', R, h, q⟩ := h
  unfold mScr at h
  split at h
  · rename_i ns es1
    cases h
    obtain ⟨a, ev, sq, na, z⟩ := R.sl i _ es1
    exact ⟨.ref a, ev, q _ H .refl R.jarIs (.inr ⟨a, _, _, rfl, rfl, keepL (fun b o h n => R.grow b o h n) na sq, na, by rw [List.length_map]; exact z, reps_ints ns⟩)⟩
  · cases h⟩
/-- f(g(script, e)): g makes the jar, f takes it -/
def mWell (i : Nat) (W : List Int → Int → Option Jr) (G : List Dt → Jr → Option (Dt × Jr)) (f2 : M Dt) : M Dt := fun r j => match r[i]? with
  | some (some (.scr ns)) => (f2 r j).bind fun p => match p.1 with
    | .int t => (W ns t).bind fun js => (G [] js).map fun z => (z.1, p.2)
    | _ => none
  | _ => none
theorem ev_well (i : Nat) {W : List Int → Int → Option Jr} {z : Str} {p1 p2 p3 : Pos} (h : HasP X.prog X.w X.K X.mg X.base k x 1 (spJ X.K 1 G)) (h2 : HasP X.prog X.w X.K X.mg X.base k2 y 2 (spW X.K W)) (hr : Room k X.A) (hr2 : Room k2 X.A) (ha : EV X C e f2)
    (hN : X.N[i]? = some z := by rfl) (hv : Vis X.env.scope z := by first | exact Or.inl rfl | exact Or.inr (Or.inl rfl) | exact Or.inr (Or.inr rfl)) (hd : (z == ("__debug__" : Str)) = false := by decide)
    (hcd : (z == ("__classdict__" : Str)) = false := by decide) (hg : Gl X x := by rfl) (hdb : (x == ("__debug__" : Str)) = false := by decide) (hg2 : Gl X y := by rfl) (hdb2 : (y == ("__debug__" : Str)) = false := by decide)
    (he : starEach [.Name z p1, e] X.env = (false, eval (.Name z p1) X.env) :: starEach [e] X.env := by rfl) (he0 : starEach [e] X.env = (false, eval e X.env) :: starEach [] X.env := by rfl) (hpl : (backTo p2 (starEach [e] X.env)).any (·.1) = false := by rfl)
    (he2 : starEach [.Call (.Name y p3) [.Name z p1, e] [] p2] X.env = (false, eval (.Call (.Name y p3) [.Name z p1, e] [] p2) X.env) :: starEach [] X.env := by rfl) (hpl2 : (backTo pos (starEach [] X.env)).any (·.1) = false := by rfl) :
    EV X C (.Call (.Name x p) [.Call (.Name y p3) [.Name z p1, e] [] p2] [] pos) (mWell i W G f2) := by
  obtain ⟨f, fd, ps, hm, hk, hb, hps, Fn⟩ := h.ex
  obtain ⟨f', fd', ps', hm', hk', hb', hps', Fn'⟩ := h2.ex
  refine ⟨pe_weak (pe_call (dvs := []) (ds := []) (E := L2.E0) Fn hr hg hm hk hb .nil pass0 (pa_cons (pe_call (dvs := []) (ds := []) (E := L2.E0) Fn' hr2 hg2 hm' hk' hb' .nil pass0 (pa_cons (pe_var hN hv hd hcd) (pa_cons ha.pe pa_nil he0) he) hdb2 he hpl) pa_nil he2) hdb he2 hpl2) fun σ H Q h => ?_⟩
  obtain ⟨O, r, j, d, j', R, h, q⟩ := h
  unfold mWell at h
  split at h
  · rename_i ns es1
    obtain ⟨⟨d1, j1⟩, e1, h⟩ := bind_some h
    dsimp only at h
    split at h
    · rename_i t
      obtain ⟨js, e2, h⟩ := bind_some h
      obtain ⟨⟨d3, j3⟩, e3, h⟩ := map_some h
      cases h
      obtain ⟨a, ev, sq, na, hz⟩ := R.sl i _ es1
      refine ⟨.ref a, ev, O, r, j, _, _, R, e1, fun v H1 k1 q1 rv => ?_⟩
      have R1 := R.keep k1 q1
      cases rv
      refine ⟨a, ns, t, js, rfl, keepL (fun b o h n => R1.grow b o h n) na sq, hz, e2, fun p H2 hp s2 e4 => ?_⟩
      obtain ⟨R2, x2⟩ := R1.ownK (.of s2) (q1.same s2) hp e4
      refine ⟨ownP O p, p, [], [], js, _, j3, rfl, R2.dom, .inr rfl, e4, .nil, rfl, e3, fun v H3 k3 q3 rv => ?_⟩
      refine q v H3 (k1.trans fun b o hb nb => k3 b o (s2 b o hb) (ne_of_none hb hp)) (fun p' hp' => ?_) (rv.mono (hid_anti fun a h => .inl h))
      have hj := q1 p' hp'
      exact k3 p' _ (s2 p' _ hj) (ne_of_none hj hp)
    · cases h
  · cases h
end
/-! ### a def's body keeps its promise -/
def r0 (m : Nat) (ds : List Dt) : Rg := ds.map (fun d => some (.d d)) ++ List.replicate (m - ds.length) none
def outD : Option (Out × Rg × Jr) → Option (Dt × Jr)
  | some (.rt d, _, j) => some (d, j)
  | some (.nx, _, j) => some (.none, j)
  | _ => none
def runF (g : Sm) (m : Nat) (ds : List Dt) : Option Dt := (outD (g (r0 m ds) [])).map (·.1)
def runJ (g : Sm) (m : Nat) (ds : List Dt) (j : Jr) : Option (Dt × Jr) := outD (g (some .jar :: r0 (m - 1) ds) j)
theorem get_app {α : Type} {xs : List α} {n : Nat} {c x : α} {i : Nat} (h : (xs ++ List.replicate n c)[i]? = some x) : xs[i]? = some x ∨ (xs.length ≤ i ∧ x = c) := by
  by_cases hi : i < xs.length
  · rw [List.getElem?_append_left hi] at h
    exact .inl h
  · rw [List.getElem?_append_right (by omega)] at h
    obtain ⟨_, e⟩ := List.getElem?_eq_some_iff.mp h
    rw [List.getElem_replicate] at e
    exact .inr ⟨by omega, e.symm⟩
section
variable {P : Program} {w : World} {K : PySem.W.Frag} {mg : Str → Option Value} {base : Heap} {x qual : Str} {params : Arguments} {body : List Stmt} {scope : Scope} {dvs : List V} {kws : List (Str × V)} {f : Addr} {fd : FuncData} {N ps : List Str} {k : Nat} {g : Sm}
/-- the body of a def as words of this layer -/
abbrev Bd (P : Program) (w : World) (K : PySem.W.Frag) (mg : Str → Option Value) (base : Heap) (N : List Str) (qual : Str) (scope : Scope) (k : Nat) (f : Addr) (body : List Stmt) (g : Sm) : Prop :=
  ∀ (cdv : Value) (A : Around) (outer : List Env) (s : Shared) (H : Hp) (E : XK) (C : Cn), Room k (A.deeper (envOfC qual scope s.heap.objs.size f cdv)) →
    ESs (cxOf CX0 P w K mg base N qual scope f cdv A outer s H E).nox C body g
theorem start_d {O : Addr → Prop} {H : Hp} {vs : List V} {ds : List Dt} (rp : Reps K O H vs ds) {i : Nat} {s : Sl} (h : (r0 N.length ds)[i]? = some (some s)) : ∃ d v, s = .d d ∧ (start N vs)[i]? = some (some v) ∧ Rep K O H v d := by
  rcases get_app h with h | ⟨_, e⟩
  · rw [List.getElem?_map] at h
    obtain ⟨d, hd, e⟩ := Option.map_eq_some_iff.mp h
    obtain ⟨v, hv, rv⟩ := rp.get hd
    refine ⟨d, v, (Option.some.inj e).symm, ?_, rv⟩
    unfold L2.start
    have hi : i < vs.length := (List.getElem?_eq_some_iff.mp hv).1
    rw [List.getElem?_append_left (by simpa using hi), List.getElem?_map, hv]
    rfl
  · cases e
theorem fn_ok (Fd : FunD K x qual params body scope dvs kws f fd) (S : FnScope N ps scope) (hb : Bd P w K mg base N qual scope k f body g) : FnOk P w K mg base CX0 (k + 1) f fd ps (spF K ps.length (runF g N.length)) := by
  refine Fd.ok S (fun vs H Q E h => ?_) (fun cdv A outer s H vs Q E hr h => ?_)
  · obtain ⟨O, ds, d, _, rp, hl, _⟩ := h
    rw [rp.length, hl]
  · obtain ⟨O, ds, d, dm, rp, hl, ef, q⟩ := h
    refine ⟨tES K ⟨none, O, H⟩ g, (hb cdv A outer s H E ⟨none, O, H⟩ hr).ps.nox, ?_⟩
    unfold runF at ef
    obtain ⟨⟨d', j2⟩, eo, rfl⟩ := map_some ef
    have R : Rel K ⟨none, O, H⟩ O (start N vs) H (r0 N.length ds) [] := by
      refine ⟨fun _ h => h, dm, fun _ _ h _ => h, fun p e => (by cases e), fun i s h => ?_, fun i l p xs ys h1 => ?_, ?_⟩
      · obtain ⟨d, v, rfl, ev, rv⟩ := start_d rp h
        exact ⟨v, ev, rv⟩
      · obtain ⟨d, v, e, _⟩ := start_d rp h1
        cases e
      · unfold L2.start r0
        simp [rp.length]
    refine tES_iff.mpr ?_
    have fin : ∀ {O' : Addr → Prop} {σ' : L2.St} {H' : Hp} {v : V} {r' : Rg} {j' : Jr}, Rel K ⟨none, O, H⟩ O' σ' H' r' j' → Rep K O' H' v d' → Q v H' := fun {O' σ' H' v r' j'} R' rv =>
      q v H' (fun a o h => R'.grow a o h (fun e => by cases e)) (rv.mono (hid_anti fun a h => R'.sub a h))
    match eg : g (r0 N.length ds) [], eo with
    | some (.rt d0, r', j'), eo =>
      cases eo
      exact ⟨O, _, [], _, r', _, R, eg, fun O' σ' H' v R' _ rv => fin R' rv⟩
    | some (.nx, r', j'), eo =>
      cases eo
      exact ⟨O, _, [], _, r', _, R, eg, fun O' σ' H' R' _ => fin R' .non⟩
theorem fn_okJ (Fd : FunD K x qual params body scope dvs kws f fd) (S : FnScope N ps scope) (hN : 1 ≤ N.length) (hb : Bd P w K mg base N qual scope k f body g) : FnOk P w K mg base CX0 (k + 1) f fd ps (spJ K ps.length (runJ g N.length)) := by
  refine Fd.ok S (fun vs H Q E h => ?_) (fun cdv A outer s H vs Q E hr h => ?_)
  · obtain ⟨O, p, ws, ds, j, d, j', rfl, _, _, _, rp, hl, _⟩ := h
    rw [List.length_cons, rp.length, hl]
  · obtain ⟨O, p, ws, ds, j, d, j', rfl, dm, op, hp, rp, hl, ef, q⟩ := h
    refine ⟨tES K ⟨some p, O, H⟩ g, (hb cdv A outer s H E ⟨some p, O, H⟩ hr).ps.nox, ?_⟩
    unfold runJ at ef
    have hst : start N (.ref p :: ws) = some (.ref p) :: (ws.map some ++ List.replicate (N.length - 1 - ws.length) none) := by
      unfold L2.start
      rw [List.map_cons, List.cons_append, List.length_cons]
      congr 3
      omega
    have hsd : ∀ {i : Nat} {s : Sl}, (r0 (N.length - 1) ds)[i]? = some (some s) → ∃ d v, s = .d d ∧ (ws.map some ++ List.replicate (N.length - 1 - ws.length) none)[i]? = some (some v) ∧ Rep K O H v d := fun {i s} h => by
      rcases get_app h with h | ⟨_, e⟩
      · rw [List.getElem?_map] at h
        obtain ⟨d, hd, e⟩ := Option.map_eq_some_iff.mp h
        obtain ⟨v, hv, rv⟩ := rp.get hd
        refine ⟨d, v, (Option.some.inj e).symm, ?_, rv⟩
        have hi : i < ws.length := (List.getElem?_eq_some_iff.mp hv).1
        rw [List.getElem?_append_left (by simpa using hi), List.getElem?_map, hv]
        rfl
      · cases e
    have R : Rel K ⟨some p, O, H⟩ O (start N (.ref p :: ws)) H (some .jar :: r0 (N.length - 1) ds) j := by
      rw [hst]
      refine ⟨fun _ h => h, dm, fun _ _ h _ => h, fun p' e => (by cases e; exact ⟨op, hp⟩), fun i s h => ?_, fun i l p' xs ys h1 => ?_, ?_⟩
      · cases i with
        | zero =>
          cases h
          exact ⟨p, rfl, rfl⟩
        | succ i =>
          obtain ⟨d, v, rfl, ev, rv⟩ := hsd (by simpa using h)
          exact ⟨v, by simpa using ev, rv⟩
      · cases i with
        | zero => cases h1
        | succ i =>
          obtain ⟨d, v, e, _⟩ := hsd (by simpa using h1)
          cases e
      · unfold r0
        simp [rp.length]
    refine tES_iff.mpr ?_
    have fin : ∀ {O' : Addr → Prop} {σ' : L2.St} {H' : Hp} {v : V} {r' : Rg}, Rel K ⟨some p, O, H⟩ O' σ' H' r' j' → Rep K O' H' v d → Q v H' := fun {O' σ' H' v r'} R' rv =>
      q v H' (fun a o h n => R'.grow a o h (fun e => n (Option.some.inj e).symm)) (R'.jar p rfl).2 (rv.mono (hid_anti fun a h => R'.sub a h))
    match eg : g (some .jar :: r0 (N.length - 1) ds) j, ef with
    | some (.rt d0, r', j'), ef =>
      cases ef
      exact ⟨O, _, j, _, r', _, R, eg, fun O' σ' H' v R' _ rv => fin R' rv⟩
    | some (.nx, r', j'), ef =>
      cases ef
      exact ⟨O, _, j, _, r', _, R, eg, fun O' σ' H' R' _ => fin R' .non⟩
    | some (.bk, r', j'), ef => cases ef
    | some (.ct, r', j'), ef => cases ef
    | none, ef => cases ef
end
end Ev
end
section
set_option Elab.async false
set_option linter.all false
set_option autoImplicit false
set_option maxRecDepth 100000
/-! Ev: more statements; the law's own two defs; a zip that has a name. -/
namespace Ev
open PySem PySem.Spec PyProof.Rows L2
section
variable {X : Cx} {C : Cn} {e e2 : Expr} {f fx : M Dt} {pos : Pos}
def sEx (f : M Dt) : Sm := fun r j => (f r j).map fun p => (.nx, r, p.2)
theorem es_expr (h : EV X C e f) (hs : swapsWith e none pos.line X.env = pure false := by rfl) : ES X C (.Expr e pos) (sEx f) := ⟨ps_weak (ps_expr h.pe hs) fun D σ H h => by
  obtain ⟨O, r, j, out, r', j', R, h, q⟩ := h
  obtain ⟨⟨d, j1⟩, e1, h⟩ := map_some h
  cases h
  exact ⟨O, _, j, d, _, R, e1, fun v H' k w _ => q O σ H' (R.keep k w) (R.ext k)⟩⟩
/-- xs[ix] = e, xs a list of one's own -/
def sSetI (i : Nat) (f fx : M Dt) : Sm := fun r j => (f r j).bind fun p => (fx r p.2).bind fun q => match q.1, r[i]? with
  | .int k, some (some (.own xs)) => (ixN xs.length k).map fun m => (.nx, r.set i (some (.own (xs.set m p.1))), q.2)
  | _, _ => none
theorem es_setI (i : Nat) {x : Str} {p1 p2 : Pos} (h : EV X C e f) (hx : EV X C e2 fx) (hN : X.N[i]? = some x := by rfl) (hv : Vis X.env.scope x := by first | exact Or.inl rfl | exact Or.inr (Or.inl rfl) | exact Or.inr (Or.inr rfl)) (hd : (x == ("__debug__" : Str)) = false := by decide)
    (hcd : (x == ("__classdict__" : Str)) = false := by decide) (hs : swapsWithSole [.Subscript (.Name x p1) e2 p2] e pos.line X.env = pure false := by rfl) (hw : swappedStores [.Subscript (.Name x p1) e2 p2] e X.env = pure none := by rfl)
    (h1 : (assignEach [.Subscript (.Name x p1) e2 p2] X.env).map (·.2) = [assign (.Subscript (.Name x p1) e2 p2) X.env] := by rfl)
    (ha : ∀ v, assign (.Subscript (.Name x p1) e2 p2) X.env v = (do let ov ← holding [v] (eval (.Name x p1) X.env); let iv ← holding [v, ov] (eval e2 X.env); standAt p2; holding [v, ov, iv] (setItem ov iv v); release [v, ov, iv] []) := by intro _; rfl) : ES X C (.Assign [.Subscript (.Name x p1) e2 p2] e pos) (sSetI i f fx) := ⟨ps_weak (ps_asg h.pe (pg_sub (pe_var hN hv hd hcd) hx.pe set_list ha) hs hw h1) fun D σ H h => by
  obtain ⟨O, r, j, out, r', j', R, h, q⟩ := h
  obtain ⟨⟨d, j1⟩, e1, h⟩ := bind_some h
  obtain ⟨⟨dx, j2⟩, e3, h⟩ := bind_some h
  dsimp only at h
  split at h
  · rename_i k xs es
    obtain ⟨m, em, h⟩ := map_some h
    cases h
    refine ⟨O, r, j, d, j1, R, e1, fun v H1 k1 q1 rv => ?_⟩
    have R1 := R.keep k1 q1
    obtain ⟨p, vs, f1, f2, z, op, n0, hh, np, rp⟩ := R1.sl i _ es
    refine ⟨.ref p, f1, O, r, j1, _, _, R1, e3, fun w H2 k2 q2 rw' => ?_⟩
    cases rw'
    have R2 := R1.keep k2 q2
    refine ⟨p, vs, k, m, rfl, rfl, k2 _ _ f2 np, by rw [rp.length]; exact em, ?_⟩
    obtain ⟨R3, x3⟩ := R2.putOwn (ws := vs.set m v) (ys := xs.set m d) es f1 (by rw [List.length_set]; exact z) (((R1.ext k2).reps rp).set ((R1.ext k2).rep rv) m)
    exact q O σ _ R3 (((R.ext k1).trans (R1.ext k2)).trans x3)
  · cases h⟩
end
/-! ### the jar is made; the law -/
def r0W (m : Nat) (ns : List Int) (t : Int) : Rg := some (.scr ns) :: some (.d (.int t)) :: List.replicate (m - 2) none
def r0L (m : Nat) (ns : List Int) : Rg := some (.scr ns) :: List.replicate (m - 1) none
def runW (g : Sm) (m : Nat) (ns : List Int) (t : Int) : Option Dt := (outD (g (r0W m ns t) [])).map (·.1)
def runL (g : Sm) (m : Nat) (ns : List Int) : Option Dt := (outD (g (r0L m ns) [])).map (·.1)
/-- the law's promise -/
def spL (K : PySem.W.Frag) (n : Nat) : Sp := fun vs H Q _ => ∃ (a : Addr) (ns : List Int), vs = [.ref a] ∧ SqL K H a (ns.map V.int) ∧ ns.length ≤ n ∧ ∀ H', Q (.bl true) H'
section
variable {P : Program} {w : World} {K : PySem.W.Frag} {mg : Str → Option Value} {base : Heap} {x qual : Str} {params : Arguments} {body : List Stmt} {scope : Scope} {dvs : List V} {kws : List (Str × V)} {f : Addr} {fd : FuncData} {N ps : List Str} {k : Nat} {g : Sm}
theorem reps_jar {K : PySem.W.Frag} {H : Hp} : ∀ {js : List Int} {vs : List V}, RpA K H vs (js.map PyData.int) → vs = js.map V.int
  | [], _, .nil => rfl
  | j :: js, _, .cons h t => by
    cases h
    rw [reps_jar t]
    rfl
theorem fn_okW {W : List Int → Int → Option Jr} (Fd : FunD K x qual params body scope dvs kws f fd) (S : FnScope N ps scope) (hps : ps.length = 2) (hN : 2 ≤ N.length) (hb : Bd P w K mg base N qual scope k f body g)
    (hW : ∀ ns t js, W ns t = some js → runW g N.length ns t = some (.list (js.map .int))) : FnOk P w K mg base CX0 (k + 1) f fd ps (spW K W) := by
  refine Fd.ok S (fun vs H Q E h => ?_) (fun cdv A outer s H vs Q E hr h => ?_)
  · obtain ⟨a, ns, t, js, rfl, _⟩ := h
    exact hps.symm
  · obtain ⟨a, ns, t, js, rfl, sq, hz, ew, q⟩ := h
    refine ⟨tES K ⟨none, fun a => H a ≠ none, H⟩ g, (hb cdv A outer s H E ⟨none, fun a => H a ≠ none, H⟩ hr).ps.nox, ?_⟩
    have ef := hW ns t js ew
    unfold runW at ef
    obtain ⟨⟨d', j2⟩, eo, ed⟩ := map_some ef
    have hst : L2.start N [.ref a, .int t] = some (.ref a) :: some (.int t) :: List.replicate (N.length - 2) none := rfl
    have R : Rel K ⟨none, fun a => H a ≠ none, H⟩ (fun a => H a ≠ none) (L2.start N [.ref a, .int t]) H (r0W N.length ns t) [] := by
      rw [hst]
      have rep0 : ∀ {i : Nat} {s : Sl}, (List.replicate (N.length - 2) (none : Option Sl))[i]? = some (some s) → False := fun {i s} h => by
        obtain ⟨_, e⟩ := List.getElem?_eq_some_iff.mp h
        rw [List.getElem_replicate] at e
        cases e
      refine ⟨fun _ h => h, fun _ h => h, fun _ _ h _ => h, fun p e => (by cases e), fun i s h => ?_, fun i l p xs ys h1 => ?_, by simp [r0W]⟩
      · match i, h with
        | 0, h => cases h; exact ⟨a, rfl, sq, (fun e => nomatch e), hz⟩
        | 1, h => cases h; exact ⟨.int t, rfl, .int _⟩
        | i + 2, h => exact (rep0 (i := i) (s := s) (by simpa [r0W] using h)).elim
      · match i, h1 with
        | 0, h => cases h
        | 1, h => cases h
        | i + 2, h => exact (rep0 (i := i) (s := .own xs) (by simpa [r0W] using h)).elim
    refine tES_iff.mpr ?_
    match eg : g (r0W N.length ns t) [], eo with
    | some (.rt d0, r', j'), eo =>
      cases eo
      refine ⟨_, _, [], _, r', _, R, eg, fun O' σ' H' v R' _ rv => ?_⟩
      cases ed
      obtain ⟨p, vs, rfl, hs, z, rp⟩ : ∃ p vs, v = .ref p ∧ hid O' H' p = some (.lst vs) ∧ vs.length ≤ sizeLine ∧ RpA K (hid O' H') vs (js.map PyData.int) := by
        cases rv with
        | lst h z rp => exact ⟨_, _, rfl, h, z, rp⟩
      obtain ⟨no, hp⟩ := hid_some.mp hs
      have hn : H p = none := by
        cases e : H p with
        | none => rfl
        | some o => exact absurd (R'.sub p (by show H p ≠ none; rw [e]; exact fun z => nomatch z)) no
      refine q p H' hn (fun a o h => R'.grow a o h (fun e => nomatch e)) ?_
      rw [hp]
      unfold jarV
      rw [reps_jar rp]
    | some (.nx, r', j'), eo =>
      cases eo
      cases ed
theorem fn_okL {n : Nat} (Fd : FunD K x qual params body scope dvs kws f fd) (S : FnScope N ps scope) (hps : ps.length = 1) (hN : 1 ≤ N.length) (hn : n ≤ sizeLine) (hb : Bd P w K mg base N qual scope k f body g)
    (hL : ∀ ns, ns.length ≤ n → runL g N.length ns = some (.bool true)) : FnOk P w K mg base CX0 (k + 1) f fd ps (spL K n) := by
  refine Fd.ok S (fun vs H Q E h => ?_) (fun cdv A outer s H vs Q E hr h => ?_)
  · obtain ⟨a, ns, rfl, _⟩ := h
    exact hps.symm
  · obtain ⟨a, ns, rfl, sq, hz, q⟩ := h
    refine ⟨tES K ⟨none, fun _ => False, H⟩ g, (hb cdv A outer s H E ⟨none, fun _ => False, H⟩ hr).ps.nox, ?_⟩
    have ef := hL ns hz
    unfold runL at ef
    obtain ⟨⟨d', j2⟩, eo, ed⟩ := map_some ef
    have hst : L2.start N [.ref a] = some (.ref a) :: List.replicate (N.length - 1) none := rfl
    have R : Rel K ⟨none, fun _ => False, H⟩ (fun _ => False) (L2.start N [.ref a]) H (r0L N.length ns) [] := by
      rw [hst]
      have rep0 : ∀ {i : Nat} {s : Sl}, (List.replicate (N.length - 1) (none : Option Sl))[i]? = some (some s) → False := fun {i s} h => by
        obtain ⟨_, e⟩ := List.getElem?_eq_some_iff.mp h
        rw [List.getElem_replicate] at e
        cases e
      refine ⟨fun _ h => h, fun _ h => h.elim, fun _ _ h _ => h, fun p e => (by cases e), fun i s h => ?_, fun i l p xs ys h1 => ?_, by simp [r0L]⟩
      · match i, h with
        | 0, h => cases h; exact ⟨a, rfl, sq, (fun e => nomatch e), Nat.le_trans hz hn⟩
        | i + 1, h => exact (rep0 (i := i) (s := s) (by simpa [r0L] using h)).elim
      · match i, h1 with
        | 0, h => cases h
        | i + 1, h => exact (rep0 (i := i) (s := .own xs) (by simpa [r0L] using h)).elim
    refine tES_iff.mpr ?_
    match eg : g (r0L N.length ns) [], eo with
    | some (.rt d0, r', j'), eo =>
      cases eo
      refine ⟨_, _, [], _, r', _, R, eg, fun O' σ' H' v R' _ rv => ?_⟩
      cases ed
      cases rv
      exact q H'
    | some (.nx, r', j'), eo =>
      cases eo
      cases ed
end
end Ev
end
section
set_option Elab.async false
set_option linter.all false
set_option autoImplicit false
set_option maxRecDepth 100000
/-! Ev: a zip that has a name, gone through once. -/
namespace Ev
open PySem PySem.Spec PyProof.Rows L2
def zφ (N : Nat) (k1 k2 : Sk) (a b : Addr) (j : Nat) (h : Heap) : Prop := match j with
  | 0 => h.get? N = some (ptrOb k1 a)
  | 1 => h.get? (N + 1 : Nat) = some (ptrOb k2 b)
  | 2 => IsTupOf2 h (N + 2 : Nat) (.ref N) (.ref (N + 1 : Nat))
  | 3 => IsTupOf2 h (N + 3 : Nat) .none .none
  | _ => IsZip h (N + 4 : Nat) (N + 2 : Nat) (N + 3 : Nat) .none
def lay5 (H : Hp) (N : Nat) (φ : Nat → Heap → Prop) : Hp := fun b => if N ≤ b ∧ b < N + 5 then some (.ext (φ (b - N))) else H b
theorem lay5_in {H : Hp} {N : Nat} {φ : Nat → Heap → Prop} {b : Nat} (h1 : N ≤ b) (h2 : b < N + 5) : lay5 H N φ b = some (.ext (φ (b - N))) := if_pos ⟨h1, h2⟩
theorem lay5_out {H : Hp} {N : Nat} {φ : Nat → Heap → Prop} {b : Nat} (h : ¬ (N ≤ b ∧ b < N + 5)) : lay5 H N φ b = H b := if_neg h
theorem lay5_plain {H : Hp} {N : Nat} {φ : Nat → Heap → Prop} {b : Nat} {u : HO} (e : lay5 H N φ b = some u) (n : ∀ ψ, u ≠ .ext ψ) : H b = some u := by
  by_cases h : N ≤ b ∧ b < N + 5
  · rw [lay5_in h.1 h.2] at e
    exact absurd (Option.some.inj e).symm (n _)
  · rw [lay5_out h] at e
    exact e
section
variable {X : Cx} {pins : List (Addr × Obj)} {σ : L2.St} {H : Hp} {s : Shared} {φ : Nat → Heap → Prop}
theorem inv_lay5 {h' : Heap} (I : Inv X pins σ H s) (kp : ∀ b o, s.heap.get? b = some o → h'.get? b = some o)
    (ok : ∀ j, j < 5 → φ j h' ∧ (∃ o, h'.get? (s.heap.objs.size + j : Nat) = some o) ∧ ∀ h1 h2 : Heap, φ j h1 → (∀ o, h1.get? (s.heap.objs.size + j : Nat) = some o → h2.get? (s.heap.objs.size + j : Nat) = some o) → φ j h2) : Inv X pins σ (lay5 H s.heap.objs.size φ) { s with heap := h' } := by
  have young : ∀ {b : Addr} {u : HO}, H b = some u → ¬ (s.heap.objs.size ≤ b ∧ b < s.heap.objs.size + 5) := fun {b u} e z => by
    rw [I.hok.fresh z.1] at e
    cases e
  have u : Un X.fs [] H (lay5 H s.heap.objs.size φ) s.heap h' :=
    { keep := fun b o q _ _ _ => kp b o q, slot := fun b o q _ _ _ => ⟨o.slots, kp b o q⟩, free := fun b o q n _ => by rw [lay5_out fun z => absurd (Heap.lt_size q) (Nat.not_lt.mpr z.1)]; exact n,
      there := fun b o q _ => ⟨o, kp b o q⟩, tups := fun b xs q => by rw [lay5_out (young q)]; exact q, frzs := fun b o x q => by rw [lay5_out (young q)]; exact q, tbls := fun b ps q => ⟨#[], by rw [lay5_out (young q), q]; simp⟩ }
  refine I.un (t' := s.toks) u fun b v e => ?_
  by_cases hb : s.heap.objs.size ≤ b ∧ b < s.heap.objs.size + 5
  · rw [lay5_in hb.1 hb.2] at e
    cases e
    have eb : s.heap.objs.size + (b - s.heap.objs.size) = b := Nat.add_sub_cancel' hb.1
    have q := ok (b - s.heap.objs.size) (Nat.sub_lt_left_of_lt_add hb.1 hb.2)
    rw [eb] at q
    exact q
  · rw [lay5_out hb] at e
    exact (I.hok b v e).stay (fun c o _ q => kp c o q) (fun c q => by rw [lay5_out (young q)]; exact q) fun c xs q => by rw [lay5_out (young q)]; exact q
theorem inv_drop5 {N : Nat} (I : Inv X pins σ (lay5 H N φ) s) (hn : ∀ b : Nat, N ≤ b → b < N + 5 → H b = none) : Inv X pins σ H s := by
  have non : ∀ b, lay5 H N φ b = none → H b = none := fun b e => by
    by_cases hb : N ≤ b ∧ b < N + 5
    · exact hn b hb.1 hb.2
    · rw [lay5_out hb] at e
      exact e
  have up : ∀ {b u}, H b = some u → lay5 H N φ b = some u := fun {b u} e => by
    rw [lay5_out fun z => by rw [hn b z.1 z.2] at e; cases e]
    exact e
  have u : Un X.fs [] (lay5 H N φ) H s.heap s.heap :=
    { keep := fun _ _ e _ _ _ => e, slot := fun _ o e _ _ _ => ⟨o.slots, e⟩, free := fun b _ _ z _ => non b z, there := fun _ o e _ => ⟨o, e⟩, tups := fun b xs z => lay5_plain z fun _ w => (nomatch w),
      frzs := fun b o x z => lay5_plain z fun _ w => (nomatch w), tbls := fun b ps z => ⟨#[], by rw [lay5_plain z fun _ w => (nomatch w)]; simp⟩ }
  exact I.un (t' := s.toks) u fun b v e => (I.hok b v (up e)).stay (fun _ _ _ z => z) (fun c z => lay5_plain z fun _ w => (nomatch w)) fun c xs z => lay5_plain z fun _ w => (nomatch w)
theorem inv_fp5 {N b : Nat} (I : Inv X pins σ (lay5 H N φ) s) (hn : ∀ b : Nat, N ≤ b → b < N + 5 → H b = none) (hy : X.s_0.heap.objs.size ≤ N) (h1 : N ≤ b) (h2 : b < N + 5) : FpOk X pins H b := by
  have hb := lay5_in (H := H) (φ := φ) h1 h2
  refine ⟨hn b h1 h2, fun z => ?_, fun z => ?_, .inr (Nat.le_trans hy h1), fun x c e z => ?_, fun p hp z => ?_⟩
  · have f := I.free
    rw [← z, hb] at f
    cases f
  · obtain ⟨_, o, ho, _⟩ := I.ok.funs.mem z
    exact absurd (Nat.lt_of_lt_of_le (Heap.lt_size ho) (Nat.le_trans hy h1)) (Nat.lt_irrefl _)
  · have f := I.freeC x c e
    rw [z, hb] at f
    cases f
  · have f := (I.pin p hp).2.1
    rw [z, hb] at f
    cases f
end
/-- zip(..) as a value -/
def tZipV (K : PySem.W.Frag) (n : Nat) (ta : TA) : TE := fun σ H Q => ta σ H fun vs H1 => ∃ k1 k2 a b, vs = [.ref a, .ref b] ∧ (∃ xs, SqK K k1 H1 a xs) ∧ (∃ ys, SqK K k2 H1 b ys) ∧
  ∀ N : Nat, n ≤ N → (a : Nat) < N → (b : Nat) < N → (∀ c : Nat, N ≤ c → H1 c = none) → Q (.ref (N + 4 : Nat)) (lay5 H1 N (zφ N k1 k2 a b))
def iZipV (K : PySem.W.Frag) (n i : Nat) : TI := fun σ H R => ∃ N H1 k1 k2 a b, σ[i]? = some (some (.ref (N + 4 : Nat))) ∧ n ≤ N ∧ (a : Nat) < N ∧ (b : Nat) < N ∧ H = lay5 H1 N (zφ N k1 k2 a b) ∧ (∀ c : Nat, N ≤ c → H1 c = none) ∧ R (ItzK K k1 k2 a b) H1
section
variable {X : Cx}
theorem pe_zipV {e e2 : Expr} {ta : TA} {p pos : Pos} (hm : X.mg "zip" = none) (ha : PA X [e, e2] ta) (hg : Gl X "zip" := by rfl)
    (hs : starEach [e, e2] X.env = (false, eval e X.env) :: starEach [e2] X.env := by rfl) (hpl : (backTo pos (starEach [e2] X.env)).any (·.1) = false := by rfl) :
    PE X (.Call (.Name "zip" p) [e, e2] [] pos) (tZipV X.K X.s_0.heap.objs.size ta) := by
  refine ⟨fun pins s σ H Q I h => ?_⟩
  refine Call_ (ld_blt I hg hm PyProof.Rows.boot_zip (PyProof.Rows.callWith_type1 (thn (ha.run pos pins s σ H _ I h) fun us s1 ⟨vs, H1, I1, r1, q1⟩ => ?_) hs hpl))
  obtain ⟨k1, k2, a, b, ex, ⟨xs, qx⟩, ⟨ys, qy⟩, q⟩ := q1
  subst ex
  obtain ⟨u1, u2, rfl, rr, r3⟩ := vals2 r1
  have eu1 : u1 = .ref a := rr
  have eu2 : u2 = .ref b := r3
  subst eu1 eu2
  obtain ⟨its, rv, ra, la⟩ := row_of I1 qx
  obtain ⟨its2, rv2, rb, lb⟩ := row_of I1 qy
  refine zip_begins2 (ptr_begins k1 a its.toArray) (ptr_begins k2 b its2.toArray) ra rb fun h' hz hTI hTO g1 g2 _ kp => ?_
  have I2 : Inv X pins σ (lay5 H1 s1.heap.objs.size (zφ s1.heap.objs.size k1 k2 a b)) { s1 with heap := h' } := inv_lay5 I1 kp fun j hj => by
    match j, hj with
    | 0, _ => exact ⟨g1, ⟨_, g1⟩, fun h1 h2 e kk => kk _ e⟩
    | 1, _ => exact ⟨g2, ⟨_, g2⟩, fun h1 h2 e kk => kk _ e⟩
    | 2, _ => exact ⟨hTI, ⟨_, hTI⟩, fun h1 h2 e kk => kk _ e⟩
    | 3, _ => exact ⟨hTO, ⟨_, hTO⟩, fun h1 h2 e kk => kk _ e⟩
    | 4, _ => exact ⟨hz, ⟨_, hz⟩, fun h1 h2 e kk => kk _ e⟩
  exact ⟨.ref (s1.heap.objs.size + 4 : Nat), _, I2, rfl, q s1.heap.objs.size I1.sz la lb fun c hc => I1.hok.fresh hc⟩
theorem pi_zipV (i : Nat) {x : Str} {p tpos : Pos} {elts : List Expr} {kk : Nat} (hN : X.N[i]? = some x) (hv : Vis X.env.scope x) (hd : (x == ("__debug__" : Str)) = false := by decide) (hcd : (x == ("__classdict__" : Str)) = false := by decide) :
    PI X (.Tuple elts kk tpos) (.Name x p) (iZipV X.K X.s_0.heap.objs.size i) := by
  refine ⟨fun pins s σ H R I h => ?_⟩
  obtain ⟨N, H1, k1, k2, a, b, es, hy, la, lb, rfl, hn, q⟩ := h
  refine thn ((pe_var (pos := p) (i := i) hN hv hd hcd).run pins s σ _ (fun v H2 => v = .ref (N + 4 : Nat) ∧ H2 = lay5 H1 N (zφ N k1 k2 a b)) I ⟨_, es, rfl, rfl⟩) fun u s1 ⟨v, H2, I1, r1, ev, eH⟩ => ?_
  subst ev
  rw [eH] at I1
  have eu : u = .ref (N + 4 : Nat) := r1
  subst eu
  have at5 : ∀ j : Nat, j < 5 → zφ N k1 k2 a b j s1.heap := fun j hj => by
    have e := lay5_in (H := H1) (φ := zφ N k1 k2 a b) (b := N + j) (Nat.le_add_right _ _) (Nat.add_lt_add_left hj _)
    rw [Nat.add_sub_cancel_left] at e
    exact (I1.hok _ _ e).1
  have g1 := at5 0 (by decide)
  have g2 := at5 1 (by decide)
  have hTI := at5 2 (by decide)
  have hTO := at5 3 (by decide)
  have hz := at5 4 (by decide)
  refine wpAny_pyIter_zip hz ?_
  have hn' : ∀ c : Nat, N ≤ c → c < N + 5 → H1 c = none := fun c h _ => hn c h
  refine ⟨(N + 4 : Nat), [(N + 4 : Nat), (N + 2 : Nat), (N + 3 : Nat), N, (N + 1 : Nat)], _, _, H1, rfl, inv_drop5 I1 hn', turn_zipK (k1 := k1) (k2 := k2) (zip_apart la lb) (Nat.ne_of_lt la) (Nat.ne_of_lt (Nat.lt_succ_of_lt lb)), ⟨hz, hTI, ⟨_, _, hTO⟩, ptr_new g1, ptr_new g2⟩, fun c hcm => ?_, q⟩
  have hle : N ≤ c ∧ c < N + 5 := by
    simp only [List.mem_cons, List.not_mem_nil, or_false] at hcm
    rcases hcm with rfl | rfl | rfl | rfl | rfl
    · exact ⟨Nat.le_add_right _ _, Nat.add_lt_add_left (by decide) _⟩
    · exact ⟨Nat.le_add_right _ _, Nat.add_lt_add_left (by decide) _⟩
    · exact ⟨Nat.le_add_right _ _, Nat.add_lt_add_left (by decide) _⟩
    · exact ⟨Nat.le_refl _, Nat.lt_add_of_pos_right (by decide)⟩
    · exact ⟨Nat.le_add_right _ _, Nat.add_lt_add_left (by decide) _⟩
  exact inv_fp5 I1 hn' hy hle.1 hle.2
end
/-- x = zip(e, e2); return all([elt for t in x]) -/
def sZipAll (i : Nat) (fs : M (List Dt)) (t : Tm) (tt : M Bool) (te : M Dt) (vs : List Nat) : Sm := fun r j => if i < r.length then (mZip fs r j).bind fun p => (lcS t tt te (wipeR (r.set i none) vs) p.1 p.2).bind fun q => (gAll (.list q.1)).map fun z => (.rt z, r.set i none, q.2) else none
section
variable {X : Cx} {C : Cn} {tgs : List Expr} {e e2 elt : Expr} {ifs : List Expr} {scope : Scope} {fs : M (List Dt)} {t : Tm} {tt : M Bool} {te : M Dt} {sl : List Nat}
theorem ess_zipAll (i : Nat) (own : List (Str × Nat)) {x : Str} {kk : Nat} {p1 p2 p3 p4 p5 p6 p7 p8 p9 p10 : Pos} (hp : X.calm = true) (hNd : X.N.Nodup) (hmz : X.mg "zip" = none) (hma : X.mg "all" = none) (ha : EA X C [e, e2] fs) (hw : EA X C [e, e2] fs)
    (ok : BlkOk X.N X.env.scope scope own)
    (hg : ∀ (s : Shared) (H : Hp) (Ca : Addr) (cl : List (Str × Addr)) (fp : List Addr), EG (X.blk s H scope (compEnvC scope cl Ca X.env) fp) C (.Tuple tgs kk p8) t sl)
    (ht : ∀ (s : Shared) (H : Hp) (Ca : Addr) (cl : List (Str × Addr)) (fp : List Addr), ETs (X.blk s H scope (compEnvC scope cl Ca X.env) fp) C ifs tt)
    (he : ∀ (s : Shared) (H : Hp) (Ca : Addr) (cl : List (Str × Addr)) (fp : List Addr), EV (X.blk s H scope (compEnvC scope cl Ca X.env) fp) C elt te)
    (hN : X.N[i]? = some x := by rfl) (hx : Loc X.env.scope x := by first | exact Or.inl rfl | exact Or.inr rfl) (hv : Vis X.env.scope x := by first | exact Or.inl rfl | exact Or.inr (Or.inl rfl) | exact Or.inr (Or.inr rfl)) (hd : (x == ("__debug__" : Str)) = false := by decide)
    (hcd : (x == ("__classdict__" : Str)) = false := by decide) (hgz : Gl X "zip" := by rfl) (hga : Gl X "all" := by rfl)
    (hs1 : starEach [e, e2] X.env = (false, eval e X.env) :: starEach [e2] X.env := by rfl) (hpl : (backTo p3 (starEach [e2] X.env)).any (·.1) = false := by rfl)
    (hsw : swapsWith (.Call (.Name "zip" p2) [e, e2] [] p3) (some (.Name x p1)) p4.line X.env = pure false := by rfl) (hf : X.fn x = true ∨ X.env.scope.names.lookup x = some .local := by first | exact .inl rfl | exact .inr rfl)
    (hsl : ∀ i ∈ sl, i ∈ own.map (·.2) := by decide) (hfs : ∀ z, foldedSetIterable (.Name x p7) X.env z = pure z := by intro _; rfl)
    (hst : starEach [.ListComp elt [⟨.Tuple tgs kk p8, .Name x p7, ifs, 0⟩] scope p6] X.env = (false, eval (.ListComp elt [⟨.Tuple tgs kk p8, .Name x p7, ifs, 0⟩] scope p6) X.env) :: starEach [] X.env := by rfl) :
    ESs X C [.Assign [.Name x p1] (.Call (.Name "zip" p2) [e, e2] [] p3) p4, .Return (some (.Call (.Name "all" p5) [.ListComp elt [⟨.Tuple tgs kk p8, .Name x p7, ifs, 0⟩] scope p6] [] p9)) p10] (sZipAll i fs t tt te (own.map (·.2))) :=
  ⟨pss_weak (pss_cons (ps_set hNd hN hx (pe_zipV hmz ha.pa hgz hs1 hpl) hsw hf) (pss_one (ps_ret (pe_callB (cr_all hp) hga hma (by decide +kernel)
    (pa_cons (pe_lc (g := tEG X.K C t sl) (tt := tET X.K C tt) (te := tEV X.K C te) hp hNd (pi_zipV i hN hv hd hcd) ok (fun s H Ca cl fp => (hg s H Ca cl fp).pg) (fun s H Ca cl fp => (ht s H Ca cl fp).pt) (fun s H Ca cl fp => (he s H Ca cl fp).pe) hfs) pa_nil hst) (by decide) (by decide) hst rfl)))) fun D σ H h => by
    obtain ⟨O, r, j, out, r', j', R, h, q⟩ := tES_iff.mp h
    unfold sZipAll at h
    split at h
    case isFalse => cases h
    rename_i hir
    obtain ⟨⟨ps, j1⟩, e1, h⟩ := bind_some h
    obtain ⟨⟨ys, j2⟩, e2', h⟩ := bind_some h
    obtain ⟨z, e3, h⟩ := map_some h
    cases h
    obtain ⟨⟨as, j0⟩, f1, e1⟩ := bind_some e1
    refine ⟨O, r, j, as, j0, R, f1, fun us H1 k1 q1 rvs => ?_⟩
    have R1 := R.keep k1 q1
    dsimp only at e1
    split at e1
    · obtain ⟨xs, ex, e1⟩ := bind_some e1
      obtain ⟨zs, ey, e1⟩ := map_some e1
      cases e1
      cases rvs with
      | cons rv t =>
        cases t with
        | cons rv2 t2 =>
          cases t2
          obtain ⟨ka, a, vs, rfl, z1, rp, hq⟩ := rep_row rv ex
          obtain ⟨kb, b, ws, rfl, z2, rp2, hq2⟩ := rep_row rv2 ey
          refine ⟨ka, kb, a, b, rfl, ⟨vs, hq O H1 .refl⟩, ⟨ws, hq2 O H1 .refl⟩, fun N hN la lb hn => ?_⟩
          have Rn : Rel X.K C O (σ.set i (some (.ref (N + 4 : Nat)))) H1 (r.set i none) j1 := by
            have R2 := R1.setN i
            refine ⟨R2.sub, R2.dom, R2.grow, R2.jar, fun k s ek => ?_, fun k l p xs ys e1 e2 e3 e4 => ?_, by rw [List.length_set, List.length_set, R1.len]⟩
            · rcases get_set ek with ⟨_, w, _⟩ | ⟨hk, e3⟩
              · cases w
              · rw [List.getElem?_set_ne (Ne.symm hk)]
                exact R1.sl k s e3
            · rcases get_set e1 with ⟨_, w, _⟩ | ⟨hk, e1'⟩
              · cases w
              · rcases get_set e2 with ⟨_, w, _⟩ | ⟨hl, e2'⟩
                · cases w
                · rw [List.getElem?_set_ne (Ne.symm hk)] at e3
                  rw [List.getElem?_set_ne (Ne.symm hl)] at e4
                  exact R1.inj k l p xs ys e1' e2' e3 e4
          refine ⟨N, H1, ka, kb, a, b, List.getElem?_set_self (by rw [R.len]; exact hir), hN, la, lb, rfl, hn, fun D' hD => ?_⟩
          refine lc_core0 (Q := fun x H2 => rAll X.K [x] H2 D.rt) hsl Rn (wk_zip z1 rp rp2 hq hq2) e2' (fun p av H' hp k2 q2 e4 zl rl => ?_) D' hD
          have Rf := Rn.keep k2 q2
          refine ud_all C O H' (.ref p) (.list ys) z _ Rf.dom (.inl (.lst (hid_some.mpr ⟨Rn.fresh hp, e4⟩) zl (rl.mono (hid_anti fun a h => .inl h)))) e3 fun w H3 s3 rz => ?_
          exact q O _ H3 w (Rf.keep (.of s3) (Rf.jarIs.same s3)) ((R.ext k1).trans ((Rn.ext k2).trans (Rf.ext (.of s3)))) rz
    · cases e1⟩
end
end Ev
end
section
set_option Elab.async false
set_option linter.all false
set_option autoImplicit false
set_option maxRecDepth 100000
/-! Ev: comprehensions of two clauses whose second source is empty at each turn. -/
namespace Ev
open PySem PySem.Spec PyProof.Rows L2
def lc2E (t : Tm) (c : M Bool) (it1 : M (List Dt)) (r0 : Rg) : List Dt → Jr → Option Jr
  | [], j => some j
  | d :: ds, j => (t d r0 j).bind fun p => (c p.1 p.2).bind fun q => if q.1 = true then (it1 p.1 q.2).bind fun z => match z.1 with
    | [] => lc2E t c it1 r0 ds z.2
    | _ :: _ => none
    else lc2E t c it1 r0 ds q.2
def mLc2E (it : M (List Dt)) (t : Tm) (c : M Bool) (it1 : M (List Dt)) (vs : List Nat) : M (List Dt) := fun r j => (it r j).bind fun p => (lc2E t c it1 (wipeR r vs) p.1 p.2).map fun q => ([], q)
section
variable {K : PySem.W.Frag} {C : Cn}
theorem lc2_core {it it1 : M (List Dt)} {t t1 : Tm} {c : M Bool} {tt1 : TT} {te : TE} {vs vs1 sl sl1 : List Nat} (hsl : ∀ i ∈ sl, i ∈ vs) {σ : L2.St} {H : Hp} {Q : VK} (h : tEF K C (mLc2E it t c it1 vs) σ H Q) :
    tLc2 (tEI K C it) (tEG K C t sl) (tET K C c) (tEI K C it1) (tEG K C t1 sl1) tt1 te vs vs1 σ H Q := by
  obtain ⟨O, r, j, out, j', R, h, q⟩ := h
  obtain ⟨⟨ds, j1⟩, e1, h⟩ := bind_some h
  obtain ⟨j2, e2, h⟩ := map_some h
  cases h
  refine ⟨O, r, j, ds, j1, R, e1, fun J H1 k1 q1 w D hD => ?_⟩
  have R1 := R.keep k1 q1
  have R1' := (R1.wipe vs).newOwn (.lst []) hD
  obtain ⟨heD, npD, n0D⟩ := R1.heNone hD
  obtain ⟨G, Y, w1, w2, w3, w4⟩ := w
  refine ⟨fun i m H' => m = ds.length - i ∧ i ≤ ds.length ∧ ∃ j2, Rel K C (ownP O D) (L2.wipe σ vs) H' (wipeR r vs) j2 ∧ Keep C H1 H' ∧ H' D = some (.lst []) ∧ lc2E t c it1 (wipeR r vs) (ds.drop i) j2 = some j', ⟨_, rfl, Nat.zero_le _, j1, R1', .of (same_upd hD), upd_same, e2⟩, ?_⟩
  rintro i m H2 ⟨rfl, hi, j2, R2, k2, eD, e2⟩
  have x2 : Ext O H1 (ownP O D) H2 := fun a o ha na => ⟨k2 a o ha (R1.notJar na), fun z => z.elim na (ne_of_none ha hD)⟩
  by_cases hlt : i < ds.length
  · refine .inr ⟨w1.goes i H2 hlt (w3 _ _ x2), fun H' => ∃ j2, Rel K C (ownP O D) (L2.wipe σ vs) H' (wipeR r vs) j2 ∧ Keep C H1 H' ∧ H' D = some (.lst []) ∧ lc2E t c it1 (wipeR r vs) (ds.drop (i + 1)) j2 = some j',
      fun H' p => ⟨_, by omega, rfl, hlt, p⟩, fun x H3 y => ?_⟩
    obtain ⟨d, hd, sm, rv⟩ := w4 i (ownP O D) H2 x H3 hlt x2 R2.dom (w1.yields i H2 x H3 hlt (w3 _ _ x2) y)
    have R3 := R2.keep (.of sm) (R2.jarIs.same sm)
    have ed : ds.drop i = d :: ds.drop (i + 1) := by
      rw [List.drop_eq_getElem_cons hlt]
      congr 1
      rw [List.getElem?_eq_getElem hlt] at hd
      exact Option.some.inj hd
    rw [ed] at e2
    obtain ⟨⟨r4, j4⟩, f1, e2⟩ := bind_some e2
    obtain ⟨⟨z, j5⟩, f2, e2⟩ := bind_some e2
    refine ⟨ownP O D, _, j2, d, r4, j4, R3, rv, f1, fun σ4 H4 R4 k4 l4 s4 => ⟨wipe_same (by rw [l4, wipe_length]) hsl s4, ownP O D, r4, j4, z, j5, R4, f2, fun H5 k5 q5 => ?_⟩⟩
    have R5 := R4.keep k5 q5
    have kk : Keep C H2 H5 := ((Keep.of sm).trans k4).trans k5
    have R2' := R2.keep kk q5
    cases z with
    | false =>
      dsimp only
      rw [if_neg Bool.false_ne_true]
      rw [if_neg Bool.false_ne_true] at e2
      exact ⟨j5, R2', k2.trans kk, kk _ _ eD npD, e2⟩
    | true =>
      dsimp only
      rw [if_pos rfl]
      rw [if_pos rfl] at e2
      obtain ⟨⟨zs, j6⟩, f3, e2⟩ := bind_some e2
      dsimp only at e2
      split at e2
      · refine ⟨ownP O D, r4, j5, [], j6, R5, f3, fun J1 H6 k6 q6 wk1 => ?_⟩
        obtain ⟨G1, Y1, v1, v2, v3, v4⟩ := wk1
        have kk6 := kk.trans k6
        refine ⟨fun i1 m1 H' => i1 = 0 ∧ H' = H6, ⟨0, rfl, rfl⟩, ?_⟩
        rintro i1 m1 H7 ⟨rfl, rfl⟩
        exact .inl ⟨v1.stops H7 (v3 _ _ .refl), j6, R2.keep kk6 q6, k2.trans kk6, kk6 _ _ eD npD, e2⟩
      · cases e2
  · have ei : i = ds.length := by omega
    subst ei
    rw [List.drop_length] at e2
    cases e2
    exact .inl ⟨w1.stops H2 (w3 _ _ x2), q D [] H2 (R.freshK k1 q1 hD) (k1.trans k2) R2.jarIs eD (Nat.zero_le _) .nil⟩
end
section
variable {X : Cx} {C : Cn} {tg iter tg1 iter1 elt : Expr} {it it1 : M (List Dt)} {t t1 : Tm} {sl sl1 : List Nat} {pos : Pos} {scope : Scope} {ifs ifs1 : List Expr} {tt tt1 : M Bool}
theorem ef_lc2e (own : List (Str × Nat)) (vs1 : List Nat) (hc : X.calm = true) (hN : X.N.Nodup) (hi : EI X C tg iter it) (ok : BlkOk X.N X.env.scope scope own) (hv : ∀ i ∈ vs1, i ∈ own.map (·.2))
    (hg : ∀ (s : Shared) (H : Hp) (Ca : Addr) (cl : List (Str × Addr)) (fp : List Addr), EG (X.blk s H scope (compEnvC scope cl Ca X.env) fp) C tg t sl)
    (ht : ∀ (s : Shared) (H : Hp) (Ca : Addr) (cl : List (Str × Addr)) (fp : List Addr), ETs (X.blk s H scope (compEnvC scope cl Ca X.env) fp) C ifs tt)
    (hi1 : ∀ (s : Shared) (H : Hp) (Ca : Addr) (cl : List (Str × Addr)) (fp : List Addr), EI (X.blk s H scope (compEnvC scope cl Ca X.env) fp) C tg1 iter1 it1)
    (hg1 : ∀ (s : Shared) (H : Hp) (Ca : Addr) (cl : List (Str × Addr)) (fp : List Addr), EG (X.blk s H scope (compEnvC scope cl Ca X.env) fp) C tg1 t1 sl1)
    (ht1 : ∀ (s : Shared) (H : Hp) (Ca : Addr) (cl : List (Str × Addr)) (fp : List Addr), ETs (X.blk s H scope (compEnvC scope cl Ca X.env) fp) C ifs1 tt1)
    (hsl : ∀ i ∈ sl, i ∈ own.map (·.2) := by decide) (hs : ∀ x, foldedSetIterable iter X.env x = pure x := by intro _; rfl) (hs1 : ∀ env x, foldedSetIterable iter1 env x = pure x := by intro _ _; rfl) :
    EF X C (.ListComp elt [⟨tg, iter, ifs, 0⟩, ⟨tg1, iter1, ifs1, 0⟩] scope pos) (mLc2E it t tt it1 (own.map (·.2))) :=
  ⟨pe_weak (pe_lc2 (g := tEG X.K C t sl) (tt := tET X.K C tt) (wi1 := tEI X.K C it1) (g1 := tEG X.K C t1 sl1) (tt1 := tET X.K C tt1) (te := tEV X.K C mNo) hc hN hi.pi ok hv (fun s H Ca cl fp => (hg s H Ca cl fp).pg) (fun s H Ca cl fp => (ht s H Ca cl fp).pt) (fun s H Ca cl fp => (hi1 s H Ca cl fp).pi) (fun s H Ca cl fp => (hg1 s H Ca cl fp).pg) (fun s H Ca cl fp => (ht1 s H Ca cl fp).pt)
    (fun s H Ca cl fp => (ev_no (X := X.blk s H scope (compEnvC scope cl Ca X.env) fp)).pe) hs hs1) fun σ H Q h => lc2_core hsl h⟩
end
/-! ### range(i, j, c) -/
def rangeC (lo c : Int) (n : Nat) : List Dt := (List.range n).map fun i => .int (lo + (i : Nat) * c)
def mRng3 (a : M (List Dt)) : M (List Dt) := fun r j => (a r j).bind fun p => match p.1 with
  | [.int i, .int k, .int c] => if c ≠ 0 ∧ c.natAbs < 1073741824 ∧ Builtin.Range.small i k c = true ∧ 0 ≤ Builtin.Range.rangeSize i k c ∧ (Builtin.Range.rangeSize i k c).toNat ≤ 100000 then some (rangeC i c (Builtin.Range.rangeSize i k c).toNat, p.2) else none
  | _ => none
section
variable {X : Cx} {C : Cn} {tg : Expr} {fs : M (List Dt)} {pos p : Pos}
theorem wk_rangeC {K : PySem.W.Frag} {O : Addr → Prop} {H : Hp} {lo c : Int} {n : Nat} (hz : n ≤ sizeLine) : Wk K (Itc lo c n) (rangeC lo c n) O H := by
  have eln : (rangeC lo c n).length = n := by simp [rangeC]
  refine ⟨fun _ => True, _, by rw [eln]; exact walk_rangeC, by rw [eln]; exact hz, fun _ _ _ => trivial, fun i O' H1 x1 H2 hi ex dm y => ?_⟩
  obtain ⟨rfl, rfl⟩ := y
  rw [eln] at hi
  refine ⟨.int (lo + (i : Nat) * c), ?_, fun _ _ h => h, .int _⟩
  simp [rangeC, hi]
theorem ei_rng3 {a b c : Expr} (hm : X.mg "range" = none) (ha : EA X C [a, b, c] fs) (hg : Gl X "range" := by rfl) (hs : starEach [a, b, c] X.env = (false, eval a X.env) :: starEach [b, c] X.env := by rfl) (hpl : (backTo pos (starEach [b, c] X.env)).any (·.1) = false := by rfl) :
    EI X C tg (.Call (.Name "range" p) [a, b, c] [] pos) (mRng3 fs) := ⟨pi_weak (pi_range3 hg hm ha.pa hs hpl) fun σ H R h => by
    obtain ⟨O, r, j, ds, j', R1, h, q⟩ := h
    obtain ⟨⟨as, j1⟩, e1, h⟩ := bind_some h
    refine ⟨O, r, j, as, j1, R1, e1, fun us H' k1 q1 rvs => ?_⟩
    dsimp only at h
    split at h
    · split at h
      · rename_i m n c hn
        cases h
        obtain ⟨c0, c1, c2, c3, c4⟩ := hn
        cases rvs with
        | cons rv t =>
          cases t with
          | cons rv2 t =>
            cases t with
            | cons rv3 t =>
              cases t
              cases rv
              cases rv2
              cases rv3
              refine ⟨m, n, c, _, rfl, ⟨c0, c1, c2, (Int.toNat_of_nonneg c3).symm⟩, ?_⟩
              exact q _ H' k1 q1 (wk_rangeC (K := X.K) (O := O) (H := H') (by rw [sizeLine_eq]; omega))
      · cases h
    · cases h⟩
end
end Ev
end
section
set_option Elab.async false
set_option linter.all false
set_option autoImplicit false
set_option maxRecDepth 100000
/-! Ev: small words for printed proofs. -/
namespace Ev
open PySem PySem.Spec PyProof.Rows L2
theorem rm150 {k : Nat} {A : Around} (r : Room k A) : A.units + 150 < cLine := by
  have := r.un
  omega
theorem mNil_len : ∀ (r : Rg) (j : Jr) (z : List Dt × Jr), mNil r j = some z → z.1.length = 0 := by
  intro r j z h
  cases h
  rfl
theorem mCons_len {a : M Dt} {b : M (List Dt)} {n : Nat} (h : ∀ (r : Rg) (j : Jr) (z : List Dt × Jr), b r j = some z → z.1.length = n) : ∀ (r : Rg) (j : Jr) (z : List Dt × Jr), mCons a b r j = some z → z.1.length = n + 1 := by
  intro r j z e
  obtain ⟨p, _, e⟩ := bind_some e
  obtain ⟨q, e2, rfl⟩ := map_some e
  exact congrArg (· + 1) (h _ _ _ e2)
theorem lenJ {b : M (List Dt)} {n : Nat} (h : ∀ (r : Rg) (j : Jr) (z : List Dt × Jr), b r j = some z → z.1.length = n) : ∀ (r : Rg) (j : Jr) (z : List Dt × Jr), b r j = some z → z.1.length + 1 = n + 1 := fun r j z e => congrArg (· + 1) (h r j z e)
def fuelI (r : Rg) (i : Nat) : Nat := match r[i]? with
  | some (some (.d (.int n))) => n.natAbs + 2
  | _ => 0
def jarOf : Dt → Option Jr
  | .list ds => asInts ds
  | _ => none
theorem asInts_eq : ∀ {ds : List Dt} {js : List Int}, asInts ds = some js → ds = js.map PyData.int
  | [], js, e => by
    cases e
    rfl
  | .int i :: r, js, e => by
    obtain ⟨bs, e1, rfl⟩ := map_some e
    rw [asInts_eq e1]
    rfl
theorem jar_runs {g : Sm} {m : Nat} : ∀ ns t js, (runW g m ns t).bind jarOf = some js → runW g m ns t = some (.list (js.map .int)) := by
  intro ns t js e
  obtain ⟨d, e1, e2⟩ := bind_some e
  rw [e1]
  unfold jarOf at e2
  split at e2
  · rw [asInts_eq e2]
  · cases e2
end Ev
end
section
set_option Elab.async false
set_option linter.all false
set_option autoImplicit false
set_option maxRecDepth 100000
/-! Ev: the head's facts, with tuples of the top and a built-in of a module. -/
namespace Ev
open PySem PySem.Spec PyProof.Rows L2
abbrev AlE : Type := He.AlD × Bool
/-- facts by names, defs, and ex: what else is asked of the frag -/
def obsE (n : Nat) (fa : List He.Fa) (fn : List He.DefD) (ex : PySem.W.Frag → Bool) (g : Addr → Option Obj) : AlE := (He.obsDG n fa fn g, ex (He.frG g (He.asD g n)))
def hookE (n : Nat) (fa : List He.Fa) (fn : List He.DefD) (ex : PySem.W.Frag → Bool) : PySem.W.Hook where
  α := AlE
  obs := fun s => obsE n fa fn ex s.heap.get?
  val := fun _ => (He.valD fn, true)
  says := fun _ h => ∃ K : PySem.W.Frag, K.In h ∧ He.SaysD fa fn K ∧ ex K = true
  of := fun _ _ e => ⟨_, He.frG_in, congrArg Prod.fst e, congrArg Prod.snd e⟩
  keeps := fun _ _ _ ⟨K, hK, c, d⟩ k => ⟨K, PySem.W.Frag.In.keeps hK k, c, d⟩
theorem obsE_eq {n : Nat} {fa : List He.Fa} {fn : List He.DefD} {ex : PySem.W.Frag → Bool} {g : Addr → Option Obj} {s : Shared} (h : ∀ a, g a = s.heap.get? a) : obsE n fa fn ex g = (hookE n fa fn ex).obs s := by
  have e : g = s.heap.get? := funext h
  rw [e]
  rfl
theorem three {α β γ δ : Type} {o : Option α} {f : α → β} {g : α → γ} {h : α → δ} {x : β} {y : γ} {z : δ} (a : o.map f = some x) (b : o.map g = some y) (c : o.map h = some z) : o.map (fun q => (f q, g q, h q)) = some (x, y, z) := by
  cases o with
  | none => cases a
  | some q =>
    cases a
    cases b
    cases c
    rfl
/-- the name x is a built-in thing -/
def binB (K : PySem.W.Frag) (x : Str) (id : String) : Bool := He.eqO (PySem.W.nsIn K mainGlobals x) (some (some (.builtin id)))
section
variable {K : PySem.W.Frag} {h : Heap} {mg : Str → Option Value}
theorem bin_ok (X : K.In h) (G : h.Ns mainGlobals mg) {x : Str} {id : String} (c : binB K x id = true) : mg x = some (.builtin id) := PySem.W.mg_of X G (He.eqO_ok c)
theorem gm_int (X : K.In h) (G : h.Ns mainGlobals mg) {x : Str} {i : Int} (c : (He.Fa.int x i).ok K = true) : GlobM K mg x (.int i) := by
  obtain ⟨t, e⟩ := He.int_ok X G c
  exact ⟨_, .int i, e, ⟨t, rfl⟩, fun _ => .int _⟩
theorem gm_str (X : K.In h) (G : h.Ns mainGlobals mg) {x z : Str} (c : (He.Fa.str x z).ok K = true) (h1 : PyData.strOk z = true := by decide +kernel) (h2 : z.length ≤ sizeLine := by decide +kernel) : GlobM K mg x (.str z) := by
  obtain ⟨t, e⟩ := He.str_ok X G c
  exact ⟨_, .str z, e, ⟨t, rfl⟩, fun _ => .str _ h1 h2⟩
theorem gm_tup (X : K.In h) (G : h.Ns mainGlobals mg) {x : Str} {vs : List He.Dv} {ds : List Dt} (c : (He.Fa.glo x).ok K = true) (ct : He.tupB K x vs = true) (hr : ∀ H, RpA K H (vs.map (He.Dv.v K)) ds) (hz : vs.length ≤ 1000 := by decide) : GlobM K mg x (.tuple ds) :=
  ⟨_, .ref (He.ga K x), He.glo_ok X G c, rfl, fun H => .tup (He.tupB_ok ct H) (by rw [List.length_map, sizeLine_eq]; omega) (hr H)⟩
end
end Ev
end
section
set_option Elab.async false
set_option linter.all false
set_option autoImplicit false
set_option maxRecDepth 100000
set_option maxHeartbeats 4000000
namespace K29
open PySem PySem.Spec PyProof.Rows L2 Ev
def top (i : Nat) : Stmt := PySem.Challenge.pw_latestshake_k29_whole_polygons_beside_br.main.body.getD i (.Pass ⟨0, 0, 0, 0⟩)
structure Gk (K : PySem.W.Frag) (mg : Str → Option Value) : Prop where
  b_abs : mg ("abs" : Str) = none
  b_all : mg ("all" : Str) = none
  b_bool : mg ("bool" : Str) = none
  b_divmod : mg ("divmod" : Str) = none
  b_enumerate : mg ("enumerate" : Str) = none
  g_gcd : mg "gcd" = some (.builtin "math.gcd")
  b_int : mg ("int" : Str) = none
  b_isinstance : mg ("isinstance" : Str) = none
  b_len : mg ("len" : Str) = none
  b_max : mg ("max" : Str) = none
  b_min : mg ("min" : Str) = none
  b_range : mg ("range" : Str) = none
  b_str : mg ("str" : Str) = none
  b_sum : mg ("sum" : Str) = none
  b_tuple : mg ("tuple" : Str) = none
  b_zip : mg ("zip" : Str) = none
  c_FEWEST : GlobM K mg ("FEWEST" : Str) (.int 3)
  c_LETTERS : GlobM K mg ("LETTERS" : Str) (.str ("abcdefghijklmnopqrstuvwxyz" : Str))
  c_MOST_LETTERS : GlobM K mg ("MOST_LETTERS" : Str) (.int 12)
  c_MOST_READINGS : GlobM K mg ("MOST_READINGS" : Str) (.int 12)
  c_MOST_SIDES : GlobM K mg ("MOST_SIDES" : Str) (.int 8)
  c_MOST_STATIONS : GlobM K mg ("MOST_STATIONS" : Str) (.int 12)
  c_WORDS : GlobM K mg ("WORDS" : Str) (.tuple [(.str ("station" : Str)), (.str ("at" : Str)), (.str ("heard" : Str)), (.str ("from" : Str)), (.str ("to" : Str)), (.str ("side" : Str)), (.str ("up" : Str))])
  c_ZERO : GlobM K mg ("ZERO" : Str) (.tuple [(.int 0), (.int 1)])
section
variable {P : Program} {w : World} {K : PySem.W.Frag} {mg : Str → Option Value} {base : Heap} {f : Addr}
/-! is_whole -/
abbrev N_is_whole : List Str := [("value" : Str)]
abbrev p_is_whole : List Str := [("value" : Str)]
def g_is_whole : Sm := (sRet (mAndV (mUn (gIsi "int") (mVar 0)) (mNotV (mUn (gIsi "bool") (mVar 0)))))
def F_is_whole : List Dt → Option Dt := runF g_is_whole 1
theorem nd_is_whole : N_is_whole.Nodup := by decide +kernel
theorem sc_is_whole : FnScope N_is_whole p_is_whole (defScope (top 6)) := ⟨rfl, rfl, rfl, nd_is_whole, rfl, by decide +kernel, by decide +kernel⟩
theorem bd_is_whole (G : Gk K mg) : Bd P w K mg base N_is_whole ("is_whole" : Str) (defScope (top 6)) 0 f (defBody (top 6)) g_is_whole := fun cdv A outer s H E C hr =>
  have nd := nd_is_whole
  (ess_one (es_ret (ev_and (ev_isi (T := "int") G.b_isinstance G.b_int (by decide +kernel) (el_of (ev_var 0))) (ev_one (ev_not (ev_isi (T := "bool") G.b_isinstance G.b_bool (by decide +kernel) (el_of (ev_var 0))))))))
/-! is_ratio -/
abbrev N_is_ratio : List Str := [("value" : Str)]
abbrev p_is_ratio : List Str := [("value" : Str)]
def g_is_ratio : Sm := (sSeq (sIf (mOr (mNot (mTst (mUn (gIsi "tuple") (mVar 0)))) (mOr (mTst (mBin fNe (mUn gLen (mVar 0)) (mC (.int 2)))) (mOr (mNot (mTst (mCall F_is_whole (mCons (mBin fIx (mVar 0) (mC (.int 0))) mNil)))) (mNot (mTst (mCall F_is_whole (mCons (mBin fIx (mVar 0) (mC (.int 1))) mNil))))))) (sRet (mC (.bool false))) sNil) (sRet (mAndV (mBin fGt (mBin fIx (mVar 0) (mC (.int 1))) (mC (.int 0))) (mBin fEq (mBin gGcd (mBin fIx (mVar 0) (mC (.int 0))) (mBin fIx (mVar 0) (mC (.int 1)))) (mC (.int 1))))))
def F_is_ratio : List Dt → Option Dt := runF g_is_ratio 1
theorem nd_is_ratio : N_is_ratio.Nodup := by decide +kernel
theorem sc_is_ratio : FnScope N_is_ratio p_is_ratio (defScope (top 9)) := ⟨rfl, rfl, rfl, nd_is_ratio, rfl, by decide +kernel, by decide +kernel⟩
theorem bd_is_ratio (G : Gk K mg) (h_is_whole : HasP P w K mg base 1 ("is_whole" : Str) 1 (spF K 1 F_is_whole)) : Bd P w K mg base N_is_ratio ("is_ratio" : Str) (defScope (top 9)) 1 f (defBody (top 9)) g_is_ratio := fun cdv A outer s H E C hr =>
  have nd := nd_is_ratio
  (ess_cons (es_if ((ew_or (et_not (et_val (ev_isi (T := "tuple") G.b_isinstance G.b_tuple (by decide +kernel) (el_of (ev_var 0))))) (ew_or (et_ne (rm150 hr) (el_of (ev_len G.b_len (el_of (ev_var 0)))) (el_of ev_int)) (ew_or (et_not (et_val (ev_call h_is_whole (hr.mono (by decide)) (ea_cons (ev_ix (el_of (ev_var 0)) ev_int) ea_nil) (hl := (mCons_len mNil_len))))) (ew_or1 (et_not (et_val (ev_call h_is_whole (hr.mono (by decide)) (ea_cons (ev_ix (el_of (ev_var 0)) ev_int) ea_nil) (hl := (mCons_len mNil_len)))))))))).et (ess_one (es_ret ev_bl)) ess_nil) (ess_one (es_ret (ev_and (ev_gt (el_of (ev_ix (el_of (ev_var 0)) ev_int)) (el_of ev_int)) (ev_one (ev_eq (rm150 hr) (el_of (ev_gcd G.g_gcd (el_of (ev_ix (el_of (ev_var 0)) ev_int)) (el_of (ev_ix (el_of (ev_var 0)) ev_int)))) (el_of ev_int)))))))
/-! ratio -/
abbrev N_ratio : List Str := [("top" : Str), ("low" : Str), ("part" : Str)]
abbrev p_ratio : List Str := [("top" : Str), ("low" : Str)]
def g_ratio : Sm := (sSeq (sSet 2 (mBin gGcd (mVar 0) (mVar 1))) (sSeq (sSet 2 (mIf (mTst (mBin fGt (mVar 1) (mC (.int 0)))) (mVar 2) (mUn fNeg (mVar 2)))) (sRet (mTup (mCons (mBin fDiv (mVar 0) (mVar 2)) (mCons (mBin fDiv (mVar 1) (mVar 2)) mNil))))))
def F_ratio : List Dt → Option Dt := runF g_ratio 3
theorem nd_ratio : N_ratio.Nodup := by decide +kernel
theorem sc_ratio : FnScope N_ratio p_ratio (defScope (top 10)) := ⟨rfl, rfl, rfl, nd_ratio, rfl, by decide +kernel, by decide +kernel⟩
theorem bd_ratio (G : Gk K mg) : Bd P w K mg base N_ratio ("ratio" : Str) (defScope (top 10)) 0 f (defBody (top 10)) g_ratio := fun cdv A outer s H E C hr =>
  have nd := nd_ratio
  (ess_cons (es_set 2 (ev_gcd G.g_gcd (el_of (ev_var 0)) (el_of (ev_var 1))) nd) (ess_cons (es_set 2 (ev_if (et_gt (el_of (ev_var 1)) (el_of ev_int)) (ev_var 2) (ev_neg (ev_var 2))) nd) (ess_one (es_ret (ev_tup (ea_cons (ev_fdiv (ev_var 0) (ev_var 2)) (ea_cons (ev_fdiv (ev_var 1) (ev_var 2)) ea_nil)))))))
/-! added -/
abbrev N_added : List Str := [("one" : Str), ("two" : Str)]
abbrev p_added : List Str := [("one" : Str), ("two" : Str)]
def g_added : Sm := (sRet (mCall F_ratio (mCons (mBin fAdd (mBin fMul (mBin fIx (mVar 0) (mC (.int 0))) (mBin fIx (mVar 1) (mC (.int 1)))) (mBin fMul (mBin fIx (mVar 1) (mC (.int 0))) (mBin fIx (mVar 0) (mC (.int 1))))) (mCons (mBin fMul (mBin fIx (mVar 0) (mC (.int 1))) (mBin fIx (mVar 1) (mC (.int 1)))) mNil))))
def F_added : List Dt → Option Dt := runF g_added 2
theorem nd_added : N_added.Nodup := by decide +kernel
theorem sc_added : FnScope N_added p_added (defScope (top 11)) := ⟨rfl, rfl, rfl, nd_added, rfl, by decide +kernel, by decide +kernel⟩
theorem bd_added (G : Gk K mg) (h_ratio : HasP P w K mg base 1 ("ratio" : Str) 2 (spF K 2 F_ratio)) : Bd P w K mg base N_added ("added" : Str) (defScope (top 11)) 1 f (defBody (top 11)) g_added := fun cdv A outer s H E C hr =>
  have nd := nd_added
  (ess_one (es_ret (ev_call h_ratio (hr.mono (by decide)) (ea_cons (ev_add (ev_mul (ev_ix (el_of (ev_var 0)) ev_int) (ev_ix (el_of (ev_var 1)) ev_int)) (ev_mul (ev_ix (el_of (ev_var 1)) ev_int) (ev_ix (el_of (ev_var 0)) ev_int))) (ea_cons (ev_mul (ev_ix (el_of (ev_var 0)) ev_int) (ev_ix (el_of (ev_var 1)) ev_int)) ea_nil)) (hl := (mCons_len (mCons_len mNil_len))))))
/-! less_by -/
abbrev N_less_by : List Str := [("one" : Str), ("two" : Str)]
abbrev p_less_by : List Str := [("one" : Str), ("two" : Str)]
def g_less_by : Sm := (sRet (mCall F_ratio (mCons (mBin fSub (mBin fMul (mBin fIx (mVar 0) (mC (.int 0))) (mBin fIx (mVar 1) (mC (.int 1)))) (mBin fMul (mBin fIx (mVar 1) (mC (.int 0))) (mBin fIx (mVar 0) (mC (.int 1))))) (mCons (mBin fMul (mBin fIx (mVar 0) (mC (.int 1))) (mBin fIx (mVar 1) (mC (.int 1)))) mNil))))
def F_less_by : List Dt → Option Dt := runF g_less_by 2
theorem nd_less_by : N_less_by.Nodup := by decide +kernel
theorem sc_less_by : FnScope N_less_by p_less_by (defScope (top 12)) := ⟨rfl, rfl, rfl, nd_less_by, rfl, by decide +kernel, by decide +kernel⟩
theorem bd_less_by (G : Gk K mg) (h_ratio : HasP P w K mg base 1 ("ratio" : Str) 2 (spF K 2 F_ratio)) : Bd P w K mg base N_less_by ("less_by" : Str) (defScope (top 12)) 1 f (defBody (top 12)) g_less_by := fun cdv A outer s H E C hr =>
  have nd := nd_less_by
  (ess_one (es_ret (ev_call h_ratio (hr.mono (by decide)) (ea_cons (ev_sub (ev_mul (ev_ix (el_of (ev_var 0)) ev_int) (ev_ix (el_of (ev_var 1)) ev_int)) (ev_mul (ev_ix (el_of (ev_var 1)) ev_int) (ev_ix (el_of (ev_var 0)) ev_int))) (ea_cons (ev_mul (ev_ix (el_of (ev_var 0)) ev_int) (ev_ix (el_of (ev_var 1)) ev_int)) ea_nil)) (hl := (mCons_len (mCons_len mNil_len))))))
/-! product -/
abbrev N_product : List Str := [("one" : Str), ("two" : Str)]
abbrev p_product : List Str := [("one" : Str), ("two" : Str)]
def g_product : Sm := (sRet (mCall F_ratio (mCons (mBin fMul (mBin fIx (mVar 0) (mC (.int 0))) (mBin fIx (mVar 1) (mC (.int 0)))) (mCons (mBin fMul (mBin fIx (mVar 0) (mC (.int 1))) (mBin fIx (mVar 1) (mC (.int 1)))) mNil))))
def F_product : List Dt → Option Dt := runF g_product 2
theorem nd_product : N_product.Nodup := by decide +kernel
theorem sc_product : FnScope N_product p_product (defScope (top 13)) := ⟨rfl, rfl, rfl, nd_product, rfl, by decide +kernel, by decide +kernel⟩
theorem bd_product (G : Gk K mg) (h_ratio : HasP P w K mg base 1 ("ratio" : Str) 2 (spF K 2 F_ratio)) : Bd P w K mg base N_product ("product" : Str) (defScope (top 13)) 1 f (defBody (top 13)) g_product := fun cdv A outer s H E C hr =>
  have nd := nd_product
  (ess_one (es_ret (ev_call h_ratio (hr.mono (by decide)) (ea_cons (ev_mul (ev_ix (el_of (ev_var 0)) ev_int) (ev_ix (el_of (ev_var 1)) ev_int)) (ea_cons (ev_mul (ev_ix (el_of (ev_var 0)) ev_int) (ev_ix (el_of (ev_var 1)) ev_int)) ea_nil)) (hl := (mCons_len (mCons_len mNil_len))))))
/-! quotient -/
abbrev N_quotient : List Str := [("one" : Str), ("two" : Str)]
abbrev p_quotient : List Str := [("one" : Str), ("two" : Str)]
def g_quotient : Sm := (sRet (mCall F_ratio (mCons (mBin fMul (mBin fIx (mVar 0) (mC (.int 0))) (mBin fIx (mVar 1) (mC (.int 1)))) (mCons (mBin fMul (mBin fIx (mVar 0) (mC (.int 1))) (mBin fIx (mVar 1) (mC (.int 0)))) mNil))))
def F_quotient : List Dt → Option Dt := runF g_quotient 2
theorem nd_quotient : N_quotient.Nodup := by decide +kernel
theorem sc_quotient : FnScope N_quotient p_quotient (defScope (top 14)) := ⟨rfl, rfl, rfl, nd_quotient, rfl, by decide +kernel, by decide +kernel⟩
theorem bd_quotient (G : Gk K mg) (h_ratio : HasP P w K mg base 1 ("ratio" : Str) 2 (spF K 2 F_ratio)) : Bd P w K mg base N_quotient ("quotient" : Str) (defScope (top 14)) 1 f (defBody (top 14)) g_quotient := fun cdv A outer s H E C hr =>
  have nd := nd_quotient
  (ess_one (es_ret (ev_call h_ratio (hr.mono (by decide)) (ea_cons (ev_mul (ev_ix (el_of (ev_var 0)) ev_int) (ev_ix (el_of (ev_var 1)) ev_int)) (ea_cons (ev_mul (ev_ix (el_of (ev_var 0)) ev_int) (ev_ix (el_of (ev_var 1)) ev_int)) ea_nil)) (hl := (mCons_len (mCons_len mNil_len))))))
/-! negative -/
abbrev N_negative : List Str := [("one" : Str)]
abbrev p_negative : List Str := [("one" : Str)]
def g_negative : Sm := (sRet (mTup (mCons (mUn fNeg (mBin fIx (mVar 0) (mC (.int 0)))) (mCons (mBin fIx (mVar 0) (mC (.int 1))) mNil))))
def F_negative : List Dt → Option Dt := runF g_negative 1
theorem nd_negative : N_negative.Nodup := by decide +kernel
theorem sc_negative : FnScope N_negative p_negative (defScope (top 15)) := ⟨rfl, rfl, rfl, nd_negative, rfl, by decide +kernel, by decide +kernel⟩
theorem bd_negative (G : Gk K mg) : Bd P w K mg base N_negative ("negative" : Str) (defScope (top 15)) 0 f (defBody (top 15)) g_negative := fun cdv A outer s H E C hr =>
  have nd := nd_negative
  (ess_one (es_ret (ev_tup (ea_cons (ev_neg (ev_ix (el_of (ev_var 0)) ev_int)) (ea_cons (ev_ix (el_of (ev_var 0)) ev_int) ea_nil)))))
/-! is_less -/
abbrev N_is_less : List Str := [("one" : Str), ("two" : Str)]
abbrev p_is_less : List Str := [("one" : Str), ("two" : Str)]
def g_is_less : Sm := (sRet (mBin fLt (mBin fMul (mBin fIx (mVar 0) (mC (.int 0))) (mBin fIx (mVar 1) (mC (.int 1)))) (mBin fMul (mBin fIx (mVar 1) (mC (.int 0))) (mBin fIx (mVar 0) (mC (.int 1))))))
def F_is_less : List Dt → Option Dt := runF g_is_less 2
theorem nd_is_less : N_is_less.Nodup := by decide +kernel
theorem sc_is_less : FnScope N_is_less p_is_less (defScope (top 16)) := ⟨rfl, rfl, rfl, nd_is_less, rfl, by decide +kernel, by decide +kernel⟩
theorem bd_is_less (G : Gk K mg) : Bd P w K mg base N_is_less ("is_less" : Str) (defScope (top 16)) 0 f (defBody (top 16)) g_is_less := fun cdv A outer s H E C hr =>
  have nd := nd_is_less
  (ess_one (es_ret (ev_lt (el_of (ev_mul (ev_ix (el_of (ev_var 0)) ev_int) (ev_ix (el_of (ev_var 1)) ev_int))) (el_of (ev_mul (ev_ix (el_of (ev_var 1)) ev_int) (ev_ix (el_of (ev_var 0)) ev_int))))))
/-! sign_of_ratio -/
abbrev N_sign_of_ratio : List Str := [("one" : Str)]
abbrev p_sign_of_ratio : List Str := [("one" : Str)]
def g_sign_of_ratio : Sm := (sRet (mBin fSub (mBin fGt (mBin fIx (mVar 0) (mC (.int 0))) (mC (.int 0))) (mBin fLt (mBin fIx (mVar 0) (mC (.int 0))) (mC (.int 0)))))
def F_sign_of_ratio : List Dt → Option Dt := runF g_sign_of_ratio 1
theorem nd_sign_of_ratio : N_sign_of_ratio.Nodup := by decide +kernel
theorem sc_sign_of_ratio : FnScope N_sign_of_ratio p_sign_of_ratio (defScope (top 17)) := ⟨rfl, rfl, rfl, nd_sign_of_ratio, rfl, by decide +kernel, by decide +kernel⟩
theorem bd_sign_of_ratio (G : Gk K mg) : Bd P w K mg base N_sign_of_ratio ("sign_of_ratio" : Str) (defScope (top 17)) 0 f (defBody (top 17)) g_sign_of_ratio := fun cdv A outer s H E C hr =>
  have nd := nd_sign_of_ratio
  (ess_one (es_ret (ev_sub (ev_gt (el_of (ev_ix (el_of (ev_var 0)) ev_int)) (el_of ev_int)) (ev_lt (el_of (ev_ix (el_of (ev_var 0)) ev_int)) (el_of ev_int)))))
/-! sign_by -/
abbrev N_sign_by : List Str := [("first" : Str), ("second" : Str), ("under" : Str), ("one" : Str), ("two" : Str), ("gap" : Str)]
abbrev p_sign_by : List Str := [("first" : Str), ("second" : Str), ("under" : Str)]
def g_sign_by : Sm := (sSeq (sPar [3, 4] (pD (mCall F_sign_of_ratio (mCons (mVar 0) mNil)) (pD (mIf (mTst (mBin fNe (mVar 2) (mC (.tuple [(.int 0), (.int 1)])))) (mCall F_sign_of_ratio (mCons (mVar 1) mNil)) (mC (.int 0))) pNil))) (sSeq (sIf (mTst (mBin fGe (mBin fMul (mVar 3) (mVar 4)) (mC (.int 0)))) (sRet (mIf (mTst (mBin fNe (mVar 3) (mC (.int 0)))) (mVar 3) (mVar 4))) sNil) (sSeq (sSet 5 (mCall F_less_by (mCons (mCall F_product (mCons (mVar 0) (mCons (mVar 0) mNil))) (mCons (mCall F_product (mCons (mCall F_product (mCons (mVar 1) (mCons (mVar 1) mNil))) (mCons (mVar 2) mNil))) mNil)))) (sRet (mBin fMul (mVar 3) (mCall F_sign_of_ratio (mCons (mVar 5) mNil)))))))
def F_sign_by : List Dt → Option Dt := runF g_sign_by 6
theorem nd_sign_by : N_sign_by.Nodup := by decide +kernel
theorem sc_sign_by : FnScope N_sign_by p_sign_by (defScope (top 19)) := ⟨rfl, rfl, rfl, nd_sign_by, rfl, by decide +kernel, by decide +kernel⟩
theorem bd_sign_by (G : Gk K mg) (h_sign_of_ratio : HasP P w K mg base 1 ("sign_of_ratio" : Str) 1 (spF K 1 F_sign_of_ratio)) (h_less_by : HasP P w K mg base 2 ("less_by" : Str) 2 (spF K 2 F_less_by)) (h_product : HasP P w K mg base 2 ("product" : Str) 2 (spF K 2 F_product)) : Bd P w K mg base N_sign_by ("sign_by" : Str) (defScope (top 19)) 2 f (defBody (top 19)) g_sign_by := fun cdv A outer s H E C hr =>
  have nd := nd_sign_by
  (ess_cons (es_par2 3 4 (ep_d (ev_call h_sign_of_ratio (hr.mono (by decide)) (ea_cons (ev_var 0) ea_nil) (hl := (mCons_len mNil_len))) (ep_d (ev_if (et_ne (rm150 hr) (el_of (ev_var 2)) (el_of (ev_glob G.c_ZERO))) (ev_call h_sign_of_ratio (hr.mono (by decide)) (ea_cons (ev_var 1) ea_nil) (hl := (mCons_len mNil_len))) ev_int) ep_nil)) rfl nd) (ess_cons (es_if (et_ge (el_of (ev_mul (ev_var 3) (ev_var 4))) (el_of ev_int)) (ess_one (es_ret (ev_if (et_ne (rm150 hr) (el_of (ev_var 3)) (el_of ev_int)) (ev_var 3) (ev_var 4)))) ess_nil) (ess_cons (es_set 5 (ev_call h_less_by (hr.mono (by decide)) (ea_cons (ev_call h_product (hr.mono (by decide)) (ea_cons (ev_var 0) (ea_cons (ev_var 0) ea_nil)) (hl := (mCons_len (mCons_len mNil_len)))) (ea_cons (ev_call h_product (hr.mono (by decide)) (ea_cons (ev_call h_product (hr.mono (by decide)) (ea_cons (ev_var 1) (ea_cons (ev_var 1) ea_nil)) (hl := (mCons_len (mCons_len mNil_len)))) (ea_cons (ev_var 2) ea_nil)) (hl := (mCons_len (mCons_len mNil_len)))) ea_nil)) (hl := (mCons_len (mCons_len mNil_len)))) nd) (ess_one (es_ret (ev_mul (ev_var 3) (ev_call h_sign_of_ratio (hr.mono (by decide)) (ea_cons (ev_var 5) ea_nil) (hl := (mCons_len mNil_len)))))))))
/-! root_times -/
abbrev N_root_times : List Str := [("one" : Str), ("two" : Str), ("under" : Str), ("first" : Str)]
abbrev p_root_times : List Str := [("one" : Str), ("two" : Str), ("under" : Str)]
def g_root_times : Sm := (sSeq (sSet 3 (mCall F_added (mCons (mCall F_product (mCons (mBin fIx (mVar 0) (mC (.int 0))) (mCons (mBin fIx (mVar 1) (mC (.int 0))) mNil))) (mCons (mCall F_product (mCons (mCall F_product (mCons (mBin fIx (mVar 0) (mC (.int 1))) (mCons (mBin fIx (mVar 1) (mC (.int 1))) mNil))) (mCons (mVar 2) mNil))) mNil)))) (sRet (mTup (mCons (mVar 3) (mCons (mCall F_added (mCons (mCall F_product (mCons (mBin fIx (mVar 0) (mC (.int 0))) (mCons (mBin fIx (mVar 1) (mC (.int 1))) mNil))) (mCons (mCall F_product (mCons (mBin fIx (mVar 0) (mC (.int 1))) (mCons (mBin fIx (mVar 1) (mC (.int 0))) mNil))) mNil))) mNil)))))
def F_root_times : List Dt → Option Dt := runF g_root_times 4
theorem nd_root_times : N_root_times.Nodup := by decide +kernel
theorem sc_root_times : FnScope N_root_times p_root_times (defScope (top 20)) := ⟨rfl, rfl, rfl, nd_root_times, rfl, by decide +kernel, by decide +kernel⟩
theorem bd_root_times (G : Gk K mg) (h_added : HasP P w K mg base 2 ("added" : Str) 2 (spF K 2 F_added)) (h_product : HasP P w K mg base 2 ("product" : Str) 2 (spF K 2 F_product)) : Bd P w K mg base N_root_times ("root_times" : Str) (defScope (top 20)) 2 f (defBody (top 20)) g_root_times := fun cdv A outer s H E C hr =>
  have nd := nd_root_times
  (ess_cons (es_set 3 (ev_call h_added (hr.mono (by decide)) (ea_cons (ev_call h_product (hr.mono (by decide)) (ea_cons (ev_ix (el_of (ev_var 0)) ev_int) (ea_cons (ev_ix (el_of (ev_var 1)) ev_int) ea_nil)) (hl := (mCons_len (mCons_len mNil_len)))) (ea_cons (ev_call h_product (hr.mono (by decide)) (ea_cons (ev_call h_product (hr.mono (by decide)) (ea_cons (ev_ix (el_of (ev_var 0)) ev_int) (ea_cons (ev_ix (el_of (ev_var 1)) ev_int) ea_nil)) (hl := (mCons_len (mCons_len mNil_len)))) (ea_cons (ev_var 2) ea_nil)) (hl := (mCons_len (mCons_len mNil_len)))) ea_nil)) (hl := (mCons_len (mCons_len mNil_len)))) nd) (ess_one (es_ret (ev_tup (ea_cons (ev_var 3) (ea_cons (ev_call h_added (hr.mono (by decide)) (ea_cons (ev_call h_product (hr.mono (by decide)) (ea_cons (ev_ix (el_of (ev_var 0)) ev_int) (ea_cons (ev_ix (el_of (ev_var 1)) ev_int) ea_nil)) (hl := (mCons_len (mCons_len mNil_len)))) (ea_cons (ev_call h_product (hr.mono (by decide)) (ea_cons (ev_ix (el_of (ev_var 0)) ev_int) (ea_cons (ev_ix (el_of (ev_var 1)) ev_int) ea_nil)) (hl := (mCons_len (mCons_len mNil_len)))) ea_nil)) (hl := (mCons_len (mCons_len mNil_len)))) ea_nil))))))
/-! sign_of_two -/
abbrev N_sign_of_two : List Str := [("first" : Str), ("second" : Str), ("under" : Str), ("third" : Str), ("beneath" : Str), ("one" : Str), ("two" : Str), ("square" : Str), ("gap" : Str)]
abbrev p_sign_of_two : List Str := [("first" : Str), ("second" : Str), ("under" : Str), ("third" : Str), ("beneath" : Str)]
def g_sign_of_two : Sm := (sSeq (sPar [5, 6] (pD (mCall F_sign_by (mCons (mVar 0) (mCons (mVar 1) (mCons (mVar 2) mNil)))) (pD (mIf (mTst (mBin fNe (mVar 4) (mC (.tuple [(.int 0), (.int 1)])))) (mCall F_sign_of_ratio (mCons (mVar 3) mNil)) (mC (.int 0))) pNil))) (sSeq (sIf (mTst (mBin fGe (mBin fMul (mVar 5) (mVar 6)) (mC (.int 0)))) (sRet (mIf (mTst (mBin fNe (mVar 5) (mC (.int 0)))) (mVar 5) (mVar 6))) sNil) (sSeq (sSet 7 (mCall F_root_times (mCons (mTup (mCons (mVar 0) (mCons (mVar 1) mNil))) (mCons (mTup (mCons (mVar 0) (mCons (mVar 1) mNil))) (mCons (mVar 2) mNil))))) (sSeq (sSet 8 (mCall F_less_by (mCons (mBin fIx (mVar 7) (mC (.int 0))) (mCons (mCall F_product (mCons (mCall F_product (mCons (mVar 3) (mCons (mVar 3) mNil))) (mCons (mVar 4) mNil))) mNil)))) (sRet (mBin fMul (mVar 5) (mCall F_sign_by (mCons (mVar 8) (mCons (mBin fIx (mVar 7) (mC (.int 1))) (mCons (mVar 2) mNil))))))))))
def F_sign_of_two : List Dt → Option Dt := runF g_sign_of_two 9
theorem nd_sign_of_two : N_sign_of_two.Nodup := by decide +kernel
theorem sc_sign_of_two : FnScope N_sign_of_two p_sign_of_two (defScope (top 21)) := ⟨rfl, rfl, rfl, nd_sign_of_two, rfl, by decide +kernel, by decide +kernel⟩
theorem bd_sign_of_two (G : Gk K mg) (h_sign_of_ratio : HasP P w K mg base 1 ("sign_of_ratio" : Str) 1 (spF K 1 F_sign_of_ratio)) (h_sign_by : HasP P w K mg base 3 ("sign_by" : Str) 3 (spF K 3 F_sign_by)) (h_root_times : HasP P w K mg base 3 ("root_times" : Str) 3 (spF K 3 F_root_times)) (h_less_by : HasP P w K mg base 2 ("less_by" : Str) 2 (spF K 2 F_less_by)) (h_product : HasP P w K mg base 2 ("product" : Str) 2 (spF K 2 F_product)) : Bd P w K mg base N_sign_of_two ("sign_of_two" : Str) (defScope (top 21)) 3 f (defBody (top 21)) g_sign_of_two := fun cdv A outer s H E C hr =>
  have nd := nd_sign_of_two
  (ess_cons (es_par2 5 6 (ep_d (ev_call h_sign_by (hr.mono (by decide)) (ea_cons (ev_var 0) (ea_cons (ev_var 1) (ea_cons (ev_var 2) ea_nil))) (hl := (mCons_len (mCons_len (mCons_len mNil_len))))) (ep_d (ev_if (et_ne (rm150 hr) (el_of (ev_var 4)) (el_of (ev_glob G.c_ZERO))) (ev_call h_sign_of_ratio (hr.mono (by decide)) (ea_cons (ev_var 3) ea_nil) (hl := (mCons_len mNil_len))) ev_int) ep_nil)) rfl nd) (ess_cons (es_if (et_ge (el_of (ev_mul (ev_var 5) (ev_var 6))) (el_of ev_int)) (ess_one (es_ret (ev_if (et_ne (rm150 hr) (el_of (ev_var 5)) (el_of ev_int)) (ev_var 5) (ev_var 6)))) ess_nil) (ess_cons (es_set 7 (ev_call h_root_times (hr.mono (by decide)) (ea_cons (ev_tup (ea_cons (ev_var 0) (ea_cons (ev_var 1) ea_nil))) (ea_cons (ev_tup (ea_cons (ev_var 0) (ea_cons (ev_var 1) ea_nil))) (ea_cons (ev_var 2) ea_nil))) (hl := (mCons_len (mCons_len (mCons_len mNil_len))))) nd) (ess_cons (es_set 8 (ev_call h_less_by (hr.mono (by decide)) (ea_cons (ev_ix (el_of (ev_var 7)) ev_int) (ea_cons (ev_call h_product (hr.mono (by decide)) (ea_cons (ev_call h_product (hr.mono (by decide)) (ea_cons (ev_var 3) (ea_cons (ev_var 3) ea_nil)) (hl := (mCons_len (mCons_len mNil_len)))) (ea_cons (ev_var 4) ea_nil)) (hl := (mCons_len (mCons_len mNil_len)))) ea_nil)) (hl := (mCons_len (mCons_len mNil_len)))) nd) (ess_one (es_ret (ev_mul (ev_var 5) (ev_call h_sign_by (hr.mono (by decide)) (ea_cons (ev_var 8) (ea_cons (ev_ix (el_of (ev_var 7)) ev_int) (ea_cons (ev_var 2) ea_nil))) (hl := (mCons_len (mCons_len (mCons_len mNil_len))))))))))))
/-! compared_by -/
abbrev N_compared_by : List Str := [("number" : Str), ("other" : Str)]
abbrev p_compared_by : List Str := [("number" : Str), ("other" : Str)]
def g_compared_by : Sm := (sRet (mCall F_sign_of_two (mCons (mCall F_less_by (mCons (mBin fIx (mVar 0) (mC (.int 0))) (mCons (mBin fIx (mVar 1) (mC (.int 0))) mNil))) (mCons (mBin fIx (mVar 0) (mC (.int 1))) (mCons (mBin fIx (mVar 0) (mC (.int 2))) (mCons (mCall F_negative (mCons (mBin fIx (mVar 1) (mC (.int 1))) mNil)) (mCons (mBin fIx (mVar 1) (mC (.int 2))) mNil)))))))
def F_compared_by : List Dt → Option Dt := runF g_compared_by 2
theorem nd_compared_by : N_compared_by.Nodup := by decide +kernel
theorem sc_compared_by : FnScope N_compared_by p_compared_by (defScope (top 22)) := ⟨rfl, rfl, rfl, nd_compared_by, rfl, by decide +kernel, by decide +kernel⟩
theorem bd_compared_by (G : Gk K mg) (h_sign_of_two : HasP P w K mg base 4 ("sign_of_two" : Str) 5 (spF K 5 F_sign_of_two)) (h_negative : HasP P w K mg base 1 ("negative" : Str) 1 (spF K 1 F_negative)) (h_less_by : HasP P w K mg base 2 ("less_by" : Str) 2 (spF K 2 F_less_by)) : Bd P w K mg base N_compared_by ("compared_by" : Str) (defScope (top 22)) 4 f (defBody (top 22)) g_compared_by := fun cdv A outer s H E C hr =>
  have nd := nd_compared_by
  (ess_one (es_ret (ev_call h_sign_of_two (hr.mono (by decide)) (ea_cons (ev_call h_less_by (hr.mono (by decide)) (ea_cons (ev_ix (el_of (ev_var 0)) ev_int) (ea_cons (ev_ix (el_of (ev_var 1)) ev_int) ea_nil)) (hl := (mCons_len (mCons_len mNil_len)))) (ea_cons (ev_ix (el_of (ev_var 0)) ev_int) (ea_cons (ev_ix (el_of (ev_var 0)) ev_int) (ea_cons (ev_call h_negative (hr.mono (by decide)) (ea_cons (ev_ix (el_of (ev_var 1)) ev_int) ea_nil) (hl := (mCons_len mNil_len))) (ea_cons (ev_ix (el_of (ev_var 1)) ev_int) ea_nil))))) (hl := (mCons_len (mCons_len (mCons_len (mCons_len (mCons_len mNil_len)))))))))
/-! is_sided -/
abbrev N_is_sided : List Str := [("value" : Str), ("each" : Str)]
abbrev p_is_sided : List Str := [("value" : Str)]
def g_is_sided : Sm := (sSeq (sIf (mOr (mNot (mTst (mUn (gIsi "tuple") (mVar 0)))) (mOr (mTst (mBin fNe (mUn gLen (mVar 0)) (mC (.int 3)))) (mNot (mTst (mUn gAll (mL (mLc (mRow (mVar 0)) (gNm 1) mYes (mCall F_is_ratio (mCons (mVar 1) mNil)) [1]))))))) (sRet (mC (.bool false))) sNil) (sRet (mOrV (mBin fNe (mBin fIx (mVar 0) (mC (.int 0))) (mC (.tuple [(.int 0), (.int 1)]))) (mBin fNe (mBin fIx (mVar 0) (mC (.int 1))) (mC (.tuple [(.int 0), (.int 1)]))))))
def F_is_sided : List Dt → Option Dt := runF g_is_sided 2
theorem nd_is_sided : N_is_sided.Nodup := by decide +kernel
theorem sc_is_sided : FnScope N_is_sided p_is_sided (defScope (top 24)) := ⟨rfl, rfl, rfl, nd_is_sided, rfl, by decide +kernel, by decide +kernel⟩
theorem bd_is_sided (G : Gk K mg) (h_is_ratio : HasP P w K mg base 2 ("is_ratio" : Str) 1 (spF K 1 F_is_ratio)) : Bd P w K mg base N_is_sided ("is_sided" : Str) (defScope (top 24)) 2 f (defBody (top 24)) g_is_sided := fun cdv A outer s H E C hr =>
  have nd := nd_is_sided
  (ess_cons (es_if ((ew_or (et_not (et_val (ev_isi (T := "tuple") G.b_isinstance G.b_tuple (by decide +kernel) (el_of (ev_var 0))))) (ew_or (et_ne (rm150 hr) (el_of (ev_len G.b_len (el_of (ev_var 0)))) (el_of ev_int)) (ew_or1 (et_not (et_val (ev_all rfl G.b_all (el_of (ev_ef (ef_lc [(("each" : Str), 1)] rfl nd (ei_row (ev_var 0)) (blkOk_by (by kernel_rfl)) (fun _ _ _ _ _ => (eg_name 1 nd)) (fun _ _ _ _ _ => ets_nil) (fun _ _ _ _ _ => (ev_call h_is_ratio (hr.mono (by decide)) (ea_cons (ev_var 1) ea_nil) (hl := (mCons_len mNil_len)))))))))))))).et (ess_one (es_ret ev_bl)) ess_nil) (ess_one (es_ret (ev_or (ev_ne (rm150 hr) (el_of (ev_ix (el_of (ev_var 0)) ev_int)) (el_of (ev_glob G.c_ZERO))) (ev_one (ev_ne (rm150 hr) (el_of (ev_ix (el_of (ev_var 0)) ev_int)) (el_of (ev_glob G.c_ZERO))))))))
/-! is_named -/
abbrev N_is_named : List Str := [("value" : Str), ("sign" : Str)]
abbrev p_is_named : List Str := [("value" : Str)]
def g_is_named : Sm := (sSeq (sIf (mOr (mNot (mTst (mUn (gIsi "str") (mVar 0)))) (mOr (mNot (mTst (mCh (fun i j => decide (i ≤ j)) (fun i j => decide (i ≤ j)) (mC (.int 1)) (mUn gLen (mVar 0)) (mC (.int 12))))) (mTst (mBin fIn (mVar 0) (mC (.tuple [(.str ("station" : Str)), (.str ("at" : Str)), (.str ("heard" : Str)), (.str ("from" : Str)), (.str ("to" : Str)), (.str ("side" : Str)), (.str ("up" : Str))])))))) (sRet (mC (.bool false))) sNil) (sRet (mUn gAll (mL (mLc (mRow (mVar 0)) (gNm 1) mYes (mBin fIn (mVar 1) (mC (.str ("abcdefghijklmnopqrstuvwxyz" : Str)))) [1])))))
def F_is_named : List Dt → Option Dt := runF g_is_named 2
theorem nd_is_named : N_is_named.Nodup := by decide +kernel
theorem sc_is_named : FnScope N_is_named p_is_named (defScope (top 32)) := ⟨rfl, rfl, rfl, nd_is_named, rfl, by decide +kernel, by decide +kernel⟩
theorem bd_is_named (G : Gk K mg) : Bd P w K mg base N_is_named ("is_named" : Str) (defScope (top 32)) 0 f (defBody (top 32)) g_is_named := fun cdv A outer s H E C hr =>
  have nd := nd_is_named
  (ess_cons (es_if ((ew_or (et_not (et_val (ev_isi (T := "str") G.b_isinstance G.b_str (by decide +kernel) (el_of (ev_var 0))))) (ew_or (et_not (et_ch op_le op_le (el_of ev_int) (el_of (ev_len G.b_len (el_of (ev_var 0)))) (el_of (ev_glob G.c_MOST_LETTERS)))) (ew_or1 (et_in (rm150 hr) rfl (el_of (ev_var 0)) (el_of (ev_glob G.c_WORDS))))))).et (ess_one (es_ret ev_bl)) ess_nil) (ess_one (es_ret (ev_all rfl G.b_all (el_of (ev_ef (ef_lc [(("sign" : Str), 1)] rfl nd (ei_row (ev_var 0)) (blkOk_by (by kernel_rfl)) (fun _ _ _ _ _ => (eg_name 1 nd)) (fun _ _ _ _ _ => ets_nil) (fun _ _ _ _ _ => (ev_in (rm150 hr) rfl (el_of (ev_var 1)) (el_of (ev_glob G.c_LETTERS)))))))))))
/-! is_row_of -/
abbrev N_is_row_of : List Str := [("value" : Str), ("least" : Str), ("most" : Str)]
abbrev p_is_row_of : List Str := [("value" : Str), ("least" : Str), ("most" : Str)]
def g_is_row_of : Sm := (sRet (mAndV (mUn (gIsi "tuple") (mVar 0)) (mCh (fun i j => decide (i ≤ j)) (fun i j => decide (i ≤ j)) (mVar 1) (mUn gLen (mVar 0)) (mVar 2))))
def F_is_row_of : List Dt → Option Dt := runF g_is_row_of 3
theorem nd_is_row_of : N_is_row_of.Nodup := by decide +kernel
theorem sc_is_row_of : FnScope N_is_row_of p_is_row_of (defScope (top 33)) := ⟨rfl, rfl, rfl, nd_is_row_of, rfl, by decide +kernel, by decide +kernel⟩
theorem bd_is_row_of (G : Gk K mg) : Bd P w K mg base N_is_row_of ("is_row_of" : Str) (defScope (top 33)) 0 f (defBody (top 33)) g_is_row_of := fun cdv A outer s H E C hr =>
  have nd := nd_is_row_of
  (ess_one (es_ret (ev_and (ev_isi (T := "tuple") G.b_isinstance G.b_tuple (by decide +kernel) (el_of (ev_var 0))) (ev_one (ev_ch op_le op_le (el_of (ev_var 1)) (el_of (ev_len G.b_len (el_of (ev_var 0)))) (el_of (ev_var 2)))))))
/-! is_let_end -/
abbrev N_is_let_end : List Str := [("value" : Str)]
abbrev p_is_let_end : List Str := [("value" : Str)]
def g_is_let_end : Sm := (sRet (mOrV (mIsN (mVar 0)) (mCall F_is_ratio (mCons (mVar 0) mNil))))
def F_is_let_end : List Dt → Option Dt := runF g_is_let_end 1
theorem nd_is_let_end : N_is_let_end.Nodup := by decide +kernel
theorem sc_is_let_end : FnScope N_is_let_end p_is_let_end (defScope (top 34)) := ⟨rfl, rfl, rfl, nd_is_let_end, rfl, by decide +kernel, by decide +kernel⟩
theorem bd_is_let_end (G : Gk K mg) (h_is_ratio : HasP P w K mg base 2 ("is_ratio" : Str) 1 (spF K 1 F_is_ratio)) : Bd P w K mg base N_is_let_end ("is_let_end" : Str) (defScope (top 34)) 2 f (defBody (top 34)) g_is_let_end := fun cdv A outer s H E C hr =>
  have nd := nd_is_let_end
  (ess_one (es_ret (ev_or (ev_isN (el_of (ev_var 0))) (ev_one (ev_call h_is_ratio (hr.mono (by decide)) (ea_cons (ev_var 0) ea_nil) (hl := (mCons_len mNil_len)))))))
/-! are_ends -/
abbrev N_are_ends : List Str := [("low" : Str), ("high" : Str)]
abbrev p_are_ends : List Str := [("low" : Str), ("high" : Str)]
def g_are_ends : Sm := (sSeq (sIf (mOr (mTst (mIsN (mVar 0))) (mTst (mIsN (mVar 1)))) (sRet (mOrV (mNotN (mVar 0)) (mNotN (mVar 1)))) sNil) (sRet (mNotV (mCall F_is_less (mCons (mVar 1) (mCons (mVar 0) mNil))))))
def F_are_ends : List Dt → Option Dt := runF g_are_ends 2
theorem nd_are_ends : N_are_ends.Nodup := by decide +kernel
theorem sc_are_ends : FnScope N_are_ends p_are_ends (defScope (top 35)) := ⟨rfl, rfl, rfl, nd_are_ends, rfl, by decide +kernel, by decide +kernel⟩
theorem bd_are_ends (G : Gk K mg) (h_is_less : HasP P w K mg base 1 ("is_less" : Str) 2 (spF K 2 F_is_less)) : Bd P w K mg base N_are_ends ("are_ends" : Str) (defScope (top 35)) 1 f (defBody (top 35)) g_are_ends := fun cdv A outer s H E C hr =>
  have nd := nd_are_ends
  (ess_cons (es_if ((ew_or (et_isN (el_of (ev_var 0))) (ew_or1 (et_isN (el_of (ev_var 1)))))).et (ess_one (es_ret (ev_or (ev_notN (el_of (ev_var 0))) (ev_one (ev_notN (el_of (ev_var 1))))))) ess_nil) (ess_one (es_ret (ev_not (ev_call h_is_less (hr.mono (by decide)) (ea_cons (ev_var 1) (ea_cons (ev_var 0) ea_nil)) (hl := (mCons_len (mCons_len mNil_len))))))))
/-! wrong_in_station -/
abbrev N_wrong_in_station : List Str := [("value" : Str), ("ahead" : Str), ("found" : Str), ("at" : Str), ("each" : Str)]
abbrev p_wrong_in_station : List Str := [("value" : Str), ("ahead" : Str)]
def g_wrong_in_station : Sm := (sSeq (sIf (mNot (mTst (mCall F_is_row_of (mCons (mVar 0) (mCons (mC (.int 3)) (mCons (mC (.int 3)) mNil)))))) (sRet (mLst (mCons (mTup mNil) mNil))) sNil) (sSeq (sIf (mNot (mTst (mCall F_is_named (mCons (mBin fIx (mVar 0) (mC (.int 0))) mNil)))) (sRet (mLst (mCons (mTup (mCons (mC (.int 0)) mNil)) mNil))) sNil) (sSeq (sSet 2 (mL (mLc (mRow (mTup (mCons (mC (.int 1)) (mCons (mC (.int 2)) mNil)))) (gNm 3) (mNot (mTst (mCall F_is_ratio (mCons (mBin fIx (mVar 0) (mVar 3)) mNil)))) (mTup (mCons (mVar 3) mNil)) [3]))) (sSeq (sIf (mTst (mBin fNe (mVar 2) (mLst mNil))) (sRet (mSl (mVar 2) mOn (mOs (mC (.int 1))))) sNil) (sRet (mIf (mTst (mBin fNe (mL (mLc (mRow (mVar 1)) (gNm 4) (mOr (mTst (mBin fEq (mBin fIx (mVar 4) (mC (.int 0))) (mBin fIx (mVar 0) (mC (.int 0))))) (mTst (mBin fEq (mSl (mVar 4) (mOs (mC (.int 1))) mOn) (mSl (mVar 0) (mOs (mC (.int 1))) mOn)))) (mVar 4) [4])) (mLst mNil))) (mLst (mCons (mTup mNil) mNil)) (mLst mNil)))))))
def F_wrong_in_station : List Dt → Option Dt := runF g_wrong_in_station 5
theorem nd_wrong_in_station : N_wrong_in_station.Nodup := by decide +kernel
theorem sc_wrong_in_station : FnScope N_wrong_in_station p_wrong_in_station (defScope (top 36)) := ⟨rfl, rfl, rfl, nd_wrong_in_station, rfl, by decide +kernel, by decide +kernel⟩
theorem bd_wrong_in_station (G : Gk K mg) (h_is_row_of : HasP P w K mg base 1 ("is_row_of" : Str) 3 (spF K 3 F_is_row_of)) (h_is_named : HasP P w K mg base 1 ("is_named" : Str) 1 (spF K 1 F_is_named)) (h_is_ratio : HasP P w K mg base 2 ("is_ratio" : Str) 1 (spF K 1 F_is_ratio)) : Bd P w K mg base N_wrong_in_station ("wrong_in_station" : Str) (defScope (top 36)) 2 f (defBody (top 36)) g_wrong_in_station := fun cdv A outer s H E C hr =>
  have nd := nd_wrong_in_station
  (ess_cons (es_if (et_not (et_val (ev_call h_is_row_of (hr.mono (by decide)) (ea_cons (ev_var 0) (ea_cons ev_int (ea_cons ev_int ea_nil))) (hl := (mCons_len (mCons_len (mCons_len mNil_len))))))) (ess_one (es_ret (ev_lst (ea_cons (ev_tup ea_nil) ea_nil)))) ess_nil) (ess_cons (es_if (et_not (et_val (ev_call h_is_named (hr.mono (by decide)) (ea_cons (ev_ix (el_of (ev_var 0)) ev_int) ea_nil) (hl := (mCons_len mNil_len))))) (ess_one (es_ret (ev_lst (ea_cons (ev_tup (ea_cons ev_int ea_nil)) ea_nil)))) ess_nil) (ess_cons (es_setLcD [(("at" : Str), 3)] 2 rfl nd (ei_row (ev_tup (ea_cons ev_int (ea_cons ev_int ea_nil)))) (blkOk_by (by kernel_rfl)) (fun _ _ _ _ _ => (eg_name 3 nd)) (fun _ _ _ _ _ => (ets_one (et_not (et_val (ev_call h_is_ratio (hr.mono (by decide)) (ea_cons (ev_ix (el_of (ev_var 0)) (ev_var 3)) ea_nil) (hl := (mCons_len mNil_len))))))) (fun _ _ _ _ _ => (ev_tup (ea_cons (ev_var 3) ea_nil))) (sw_true rfl rfl rfl rfl)) (ess_cons (es_if (et_ne (rm150 hr) (el_of (ev_var 2)) (el_of (ev_lst ea_nil))) (ess_one (es_ret (ev_slice (el_of (ev_var 2)) eo_none (eo_some ev_int)))) ess_nil) (ess_one (es_ret (ev_if (et_ne (rm150 hr) (el_of (ev_ef (ef_lc [(("each" : Str), 4)] rfl nd (ei_row (ev_var 1)) (blkOk_by (by kernel_rfl)) (fun _ _ _ _ _ => (eg_name 4 nd)) (fun _ _ _ _ _ => (ets_one ((ew_or (et_eq (rm150 hr) (el_of (ev_ix (el_of (ev_var 4)) ev_int)) (el_of (ev_ix (el_of (ev_var 0)) ev_int))) (ew_or1 (et_eq (rm150 hr) (el_of (ev_slice (el_of (ev_var 4)) (eo_some ev_int) eo_none)) (el_of (ev_slice (el_of (ev_var 0)) (eo_some ev_int) eo_none)))))).et)) (fun _ _ _ _ _ => (ev_var 4))))) (el_of (ev_lst ea_nil))) (ev_lst (ea_cons (ev_tup ea_nil) ea_nil)) (ev_lst ea_nil))))))))
/-! wrong_in_reading -/
abbrev N_wrong_in_reading : List Str := [("value" : Str), ("names" : Str), ("found" : Str), ("at" : Str)]
abbrev p_wrong_in_reading : List Str := [("value" : Str), ("names" : Str)]
def g_wrong_in_reading : Sm := (sSeq (sIf (mNot (mTst (mCall F_is_row_of (mCons (mVar 0) (mCons (mC (.int 3)) (mCons (mC (.int 3)) mNil)))))) (sRet (mLst (mCons (mTup mNil) mNil))) sNil) (sSeq (sIf (mOr (mNot (mTst (mCall F_is_named (mCons (mBin fIx (mVar 0) (mC (.int 0))) mNil)))) (mTst (mBin fNotIn (mBin fIx (mVar 0) (mC (.int 0))) (mVar 1)))) (sRet (mLst (mCons (mTup (mCons (mC (.int 0)) mNil)) mNil))) sNil) (sSeq (sSet 2 (mL (mLc (mRow (mTup (mCons (mC (.int 1)) (mCons (mC (.int 2)) mNil)))) (gNm 3) (mNot (mTst (mCall F_is_let_end (mCons (mBin fIx (mVar 0) (mVar 3)) mNil)))) (mTup (mCons (mVar 3) mNil)) [3]))) (sSeq (sIf (mTst (mBin fNe (mVar 2) (mLst mNil))) (sRet (mSl (mVar 2) mOn (mOs (mC (.int 1))))) sNil) (sRet (mIf (mTst (mCall F_are_ends (mCons (mBin fIx (mVar 0) (mC (.int 1))) (mCons (mBin fIx (mVar 0) (mC (.int 2))) mNil)))) (mLst mNil) (mLst (mCons (mTup mNil) mNil))))))))
def F_wrong_in_reading : List Dt → Option Dt := runF g_wrong_in_reading 4
theorem nd_wrong_in_reading : N_wrong_in_reading.Nodup := by decide +kernel
theorem sc_wrong_in_reading : FnScope N_wrong_in_reading p_wrong_in_reading (defScope (top 37)) := ⟨rfl, rfl, rfl, nd_wrong_in_reading, rfl, by decide +kernel, by decide +kernel⟩
theorem bd_wrong_in_reading (G : Gk K mg) (h_is_row_of : HasP P w K mg base 1 ("is_row_of" : Str) 3 (spF K 3 F_is_row_of)) (h_is_named : HasP P w K mg base 1 ("is_named" : Str) 1 (spF K 1 F_is_named)) (h_is_let_end : HasP P w K mg base 3 ("is_let_end" : Str) 1 (spF K 1 F_is_let_end)) (h_are_ends : HasP P w K mg base 2 ("are_ends" : Str) 2 (spF K 2 F_are_ends)) : Bd P w K mg base N_wrong_in_reading ("wrong_in_reading" : Str) (defScope (top 37)) 3 f (defBody (top 37)) g_wrong_in_reading := fun cdv A outer s H E C hr =>
  have nd := nd_wrong_in_reading
  (ess_cons (es_if (et_not (et_val (ev_call h_is_row_of (hr.mono (by decide)) (ea_cons (ev_var 0) (ea_cons ev_int (ea_cons ev_int ea_nil))) (hl := (mCons_len (mCons_len (mCons_len mNil_len))))))) (ess_one (es_ret (ev_lst (ea_cons (ev_tup ea_nil) ea_nil)))) ess_nil) (ess_cons (es_if ((ew_or (et_not (et_val (ev_call h_is_named (hr.mono (by decide)) (ea_cons (ev_ix (el_of (ev_var 0)) ev_int) ea_nil) (hl := (mCons_len mNil_len))))) (ew_or1 (et_notIn (rm150 hr) rfl (el_of (ev_ix (el_of (ev_var 0)) ev_int)) (el_of (ev_var 1)))))).et (ess_one (es_ret (ev_lst (ea_cons (ev_tup (ea_cons ev_int ea_nil)) ea_nil)))) ess_nil) (ess_cons (es_setLcD [(("at" : Str), 3)] 2 rfl nd (ei_row (ev_tup (ea_cons ev_int (ea_cons ev_int ea_nil)))) (blkOk_by (by kernel_rfl)) (fun _ _ _ _ _ => (eg_name 3 nd)) (fun _ _ _ _ _ => (ets_one (et_not (et_val (ev_call h_is_let_end (hr.mono (by decide)) (ea_cons (ev_ix (el_of (ev_var 0)) (ev_var 3)) ea_nil) (hl := (mCons_len mNil_len))))))) (fun _ _ _ _ _ => (ev_tup (ea_cons (ev_var 3) ea_nil))) (sw_true rfl rfl rfl rfl)) (ess_cons (es_if (et_ne (rm150 hr) (el_of (ev_var 2)) (el_of (ev_lst ea_nil))) (ess_one (es_ret (ev_slice (el_of (ev_var 2)) eo_none (eo_some ev_int)))) ess_nil) (ess_one (es_ret (ev_if (et_val (ev_call h_are_ends (hr.mono (by decide)) (ea_cons (ev_ix (el_of (ev_var 0)) ev_int) (ea_cons (ev_ix (el_of (ev_var 0)) ev_int) ea_nil)) (hl := (mCons_len (mCons_len mNil_len))))) (ev_lst ea_nil) (ev_lst (ea_cons (ev_tup ea_nil) ea_nil)))))))))
/-! wrong_in_side -/
abbrev N_wrong_in_side : List Str := [("value" : Str), ("found" : Str), ("at" : Str)]
abbrev p_wrong_in_side : List Str := [("value" : Str)]
def g_wrong_in_side : Sm := (sSeq (sIf (mNot (mTst (mCall F_is_row_of (mCons (mVar 0) (mCons (mC (.int 3)) (mCons (mC (.int 3)) mNil)))))) (sRet (mLst (mCons (mTup mNil) mNil))) sNil) (sSeq (sSet 1 (mL (mLc (mRng1 (mCons (mC (.int 3)) mNil)) (gNm 2) (mNot (mTst (mCall F_is_ratio (mCons (mBin fIx (mVar 0) (mVar 2)) mNil)))) (mTup (mCons (mVar 2) mNil)) [2]))) (sSeq (sIf (mTst (mBin fNe (mVar 1) (mLst mNil))) (sRet (mSl (mVar 1) mOn (mOs (mC (.int 1))))) sNil) (sRet (mIf (mTst (mCall F_is_sided (mCons (mVar 0) mNil))) (mLst mNil) (mLst (mCons (mTup mNil) mNil)))))))
def F_wrong_in_side : List Dt → Option Dt := runF g_wrong_in_side 3
theorem nd_wrong_in_side : N_wrong_in_side.Nodup := by decide +kernel
theorem sc_wrong_in_side : FnScope N_wrong_in_side p_wrong_in_side (defScope (top 38)) := ⟨rfl, rfl, rfl, nd_wrong_in_side, rfl, by decide +kernel, by decide +kernel⟩
theorem bd_wrong_in_side (G : Gk K mg) (h_is_row_of : HasP P w K mg base 1 ("is_row_of" : Str) 3 (spF K 3 F_is_row_of)) (h_is_ratio : HasP P w K mg base 2 ("is_ratio" : Str) 1 (spF K 1 F_is_ratio)) (h_is_sided : HasP P w K mg base 3 ("is_sided" : Str) 1 (spF K 1 F_is_sided)) : Bd P w K mg base N_wrong_in_side ("wrong_in_side" : Str) (defScope (top 38)) 3 f (defBody (top 38)) g_wrong_in_side := fun cdv A outer s H E C hr =>
  have nd := nd_wrong_in_side
  (ess_cons (es_if (et_not (et_val (ev_call h_is_row_of (hr.mono (by decide)) (ea_cons (ev_var 0) (ea_cons ev_int (ea_cons ev_int ea_nil))) (hl := (mCons_len (mCons_len (mCons_len mNil_len))))))) (ess_one (es_ret (ev_lst (ea_cons (ev_tup ea_nil) ea_nil)))) ess_nil) (ess_cons (es_setLcD [(("at" : Str), 2)] 1 rfl nd (ei_rng1 G.b_range (ea_cons ev_int ea_nil)) (blkOk_by (by kernel_rfl)) (fun _ _ _ _ _ => (eg_name 2 nd)) (fun _ _ _ _ _ => (ets_one (et_not (et_val (ev_call h_is_ratio (hr.mono (by decide)) (ea_cons (ev_ix (el_of (ev_var 0)) (ev_var 2)) ea_nil) (hl := (mCons_len mNil_len))))))) (fun _ _ _ _ _ => (ev_tup (ea_cons (ev_var 2) ea_nil))) (sw_true rfl rfl rfl rfl)) (ess_cons (es_if (et_ne (rm150 hr) (el_of (ev_var 1)) (el_of (ev_lst ea_nil))) (ess_one (es_ret (ev_slice (el_of (ev_var 1)) eo_none (eo_some ev_int)))) ess_nil) (ess_one (es_ret (ev_if (et_val (ev_call h_is_sided (hr.mono (by decide)) (ea_cons (ev_var 0) ea_nil) (hl := (mCons_len mNil_len)))) (ev_lst ea_nil) (ev_lst (ea_cons (ev_tup ea_nil) ea_nil))))))))
/-! wrong_in_stations -/
abbrev N_wrong_in_stations : List Str := [("value" : Str), ("index" : Str), ("station" : Str), ("path" : Str)]
abbrev p_wrong_in_stations : List Str := [("value" : Str)]
def g_wrong_in_stations : Sm := (sSeq (sIf (mNot (mTst (mCall F_is_row_of (mCons (mVar 0) (mCons (mC (.int 1)) (mCons (mC (.int 12)) mNil)))))) (sRet (mLst (mCons (mTup mNil) mNil))) sNil) (sSeq (sFor (mEnum (mCons (mVar 0) mNil)) (gTp (gsCons (gNm 1) (gsCons (gNm 2) gsNil))) (sFor (mRow (mCall F_wrong_in_station (mCons (mVar 2) (mCons (mSl (mVar 0) mOn (mOs (mVar 1))) mNil)))) (gNm 3) (sRet (mLst (mCons mNo mNil))))) (sRet (mLst mNil))))
def F_wrong_in_stations : List Dt → Option Dt := runF g_wrong_in_stations 4
theorem nd_wrong_in_stations : N_wrong_in_stations.Nodup := by decide +kernel
theorem sc_wrong_in_stations : FnScope N_wrong_in_stations p_wrong_in_stations (defScope (top 39)) := ⟨rfl, rfl, rfl, nd_wrong_in_stations, rfl, by decide +kernel, by decide +kernel⟩
theorem bd_wrong_in_stations (G : Gk K mg) (h_is_row_of : HasP P w K mg base 1 ("is_row_of" : Str) 3 (spF K 3 F_is_row_of)) (h_wrong_in_station : HasP P w K mg base 3 ("wrong_in_station" : Str) 2 (spF K 2 F_wrong_in_station)) : Bd P w K mg base N_wrong_in_stations ("wrong_in_stations" : Str) (defScope (top 39)) 3 f (defBody (top 39)) g_wrong_in_stations := fun cdv A outer s H E C hr =>
  have nd := nd_wrong_in_stations
  (ess_cons (es_if (et_not (et_val (ev_call h_is_row_of (hr.mono (by decide)) (ea_cons (ev_var 0) (ea_cons ev_int (ea_cons (ev_glob G.c_MOST_STATIONS) ea_nil))) (hl := (mCons_len (mCons_len (mCons_len mNil_len))))))) (ess_one (es_ret (ev_lst (ea_cons (ev_tup ea_nil) ea_nil)))) ess_nil) (ess_cons (es_for PassesOwn.never rfl (ei_enum G.b_enumerate (ea_cons (ev_var 0) ea_nil)) (eg_tup rfl (egs_cons (eg_name 1 nd) (egs_cons (eg_name 2 nd) egs_nil)) (gsCons_len (gsCons_len (fun _ _ _ _ h => gsNil_len h)))) (ess_one (es_for PassesOwn.never rfl (ei_row (ev_call h_wrong_in_station (hr.mono (by decide)) (ea_cons (ev_var 2) (ea_cons (ev_slice (el_of (ev_var 0)) eo_none (eo_some (ev_var 1))) ea_nil)) (hl := (mCons_len (mCons_len mNil_len))))) (eg_name 3 nd) (ess_one (es_ret (ev_lst (ea_cons ev_no ea_nil))))))) (ess_one (es_ret (ev_lst ea_nil)))))
/-! wrong_in_readings -/
abbrev N_wrong_in_readings : List Str := [("value" : Str), ("names" : Str), ("index" : Str), ("each" : Str), ("path" : Str)]
abbrev p_wrong_in_readings : List Str := [("value" : Str), ("names" : Str)]
def g_wrong_in_readings : Sm := (sSeq (sIf (mNot (mTst (mCall F_is_row_of (mCons (mVar 0) (mCons (mC (.int 0)) (mCons (mC (.int 12)) mNil)))))) (sRet (mLst (mCons (mTup mNil) mNil))) sNil) (sRet (mSl (mL (mLc2E (mEnum (mCons (mVar 0) mNil)) (gTp (gsCons (gNm 2) (gsCons (gNm 3) gsNil))) mYes (mRow (mCall F_wrong_in_reading (mCons (mVar 3) (mCons (mVar 1) mNil)))) [2, 3, 4])) mOn (mOs (mC (.int 1))))))
def F_wrong_in_readings : List Dt → Option Dt := runF g_wrong_in_readings 5
theorem nd_wrong_in_readings : N_wrong_in_readings.Nodup := by decide +kernel
theorem sc_wrong_in_readings : FnScope N_wrong_in_readings p_wrong_in_readings (defScope (top 40)) := ⟨rfl, rfl, rfl, nd_wrong_in_readings, rfl, by decide +kernel, by decide +kernel⟩
theorem bd_wrong_in_readings (G : Gk K mg) (h_is_row_of : HasP P w K mg base 1 ("is_row_of" : Str) 3 (spF K 3 F_is_row_of)) (h_wrong_in_reading : HasP P w K mg base 4 ("wrong_in_reading" : Str) 2 (spF K 2 F_wrong_in_reading)) : Bd P w K mg base N_wrong_in_readings ("wrong_in_readings" : Str) (defScope (top 40)) 4 f (defBody (top 40)) g_wrong_in_readings := fun cdv A outer s H E C hr =>
  have nd := nd_wrong_in_readings
  (ess_cons (es_if (et_not (et_val (ev_call h_is_row_of (hr.mono (by decide)) (ea_cons (ev_var 0) (ea_cons ev_int (ea_cons (ev_glob G.c_MOST_READINGS) ea_nil))) (hl := (mCons_len (mCons_len (mCons_len mNil_len))))))) (ess_one (es_ret (ev_lst (ea_cons (ev_tup ea_nil) ea_nil)))) ess_nil) (ess_one (es_ret (ev_slice (el_of (ev_ef (ef_lc2e [(("index" : Str), 2), (("each" : Str), 3), (("path" : Str), 4)] [4] rfl nd (ei_enum G.b_enumerate (ea_cons (ev_var 0) ea_nil)) (blkOk_by (by kernel_rfl)) (by decide) (fun _ _ _ _ _ => (eg_tup rfl (egs_cons (eg_name 2 nd) (egs_cons (eg_name 3 nd) egs_nil)) (gsCons_len (gsCons_len (fun _ _ _ _ h => gsNil_len h))))) (fun _ _ _ _ _ => ets_nil) (fun _ _ _ _ _ => (ei_row (ev_call h_wrong_in_reading (hr.mono (by decide)) (ea_cons (ev_var 3) (ea_cons (ev_var 1) ea_nil)) (hl := (mCons_len (mCons_len mNil_len)))))) (fun _ _ _ _ _ => (eg_name 4 nd)) (fun _ _ _ _ _ => ets_nil)))) eo_none (eo_some ev_int)))))
/-! wrong_in_sides -/
abbrev N_wrong_in_sides : List Str := [("value" : Str), ("index" : Str), ("each" : Str), ("path" : Str)]
abbrev p_wrong_in_sides : List Str := [("value" : Str)]
def g_wrong_in_sides : Sm := (sSeq (sIf (mNot (mTst (mCall F_is_row_of (mCons (mVar 0) (mCons (mC (.int 0)) (mCons (mC (.int 8)) mNil)))))) (sRet (mLst (mCons (mTup mNil) mNil))) sNil) (sRet (mSl (mL (mLc2E (mEnum (mCons (mVar 0) mNil)) (gTp (gsCons (gNm 1) (gsCons (gNm 2) gsNil))) mYes (mRow (mCall F_wrong_in_side (mCons (mVar 2) mNil))) [1, 2, 3])) mOn (mOs (mC (.int 1))))))
def F_wrong_in_sides : List Dt → Option Dt := runF g_wrong_in_sides 4
theorem nd_wrong_in_sides : N_wrong_in_sides.Nodup := by decide +kernel
theorem sc_wrong_in_sides : FnScope N_wrong_in_sides p_wrong_in_sides (defScope (top 41)) := ⟨rfl, rfl, rfl, nd_wrong_in_sides, rfl, by decide +kernel, by decide +kernel⟩
theorem bd_wrong_in_sides (G : Gk K mg) (h_is_row_of : HasP P w K mg base 1 ("is_row_of" : Str) 3 (spF K 3 F_is_row_of)) (h_wrong_in_side : HasP P w K mg base 4 ("wrong_in_side" : Str) 1 (spF K 1 F_wrong_in_side)) : Bd P w K mg base N_wrong_in_sides ("wrong_in_sides" : Str) (defScope (top 41)) 4 f (defBody (top 41)) g_wrong_in_sides := fun cdv A outer s H E C hr =>
  have nd := nd_wrong_in_sides
  (ess_cons (es_if (et_not (et_val (ev_call h_is_row_of (hr.mono (by decide)) (ea_cons (ev_var 0) (ea_cons ev_int (ea_cons (ev_glob G.c_MOST_SIDES) ea_nil))) (hl := (mCons_len (mCons_len (mCons_len mNil_len))))))) (ess_one (es_ret (ev_lst (ea_cons (ev_tup ea_nil) ea_nil)))) ess_nil) (ess_one (es_ret (ev_slice (el_of (ev_ef (ef_lc2e [(("index" : Str), 1), (("each" : Str), 2), (("path" : Str), 3)] [3] rfl nd (ei_enum G.b_enumerate (ea_cons (ev_var 0) ea_nil)) (blkOk_by (by kernel_rfl)) (by decide) (fun _ _ _ _ _ => (eg_tup rfl (egs_cons (eg_name 1 nd) (egs_cons (eg_name 2 nd) egs_nil)) (gsCons_len (gsCons_len (fun _ _ _ _ h => gsNil_len h))))) (fun _ _ _ _ _ => ets_nil) (fun _ _ _ _ _ => (ei_row (ev_call h_wrong_in_side (hr.mono (by decide)) (ea_cons (ev_var 2) ea_nil) (hl := (mCons_len mNil_len))))) (fun _ _ _ _ _ => (eg_name 3 nd)) (fun _ _ _ _ _ => ets_nil)))) eo_none (eo_some ev_int)))))
/-! wrong_in_scene -/
abbrev N_wrong_in_scene : List Str := [("value" : Str), ("found" : Str), ("path" : Str), ("station" : Str)]
abbrev p_wrong_in_scene : List Str := [("value" : Str)]
def g_wrong_in_scene : Sm := (sSeq (sIf (mNot (mTst (mCall F_is_row_of (mCons (mVar 0) (mCons (mC (.int 3)) (mCons (mC (.int 3)) mNil)))))) (sRet (mLst (mCons (mTup mNil) mNil))) sNil) (sSeq (sSet 1 (mL (mLc (mRow (mCall F_wrong_in_stations (mCons (mBin fIx (mVar 0) (mC (.int 0))) mNil))) (gNm 2) mYes mNo [2]))) (sSeq (sIf (mTst (mBin fEq (mVar 1) (mLst mNil))) (sSet 1 (mL (mLc (mRow (mCall F_wrong_in_readings (mCons (mBin fIx (mVar 0) (mC (.int 1))) (mCons (mL (mLc (mRow (mBin fIx (mVar 0) (mC (.int 0)))) (gNm 3) mYes (mBin fIx (mVar 3) (mC (.int 0))) [3])) mNil)))) (gNm 2) mYes mNo [2]))) sNil) (sRet (mIf (mTst (mBin fNe (mVar 1) (mLst mNil))) (mVar 1) (mL (mLc (mRow (mCall F_wrong_in_sides (mCons (mBin fIx (mVar 0) (mC (.int 2))) mNil))) (gNm 2) mYes mNo [2])))))))
def F_wrong_in_scene : List Dt → Option Dt := runF g_wrong_in_scene 4
theorem nd_wrong_in_scene : N_wrong_in_scene.Nodup := by decide +kernel
theorem sc_wrong_in_scene : FnScope N_wrong_in_scene p_wrong_in_scene (defScope (top 42)) := ⟨rfl, rfl, rfl, nd_wrong_in_scene, rfl, by decide +kernel, by decide +kernel⟩
theorem bd_wrong_in_scene (G : Gk K mg) (h_is_row_of : HasP P w K mg base 1 ("is_row_of" : Str) 3 (spF K 3 F_is_row_of)) (h_wrong_in_stations : HasP P w K mg base 4 ("wrong_in_stations" : Str) 1 (spF K 1 F_wrong_in_stations)) (h_wrong_in_readings : HasP P w K mg base 5 ("wrong_in_readings" : Str) 2 (spF K 2 F_wrong_in_readings)) (h_wrong_in_sides : HasP P w K mg base 5 ("wrong_in_sides" : Str) 1 (spF K 1 F_wrong_in_sides)) : Bd P w K mg base N_wrong_in_scene ("wrong_in_scene" : Str) (defScope (top 42)) 5 f (defBody (top 42)) g_wrong_in_scene := fun cdv A outer s H E C hr =>
  have nd := nd_wrong_in_scene
  (ess_cons (es_if (et_not (et_val (ev_call h_is_row_of (hr.mono (by decide)) (ea_cons (ev_var 0) (ea_cons ev_int (ea_cons ev_int ea_nil))) (hl := (mCons_len (mCons_len (mCons_len mNil_len))))))) (ess_one (es_ret (ev_lst (ea_cons (ev_tup ea_nil) ea_nil)))) ess_nil) (ess_cons (es_setLcD [(("path" : Str), 2)] 1 rfl nd (ei_row (ev_call h_wrong_in_stations (hr.mono (by decide)) (ea_cons (ev_ix (el_of (ev_var 0)) ev_int) ea_nil) (hl := (mCons_len mNil_len)))) (blkOk_by (by kernel_rfl)) (fun _ _ _ _ _ => (eg_name 2 nd)) (fun _ _ _ _ _ => ets_nil) (fun _ _ _ _ _ => ev_no) (sw_true rfl rfl rfl rfl)) (ess_cons (es_if (et_eq (rm150 hr) (el_of (ev_var 1)) (el_of (ev_lst ea_nil))) (ess_one (es_setLcD [(("path" : Str), 2)] 1 rfl nd (ei_row (ev_call h_wrong_in_readings (hr.mono (by decide)) (ea_cons (ev_ix (el_of (ev_var 0)) ev_int) (ea_cons (ev_ef (ef_lc [(("station" : Str), 3)] rfl nd (ei_row (ev_ix (el_of (ev_var 0)) ev_int)) (blkOk_by (by kernel_rfl)) (fun _ _ _ _ _ => (eg_name 3 nd)) (fun _ _ _ _ _ => ets_nil) (fun _ _ _ _ _ => (ev_ix (el_of (ev_var 3)) ev_int)))) ea_nil)) (hl := (mCons_len (mCons_len mNil_len))))) (blkOk_by (by kernel_rfl)) (fun _ _ _ _ _ => (eg_name 2 nd)) (fun _ _ _ _ _ => ets_nil) (fun _ _ _ _ _ => ev_no) (sw_true rfl rfl rfl rfl))) ess_nil) (ess_one (es_ret (ev_if (et_ne (rm150 hr) (el_of (ev_var 1)) (el_of (ev_lst ea_nil))) (ev_var 1) (ev_ef (ef_lc [(("path" : Str), 2)] rfl nd (ei_row (ev_call h_wrong_in_sides (hr.mono (by decide)) (ea_cons (ev_ix (el_of (ev_var 0)) ev_int) ea_nil) (hl := (mCons_len mNil_len)))) (blkOk_by (by kernel_rfl)) (fun _ _ _ _ _ => (eg_name 2 nd)) (fun _ _ _ _ _ => ets_nil) (fun _ _ _ _ _ => ev_no)))))))))
/-! rows_by -/
abbrev N_rows_by : List Str := [("scene" : Str), ("found" : Str), ("index" : Str), ("_" : Str), ("low" : Str), ("high" : Str)]
abbrev p_rows_by : List Str := [("scene" : Str)]
def g_rows_by : Sm := (sSeq (sOwn 1 (mDisp mNil)) (sSeq (sFor (mEnum (mCons (mBin fIx (mVar 0) (mC (.int 1))) mNil)) (gTp (gsCons (gNm 2) (gsCons (gTp (gsCons (gNm 3) (gsCons (gNm 4) (gsCons (gNm 5) gsNil)))) gsNil))) (sSeq (sExt 1 (mIf (mTst (mNotN (mVar 5))) (mLst (mCons (mTup (mCons (mC (.str ("high" : Str))) (mCons (mVar 2) mNil))) mNil)) (mLst mNil))) (sExt 1 (mIf (mTst (mNotN (mVar 4))) (mLst (mCons (mTup (mCons (mC (.str ("low" : Str))) (mCons (mVar 2) mNil))) mNil)) (mLst mNil))))) (sFrz 1 (sRet (mUn gTuple (mBin fAdd (mVar 1) (mL (mLc (mRng1 (mCons (mUn gLen (mBin fIx (mVar 0) (mC (.int 2)))) mNil)) (gNm 2) mYes (mTup (mCons (mC (.str ("side" : Str))) (mCons (mVar 2) mNil))) [2]))))))))
def F_rows_by : List Dt → Option Dt := runF g_rows_by 6
theorem nd_rows_by : N_rows_by.Nodup := by decide +kernel
theorem sc_rows_by : FnScope N_rows_by p_rows_by (defScope (top 43)) := ⟨rfl, rfl, rfl, nd_rows_by, rfl, by decide +kernel, by decide +kernel⟩
theorem bd_rows_by (G : Gk K mg) : Bd P w K mg base N_rows_by ("rows_by" : Str) (defScope (top 43)) 0 f (defBody (top 43)) g_rows_by := fun cdv A outer s H E C hr =>
  have nd := nd_rows_by
  (ess_cons (es_own 1 (ef_lst ea_nil) nd) (ess_cons (es_for PassesOwn.never rfl (ei_enum G.b_enumerate (ea_cons (ev_ix (el_of (ev_var 0)) ev_int) ea_nil)) (eg_tup rfl (egs_cons (eg_name 2 nd) (egs_cons (eg_tup rfl (egs_cons (eg_name 3 nd) (egs_cons (eg_name 4 nd) (egs_cons (eg_name 5 nd) egs_nil))) (gsCons_len (gsCons_len (gsCons_len (fun _ _ _ _ h => gsNil_len h))))) egs_nil)) (gsCons_len (gsCons_len (fun _ _ _ _ h => gsNil_len h)))) (ess_cons (es_ext 1 (ev_if (et_notN (el_of (ev_var 5))) (ev_lst (ea_cons (ev_tup (ea_cons ev_str (ea_cons (ev_var 2) ea_nil))) ea_nil)) (ev_lst ea_nil))) (ess_one (es_ext 1 (ev_if (et_notN (el_of (ev_var 4))) (ev_lst (ea_cons (ev_tup (ea_cons ev_str (ea_cons (ev_var 2) ea_nil))) ea_nil)) (ev_lst ea_nil)))))) (ess_frz 1 (ess_one (es_ret (ev_tuple G.b_tuple (el_of (ev_add (ev_var 1) (ev_ef (ef_lc [(("index" : Str), 2)] rfl nd (ei_rng1 G.b_range (ea_cons (ev_len G.b_len (el_of (ev_ix (el_of (ev_var 0)) ev_int))) ea_nil)) (blkOk_by (by kernel_rfl)) (fun _ _ _ _ _ => (eg_name 2 nd)) (fun _ _ _ _ _ => ets_nil) (fun _ _ _ _ _ => (ev_tup (ea_cons ev_str (ea_cons (ev_var 2) ea_nil))))))))))))))
/-! place_of -/
abbrev N_place_of : List Str := [("scene" : Str), ("name" : Str), ("station" : Str)]
abbrev p_place_of : List Str := [("scene" : Str), ("name" : Str)]
def g_place_of : Sm := (sRet (mBin fIx (mL (mLc (mRow (mBin fIx (mVar 0) (mC (.int 0)))) (gNm 2) (mTst (mBin fEq (mBin fIx (mVar 2) (mC (.int 0))) (mVar 1))) (mSl (mVar 2) (mOs (mC (.int 1))) mOn) [2])) (mC (.int 0))))
def F_place_of : List Dt → Option Dt := runF g_place_of 3
theorem nd_place_of : N_place_of.Nodup := by decide +kernel
theorem sc_place_of : FnScope N_place_of p_place_of (defScope (top 44)) := ⟨rfl, rfl, rfl, nd_place_of, rfl, by decide +kernel, by decide +kernel⟩
theorem bd_place_of (G : Gk K mg) : Bd P w K mg base N_place_of ("place_of" : Str) (defScope (top 44)) 0 f (defBody (top 44)) g_place_of := fun cdv A outer s H E C hr =>
  have nd := nd_place_of
  (ess_one (es_ret (ev_ix (el_of (ev_ef (ef_lc [(("station" : Str), 2)] rfl nd (ei_row (ev_ix (el_of (ev_var 0)) ev_int)) (blkOk_by (by kernel_rfl)) (fun _ _ _ _ _ => (eg_name 2 nd)) (fun _ _ _ _ _ => (ets_one (et_eq (rm150 hr) (el_of (ev_ix (el_of (ev_var 2)) ev_int)) (el_of (ev_var 1))))) (fun _ _ _ _ _ => (ev_slice (el_of (ev_var 2)) (eo_some ev_int) eo_none))))) ev_int)))
/-! told_moment -/
abbrev N_told_moment : List Str := [("scene" : Str), ("row" : Str), ("_" : Str), ("low" : Str), ("high" : Str)]
abbrev p_told_moment : List Str := [("scene" : Str), ("row" : Str)]
def g_told_moment : Sm := (sSeq (sAsg (mBin fIx (mBin fIx (mVar 0) (mC (.int 1))) (mBin fIx (mVar 1) (mC (.int 1)))) (gTp (gsCons (gNm 2) (gsCons (gNm 3) (gsCons (gNm 4) gsNil))))) (sRet (mIf (mTst (mBin fEq (mBin fIx (mVar 1) (mC (.int 0))) (mC (.str ("high" : Str))))) (mVar 4) (mVar 3))))
def F_told_moment : List Dt → Option Dt := runF g_told_moment 5
theorem nd_told_moment : N_told_moment.Nodup := by decide +kernel
theorem sc_told_moment : FnScope N_told_moment p_told_moment (defScope (top 45)) := ⟨rfl, rfl, rfl, nd_told_moment, rfl, by decide +kernel, by decide +kernel⟩
theorem bd_told_moment (G : Gk K mg) : Bd P w K mg base N_told_moment ("told_moment" : Str) (defScope (top 45)) 0 f (defBody (top 45)) g_told_moment := fun cdv A outer s H E C hr =>
  have nd := nd_told_moment
  (ess_cons (es_asg (ev_ix (el_of (ev_ix (el_of (ev_var 0)) ev_int)) (ev_ix (el_of (ev_var 1)) ev_int)) (eg_tup rfl (egs_cons (eg_name 2 nd) (egs_cons (eg_name 3 nd) (egs_cons (eg_name 4 nd) egs_nil))) (gsCons_len (gsCons_len (gsCons_len (fun _ _ _ _ h => gsNil_len h)))))) (ess_one (es_ret (ev_if (et_eq (rm150 hr) (el_of (ev_ix (el_of (ev_var 1)) ev_int)) (el_of ev_str)) (ev_var 4) (ev_var 3)))))
/-! station_of -/
abbrev N_station_of : List Str := [("scene" : Str), ("row" : Str)]
abbrev p_station_of : List Str := [("scene" : Str), ("row" : Str)]
def g_station_of : Sm := (sRet (mCall F_place_of (mCons (mVar 0) (mCons (mBin fIx (mBin fIx (mBin fIx (mVar 0) (mC (.int 1))) (mBin fIx (mVar 1) (mC (.int 1)))) (mC (.int 0))) mNil))))
def F_station_of : List Dt → Option Dt := runF g_station_of 2
theorem nd_station_of : N_station_of.Nodup := by decide +kernel
theorem sc_station_of : FnScope N_station_of p_station_of (defScope (top 46)) := ⟨rfl, rfl, rfl, nd_station_of, rfl, by decide +kernel, by decide +kernel⟩
theorem bd_station_of (G : Gk K mg) (h_place_of : HasP P w K mg base 1 ("place_of" : Str) 2 (spF K 2 F_place_of)) : Bd P w K mg base N_station_of ("station_of" : Str) (defScope (top 46)) 1 f (defBody (top 46)) g_station_of := fun cdv A outer s H E C hr =>
  have nd := nd_station_of
  (ess_one (es_ret (ev_call h_place_of (hr.mono (by decide)) (ea_cons (ev_var 0) (ea_cons (ev_ix (el_of (ev_ix (el_of (ev_ix (el_of (ev_var 0)) ev_int)) (ev_ix (el_of (ev_var 1)) ev_int))) ev_int) ea_nil)) (hl := (mCons_len (mCons_len mNil_len))))))
/-! made_row -/
abbrev N_made_row : List Str := [("scene" : Str), ("row" : Str), ("side" : Str)]
abbrev p_made_row : List Str := [("scene" : Str), ("row" : Str)]
def g_made_row : Sm := (sSeq (sIf (mTst (mBin fEq (mBin fIx (mVar 1) (mC (.int 0))) (mC (.str ("side" : Str))))) (sSeq (sSet 2 (mBin fIx (mBin fIx (mVar 0) (mC (.int 2))) (mBin fIx (mVar 1) (mC (.int 1))))) (sRet (mTup (mCons (mC (.str ("side" : Str))) (mCons (mSl (mVar 2) mOn (mOs (mC (.int 2)))) (mCons (mBin fIx (mVar 2) (mC (.int 2))) mNil)))))) sNil) (sRet (mTup (mCons (mBin fIx (mVar 1) (mC (.int 0))) (mCons (mCall F_station_of (mCons (mVar 0) (mCons (mVar 1) mNil))) (mCons (mCall F_told_moment (mCons (mVar 0) (mCons (mVar 1) mNil))) mNil))))))
def F_made_row : List Dt → Option Dt := runF g_made_row 3
theorem nd_made_row : N_made_row.Nodup := by decide +kernel
theorem sc_made_row : FnScope N_made_row p_made_row (defScope (top 47)) := ⟨rfl, rfl, rfl, nd_made_row, rfl, by decide +kernel, by decide +kernel⟩
theorem bd_made_row (G : Gk K mg) (h_told_moment : HasP P w K mg base 1 ("told_moment" : Str) 2 (spF K 2 F_told_moment)) (h_station_of : HasP P w K mg base 2 ("station_of" : Str) 2 (spF K 2 F_station_of)) : Bd P w K mg base N_made_row ("made_row" : Str) (defScope (top 47)) 2 f (defBody (top 47)) g_made_row := fun cdv A outer s H E C hr =>
  have nd := nd_made_row
  (ess_cons (es_if (et_eq (rm150 hr) (el_of (ev_ix (el_of (ev_var 1)) ev_int)) (el_of ev_str)) (ess_cons (es_set 2 (ev_ix (el_of (ev_ix (el_of (ev_var 0)) ev_int)) (ev_ix (el_of (ev_var 1)) ev_int)) nd) (ess_one (es_ret (ev_tup (ea_cons ev_str (ea_cons (ev_slice (el_of (ev_var 2)) eo_none (eo_some ev_int)) (ea_cons (ev_ix (el_of (ev_var 2)) ev_int) ea_nil))))))) ess_nil) (ess_one (es_ret (ev_tup (ea_cons (ev_ix (el_of (ev_var 1)) ev_int) (ea_cons (ev_call h_station_of (hr.mono (by decide)) (ea_cons (ev_var 0) (ea_cons (ev_var 1) ea_nil)) (hl := (mCons_len (mCons_len mNil_len)))) (ea_cons (ev_call h_told_moment (hr.mono (by decide)) (ea_cons (ev_var 0) (ea_cons (ev_var 1) ea_nil)) (hl := (mCons_len (mCons_len mNil_len)))) ea_nil)))))))
/-! made_rows -/
abbrev N_made_rows : List Str := [("scene" : Str), ("row" : Str)]
abbrev p_made_rows : List Str := [("scene" : Str)]
def g_made_rows : Sm := (sRet (mL (mLc (mRow (mCall F_rows_by (mCons (mVar 0) mNil))) (gNm 1) mYes (mCall F_made_row (mCons (mVar 0) (mCons (mVar 1) mNil))) [1])))
def F_made_rows : List Dt → Option Dt := runF g_made_rows 2
theorem nd_made_rows : N_made_rows.Nodup := by decide +kernel
theorem sc_made_rows : FnScope N_made_rows p_made_rows (defScope (top 48)) := ⟨rfl, rfl, rfl, nd_made_rows, rfl, by decide +kernel, by decide +kernel⟩
theorem bd_made_rows (G : Gk K mg) (h_rows_by : HasP P w K mg base 1 ("rows_by" : Str) 1 (spF K 1 F_rows_by)) (h_made_row : HasP P w K mg base 3 ("made_row" : Str) 2 (spF K 2 F_made_row)) : Bd P w K mg base N_made_rows ("made_rows" : Str) (defScope (top 48)) 3 f (defBody (top 48)) g_made_rows := fun cdv A outer s H E C hr =>
  have nd := nd_made_rows
  (ess_one (es_ret (ev_ef (ef_lc [(("row" : Str), 1)] rfl nd (ei_row (ev_call h_rows_by (hr.mono (by decide)) (ea_cons (ev_var 0) ea_nil) (hl := (mCons_len mNil_len)))) (blkOk_by (by kernel_rfl)) (fun _ _ _ _ _ => (eg_name 1 nd)) (fun _ _ _ _ _ => ets_nil) (fun _ _ _ _ _ => (ev_call h_made_row (hr.mono (by decide)) (ea_cons (ev_var 0) (ea_cons (ev_var 1) ea_nil)) (hl := (mCons_len (mCons_len mNil_len)))))))))
/-! square_between -/
abbrev N_square_between : List Str := [("one" : Str), ("two" : Str), ("across" : Str), ("up" : Str)]
abbrev p_square_between : List Str := [("one" : Str), ("two" : Str)]
def g_square_between : Sm := (sSeq (sPar [2, 3] (pD (mCall F_less_by (mCons (mBin fIx (mVar 0) (mC (.int 0))) (mCons (mBin fIx (mVar 1) (mC (.int 0))) mNil))) (pD (mCall F_less_by (mCons (mBin fIx (mVar 0) (mC (.int 1))) (mCons (mBin fIx (mVar 1) (mC (.int 1))) mNil))) pNil))) (sRet (mCall F_added (mCons (mCall F_product (mCons (mVar 2) (mCons (mVar 2) mNil))) (mCons (mCall F_product (mCons (mVar 3) (mCons (mVar 3) mNil))) mNil)))))
def F_square_between : List Dt → Option Dt := runF g_square_between 4
theorem nd_square_between : N_square_between.Nodup := by decide +kernel
theorem sc_square_between : FnScope N_square_between p_square_between (defScope (top 49)) := ⟨rfl, rfl, rfl, nd_square_between, rfl, by decide +kernel, by decide +kernel⟩
theorem bd_square_between (G : Gk K mg) (h_less_by : HasP P w K mg base 2 ("less_by" : Str) 2 (spF K 2 F_less_by)) (h_added : HasP P w K mg base 2 ("added" : Str) 2 (spF K 2 F_added)) (h_product : HasP P w K mg base 2 ("product" : Str) 2 (spF K 2 F_product)) : Bd P w K mg base N_square_between ("square_between" : Str) (defScope (top 49)) 2 f (defBody (top 49)) g_square_between := fun cdv A outer s H E C hr =>
  have nd := nd_square_between
  (ess_cons (es_par2 2 3 (ep_d (ev_call h_less_by (hr.mono (by decide)) (ea_cons (ev_ix (el_of (ev_var 0)) ev_int) (ea_cons (ev_ix (el_of (ev_var 1)) ev_int) ea_nil)) (hl := (mCons_len (mCons_len mNil_len)))) (ep_d (ev_call h_less_by (hr.mono (by decide)) (ea_cons (ev_ix (el_of (ev_var 0)) ev_int) (ea_cons (ev_ix (el_of (ev_var 1)) ev_int) ea_nil)) (hl := (mCons_len (mCons_len mNil_len)))) ep_nil)) rfl nd) (ess_one (es_ret (ev_call h_added (hr.mono (by decide)) (ea_cons (ev_call h_product (hr.mono (by decide)) (ea_cons (ev_var 2) (ea_cons (ev_var 2) ea_nil)) (hl := (mCons_len (mCons_len mNil_len)))) (ea_cons (ev_call h_product (hr.mono (by decide)) (ea_cons (ev_var 3) (ea_cons (ev_var 3) ea_nil)) (hl := (mCons_len (mCons_len mNil_len)))) ea_nil)) (hl := (mCons_len (mCons_len mNil_len)))))))
/-! is_within -/
abbrev N_is_within : List Str := [("scene" : Str), ("place" : Str), ("across" : Str), ("up" : Str), ("most" : Str)]
abbrev p_is_within : List Str := [("scene" : Str), ("place" : Str)]
def g_is_within : Sm := (sSeq (sFor (mRow (mBin fIx (mVar 0) (mC (.int 2)))) (gTp (gsCons (gNm 2) (gsCons (gNm 3) (gsCons (gNm 4) gsNil)))) (sIf (mTst (mCall F_is_less (mCons (mVar 4) (mCons (mCall F_added (mCons (mCall F_product (mCons (mVar 2) (mCons (mBin fIx (mVar 1) (mC (.int 0))) mNil))) (mCons (mCall F_product (mCons (mVar 3) (mCons (mBin fIx (mVar 1) (mC (.int 1))) mNil))) mNil))) mNil)))) (sRet (mC (.bool false))) sNil)) (sRet (mC (.bool true))))
def F_is_within : List Dt → Option Dt := runF g_is_within 5
theorem nd_is_within : N_is_within.Nodup := by decide +kernel
theorem sc_is_within : FnScope N_is_within p_is_within (defScope (top 50)) := ⟨rfl, rfl, rfl, nd_is_within, rfl, by decide +kernel, by decide +kernel⟩
theorem bd_is_within (G : Gk K mg) (h_is_less : HasP P w K mg base 1 ("is_less" : Str) 2 (spF K 2 F_is_less)) (h_added : HasP P w K mg base 2 ("added" : Str) 2 (spF K 2 F_added)) (h_product : HasP P w K mg base 2 ("product" : Str) 2 (spF K 2 F_product)) : Bd P w K mg base N_is_within ("is_within" : Str) (defScope (top 50)) 2 f (defBody (top 50)) g_is_within := fun cdv A outer s H E C hr =>
  have nd := nd_is_within
  (ess_cons (es_for PassesOwn.never rfl (ei_row (ev_ix (el_of (ev_var 0)) ev_int)) (eg_tup rfl (egs_cons (eg_name 2 nd) (egs_cons (eg_name 3 nd) (egs_cons (eg_name 4 nd) egs_nil))) (gsCons_len (gsCons_len (gsCons_len (fun _ _ _ _ h => gsNil_len h))))) (ess_one (es_if (et_val (ev_call h_is_less (hr.mono (by decide)) (ea_cons (ev_var 4) (ea_cons (ev_call h_added (hr.mono (by decide)) (ea_cons (ev_call h_product (hr.mono (by decide)) (ea_cons (ev_var 2) (ea_cons (ev_ix (el_of (ev_var 1)) ev_int) ea_nil)) (hl := (mCons_len (mCons_len mNil_len)))) (ea_cons (ev_call h_product (hr.mono (by decide)) (ea_cons (ev_var 3) (ea_cons (ev_ix (el_of (ev_var 1)) ev_int) ea_nil)) (hl := (mCons_len (mCons_len mNil_len)))) ea_nil)) (hl := (mCons_len (mCons_len mNil_len)))) ea_nil)) (hl := (mCons_len (mCons_len mNil_len))))) (ess_one (es_ret ev_bl)) ess_nil))) (ess_one (es_ret ev_bl)))
/-! total -/
abbrev N_total : List Str := [("numbers" : Str), ("found" : Str), ("number" : Str)]
abbrev p_total : List Str := [("numbers" : Str)]
def g_total : Sm := (sSeq (sSet 1 (mC (.tuple [(.int 0), (.int 1)]))) (sSeq (sFor (mRow (mVar 0)) (gNm 2) (sSet 1 (mCall F_added (mCons (mVar 1) (mCons (mVar 2) mNil))))) (sRet (mVar 1))))
def F_total : List Dt → Option Dt := runF g_total 3
theorem nd_total : N_total.Nodup := by decide +kernel
theorem sc_total : FnScope N_total p_total (defScope (top 52)) := ⟨rfl, rfl, rfl, nd_total, rfl, by decide +kernel, by decide +kernel⟩
theorem bd_total (G : Gk K mg) (h_added : HasP P w K mg base 2 ("added" : Str) 2 (spF K 2 F_added)) : Bd P w K mg base N_total ("total" : Str) (defScope (top 52)) 2 f (defBody (top 52)) g_total := fun cdv A outer s H E C hr =>
  have nd := nd_total
  (ess_cons (es_set 1 (ev_glob G.c_ZERO) nd) (ess_cons (es_for PassesOwn.never rfl (ei_row (ev_var 0)) (eg_name 2 nd) (ess_one (es_set 1 (ev_call h_added (hr.mono (by decide)) (ea_cons (ev_var 1) (ea_cons (ev_var 2) ea_nil)) (hl := (mCons_len (mCons_len mNil_len)))) nd))) (ess_one (es_ret (ev_var 1)))))
/-! dotted -/
abbrev N_dotted : List Str := [("one" : Str), ("two" : Str), ("here" : Str), ("there" : Str)]
abbrev p_dotted : List Str := [("one" : Str), ("two" : Str)]
def g_dotted : Sm := (sRet (mCall F_total (mCons (mL (mLc (mZip (mCons (mVar 0) (mCons (mVar 1) mNil))) (gTp (gsCons (gNm 2) (gsCons (gNm 3) gsNil))) mYes (mCall F_product (mCons (mVar 2) (mCons (mVar 3) mNil))) [2, 3])) mNil)))
def F_dotted : List Dt → Option Dt := runF g_dotted 4
theorem nd_dotted : N_dotted.Nodup := by decide +kernel
theorem sc_dotted : FnScope N_dotted p_dotted (defScope (top 53)) := ⟨rfl, rfl, rfl, nd_dotted, rfl, by decide +kernel, by decide +kernel⟩
theorem bd_dotted (G : Gk K mg) (h_total : HasP P w K mg base 3 ("total" : Str) 1 (spF K 1 F_total)) (h_product : HasP P w K mg base 2 ("product" : Str) 2 (spF K 2 F_product)) : Bd P w K mg base N_dotted ("dotted" : Str) (defScope (top 53)) 3 f (defBody (top 53)) g_dotted := fun cdv A outer s H E C hr =>
  have nd := nd_dotted
  (ess_one (es_ret (ev_call h_total (hr.mono (by decide)) (ea_cons (ev_ef (ef_lc [(("here" : Str), 2), (("there" : Str), 3)] rfl nd (ei_zip G.b_zip (ea_cons (ev_var 0) (ea_cons (ev_var 1) ea_nil))) (blkOk_by (by kernel_rfl)) (fun _ _ _ _ _ => (eg_tup rfl (egs_cons (eg_name 2 nd) (egs_cons (eg_name 3 nd) egs_nil)) (gsCons_len (gsCons_len (fun _ _ _ _ h => gsNil_len h))))) (fun _ _ _ _ _ => ets_nil) (fun _ _ _ _ _ => (ev_call h_product (hr.mono (by decide)) (ea_cons (ev_var 2) (ea_cons (ev_var 3) ea_nil)) (hl := (mCons_len (mCons_len mNil_len))))))) ea_nil) (hl := (mCons_len mNil_len)))))
/-! scaled_row -/
abbrev N_scaled_row : List Str := [("row" : Str), ("number" : Str), ("each" : Str)]
abbrev p_scaled_row : List Str := [("row" : Str), ("number" : Str)]
def g_scaled_row : Sm := (sRet (mUn gTuple (mL (mLc (mRow (mVar 0)) (gNm 2) mYes (mCall F_product (mCons (mVar 2) (mCons (mVar 1) mNil))) [2]))))
def F_scaled_row : List Dt → Option Dt := runF g_scaled_row 3
theorem nd_scaled_row : N_scaled_row.Nodup := by decide +kernel
theorem sc_scaled_row : FnScope N_scaled_row p_scaled_row (defScope (top 54)) := ⟨rfl, rfl, rfl, nd_scaled_row, rfl, by decide +kernel, by decide +kernel⟩
theorem bd_scaled_row (G : Gk K mg) (h_product : HasP P w K mg base 2 ("product" : Str) 2 (spF K 2 F_product)) : Bd P w K mg base N_scaled_row ("scaled_row" : Str) (defScope (top 54)) 2 f (defBody (top 54)) g_scaled_row := fun cdv A outer s H E C hr =>
  have nd := nd_scaled_row
  (ess_one (es_ret (ev_tuple G.b_tuple (el_of (ev_ef (ef_lc [(("each" : Str), 2)] rfl nd (ei_row (ev_var 0)) (blkOk_by (by kernel_rfl)) (fun _ _ _ _ _ => (eg_name 2 nd)) (fun _ _ _ _ _ => ets_nil) (fun _ _ _ _ _ => (ev_call h_product (hr.mono (by decide)) (ea_cons (ev_var 2) (ea_cons (ev_var 1) ea_nil)) (hl := (mCons_len (mCons_len mNil_len)))))))))))
/-! joined_row -/
abbrev N_joined_row : List Str := [("one" : Str), ("two" : Str), ("here" : Str), ("there" : Str)]
abbrev p_joined_row : List Str := [("one" : Str), ("two" : Str)]
def g_joined_row : Sm := (sRet (mUn gTuple (mL (mLc (mZip (mCons (mVar 0) (mCons (mVar 1) mNil))) (gTp (gsCons (gNm 2) (gsCons (gNm 3) gsNil))) mYes (mCall F_added (mCons (mVar 2) (mCons (mVar 3) mNil))) [2, 3]))))
def F_joined_row : List Dt → Option Dt := runF g_joined_row 4
theorem nd_joined_row : N_joined_row.Nodup := by decide +kernel
theorem sc_joined_row : FnScope N_joined_row p_joined_row (defScope (top 55)) := ⟨rfl, rfl, rfl, nd_joined_row, rfl, by decide +kernel, by decide +kernel⟩
theorem bd_joined_row (G : Gk K mg) (h_added : HasP P w K mg base 2 ("added" : Str) 2 (spF K 2 F_added)) : Bd P w K mg base N_joined_row ("joined_row" : Str) (defScope (top 55)) 2 f (defBody (top 55)) g_joined_row := fun cdv A outer s H E C hr =>
  have nd := nd_joined_row
  (ess_one (es_ret (ev_tuple G.b_tuple (el_of (ev_ef (ef_lc [(("here" : Str), 2), (("there" : Str), 3)] rfl nd (ei_zip G.b_zip (ea_cons (ev_var 0) (ea_cons (ev_var 1) ea_nil))) (blkOk_by (by kernel_rfl)) (fun _ _ _ _ _ => (eg_tup rfl (egs_cons (eg_name 2 nd) (egs_cons (eg_name 3 nd) egs_nil)) (gsCons_len (gsCons_len (fun _ _ _ _ h => gsNil_len h))))) (fun _ _ _ _ _ => ets_nil) (fun _ _ _ _ _ => (ev_call h_added (hr.mono (by decide)) (ea_cons (ev_var 2) (ea_cons (ev_var 3) ea_nil)) (hl := (mCons_len (mCons_len mNil_len)))))))))))
/-! less_row -/
abbrev N_less_row : List Str := [("one" : Str), ("two" : Str), ("here" : Str), ("there" : Str)]
abbrev p_less_row : List Str := [("one" : Str), ("two" : Str)]
def g_less_row : Sm := (sRet (mUn gTuple (mL (mLc (mZip (mCons (mVar 0) (mCons (mVar 1) mNil))) (gTp (gsCons (gNm 2) (gsCons (gNm 3) gsNil))) mYes (mCall F_less_by (mCons (mVar 2) (mCons (mVar 3) mNil))) [2, 3]))))
def F_less_row : List Dt → Option Dt := runF g_less_row 4
theorem nd_less_row : N_less_row.Nodup := by decide +kernel
theorem sc_less_row : FnScope N_less_row p_less_row (defScope (top 56)) := ⟨rfl, rfl, rfl, nd_less_row, rfl, by decide +kernel, by decide +kernel⟩
theorem bd_less_row (G : Gk K mg) (h_less_by : HasP P w K mg base 2 ("less_by" : Str) 2 (spF K 2 F_less_by)) : Bd P w K mg base N_less_row ("less_row" : Str) (defScope (top 56)) 2 f (defBody (top 56)) g_less_row := fun cdv A outer s H E C hr =>
  have nd := nd_less_row
  (ess_one (es_ret (ev_tuple G.b_tuple (el_of (ev_ef (ef_lc [(("here" : Str), 2), (("there" : Str), 3)] rfl nd (ei_zip G.b_zip (ea_cons (ev_var 0) (ea_cons (ev_var 1) ea_nil))) (blkOk_by (by kernel_rfl)) (fun _ _ _ _ _ => (eg_tup rfl (egs_cons (eg_name 2 nd) (egs_cons (eg_name 3 nd) egs_nil)) (gsCons_len (gsCons_len (fun _ _ _ _ h => gsNil_len h))))) (fun _ _ _ _ _ => ets_nil) (fun _ _ _ _ _ => (ev_call h_less_by (hr.mono (by decide)) (ea_cons (ev_var 2) (ea_cons (ev_var 3) ea_nil)) (hl := (mCons_len (mCons_len mNil_len)))))))))))
/-! turn_of -/
abbrev N_turn_of : List Str := [("one" : Str), ("two" : Str)]
abbrev p_turn_of : List Str := [("one" : Str), ("two" : Str)]
def g_turn_of : Sm := (sRet (mCall F_less_by (mCons (mCall F_product (mCons (mBin fIx (mVar 0) (mC (.int 0))) (mCons (mBin fIx (mVar 1) (mC (.int 1))) mNil))) (mCons (mCall F_product (mCons (mBin fIx (mVar 0) (mC (.int 1))) (mCons (mBin fIx (mVar 1) (mC (.int 0))) mNil))) mNil))))
def F_turn_of : List Dt → Option Dt := runF g_turn_of 2
theorem nd_turn_of : N_turn_of.Nodup := by decide +kernel
theorem sc_turn_of : FnScope N_turn_of p_turn_of (defScope (top 58)) := ⟨rfl, rfl, rfl, nd_turn_of, rfl, by decide +kernel, by decide +kernel⟩
theorem bd_turn_of (G : Gk K mg) (h_less_by : HasP P w K mg base 2 ("less_by" : Str) 2 (spF K 2 F_less_by)) (h_product : HasP P w K mg base 2 ("product" : Str) 2 (spF K 2 F_product)) : Bd P w K mg base N_turn_of ("turn_of" : Str) (defScope (top 58)) 2 f (defBody (top 58)) g_turn_of := fun cdv A outer s H E C hr =>
  have nd := nd_turn_of
  (ess_one (es_ret (ev_call h_less_by (hr.mono (by decide)) (ea_cons (ev_call h_product (hr.mono (by decide)) (ea_cons (ev_ix (el_of (ev_var 0)) ev_int) (ea_cons (ev_ix (el_of (ev_var 1)) ev_int) ea_nil)) (hl := (mCons_len (mCons_len mNil_len)))) (ea_cons (ev_call h_product (hr.mono (by decide)) (ea_cons (ev_ix (el_of (ev_var 0)) ev_int) (ea_cons (ev_ix (el_of (ev_var 1)) ev_int) ea_nil)) (hl := (mCons_len (mCons_len mNil_len)))) ea_nil)) (hl := (mCons_len (mCons_len mNil_len))))))
/-! steps_of -/
abbrev N_steps_of : List Str := [("corners" : Str), ("here" : Str), ("there" : Str)]
abbrev p_steps_of : List Str := [("corners" : Str)]
def g_steps_of : Sm := (sRet (mL (mLc (mZip (mCons (mVar 0) (mCons (mBin fAdd (mSl (mVar 0) (mOs (mC (.int 1))) mOn) (mSl (mVar 0) mOn (mOs (mC (.int 1))))) mNil))) (gTp (gsCons (gNm 1) (gsCons (gNm 2) gsNil))) mYes (mCall F_less_row (mCons (mVar 2) (mCons (mVar 1) mNil))) [1, 2])))
def F_steps_of : List Dt → Option Dt := runF g_steps_of 3
theorem nd_steps_of : N_steps_of.Nodup := by decide +kernel
theorem sc_steps_of : FnScope N_steps_of p_steps_of (defScope (top 59)) := ⟨rfl, rfl, rfl, nd_steps_of, rfl, by decide +kernel, by decide +kernel⟩
theorem bd_steps_of (G : Gk K mg) (h_less_row : HasP P w K mg base 3 ("less_row" : Str) 2 (spF K 2 F_less_row)) : Bd P w K mg base N_steps_of ("steps_of" : Str) (defScope (top 59)) 3 f (defBody (top 59)) g_steps_of := fun cdv A outer s H E C hr =>
  have nd := nd_steps_of
  (ess_one (es_ret (ev_ef (ef_lc [(("here" : Str), 1), (("there" : Str), 2)] rfl nd (ei_zip G.b_zip (ea_cons (ev_var 0) (ea_cons (ev_add (ev_slice (el_of (ev_var 0)) (eo_some ev_int) eo_none) (ev_slice (el_of (ev_var 0)) eo_none (eo_some ev_int))) ea_nil))) (blkOk_by (by kernel_rfl)) (fun _ _ _ _ _ => (eg_tup rfl (egs_cons (eg_name 1 nd) (egs_cons (eg_name 2 nd) egs_nil)) (gsCons_len (gsCons_len (fun _ _ _ _ h => gsNil_len h))))) (fun _ _ _ _ _ => ets_nil) (fun _ _ _ _ _ => (ev_call h_less_row (hr.mono (by decide)) (ea_cons (ev_var 2) (ea_cons (ev_var 1) ea_nil)) (hl := (mCons_len (mCons_len mNil_len)))))))))
/-! is_upper -/
abbrev N_is_upper : List Str := [("step" : Str)]
abbrev p_is_upper : List Str := [("step" : Str)]
def g_is_upper : Sm := (sRet (mOrV (mBin fGt (mCall F_sign_of_ratio (mCons (mBin fIx (mVar 0) (mC (.int 1))) mNil)) (mC (.int 0))) (mAndV (mBin fEq (mCall F_sign_of_ratio (mCons (mBin fIx (mVar 0) (mC (.int 1))) mNil)) (mC (.int 0))) (mBin fGt (mCall F_sign_of_ratio (mCons (mBin fIx (mVar 0) (mC (.int 0))) mNil)) (mC (.int 0))))))
def F_is_upper : List Dt → Option Dt := runF g_is_upper 1
theorem nd_is_upper : N_is_upper.Nodup := by decide +kernel
theorem sc_is_upper : FnScope N_is_upper p_is_upper (defScope (top 60)) := ⟨rfl, rfl, rfl, nd_is_upper, rfl, by decide +kernel, by decide +kernel⟩
theorem bd_is_upper (G : Gk K mg) (h_sign_of_ratio : HasP P w K mg base 1 ("sign_of_ratio" : Str) 1 (spF K 1 F_sign_of_ratio)) : Bd P w K mg base N_is_upper ("is_upper" : Str) (defScope (top 60)) 1 f (defBody (top 60)) g_is_upper := fun cdv A outer s H E C hr =>
  have nd := nd_is_upper
  (ess_one (es_ret (ev_or (ev_gt (el_of (ev_call h_sign_of_ratio (hr.mono (by decide)) (ea_cons (ev_ix (el_of (ev_var 0)) ev_int) ea_nil) (hl := (mCons_len mNil_len)))) (el_of ev_int)) (ev_one (ev_and (ev_eq (rm150 hr) (el_of (ev_call h_sign_of_ratio (hr.mono (by decide)) (ea_cons (ev_ix (el_of (ev_var 0)) ev_int) ea_nil) (hl := (mCons_len mNil_len)))) (el_of ev_int)) (ev_one (ev_gt (el_of (ev_call h_sign_of_ratio (hr.mono (by decide)) (ea_cons (ev_ix (el_of (ev_var 0)) ev_int) ea_nil) (hl := (mCons_len mNil_len)))) (el_of ev_int))))))))
/-! is_round_by -/
abbrev N_is_round_by : List Str := [("corners" : Str), ("steps" : Str), ("here" : Str), ("there" : Str)]
abbrev p_is_round_by : List Str := [("corners" : Str)]
def g_is_round_by : Sm := (sSeq (sSet 1 (mCall F_steps_of (mCons (mVar 0) mNil))) (sSeq (sIf (mNot (mTst (mUn gAll (mL (mLc (mZip (mCons (mVar 1) (mCons (mBin fAdd (mSl (mVar 1) (mOs (mC (.int 1))) mOn) (mSl (mVar 1) mOn (mOs (mC (.int 1))))) mNil))) (gTp (gsCons (gNm 2) (gsCons (gNm 3) gsNil))) mYes (mBin fGt (mCall F_sign_of_ratio (mCons (mCall F_turn_of (mCons (mVar 2) (mCons (mVar 3) mNil))) mNil)) (mC (.int 0))) [2, 3]))))) (sRet (mC (.bool false))) sNil) (sRet (mBin fEq (mUn gLen (mL (mLc (mZip (mCons (mVar 1) (mCons (mBin fAdd (mSl (mVar 1) (mOs (mC (.int 1))) mOn) (mSl (mVar 1) mOn (mOs (mC (.int 1))))) mNil))) (gTp (gsCons (gNm 2) (gsCons (gNm 3) gsNil))) (mAnd (mNot (mTst (mCall F_is_upper (mCons (mVar 2) mNil)))) (mTst (mCall F_is_upper (mCons (mVar 3) mNil)))) (mC (.int 1)) [2, 3]))) (mC (.int 1))))))
def F_is_round_by : List Dt → Option Dt := runF g_is_round_by 4
theorem nd_is_round_by : N_is_round_by.Nodup := by decide +kernel
theorem sc_is_round_by : FnScope N_is_round_by p_is_round_by (defScope (top 61)) := ⟨rfl, rfl, rfl, nd_is_round_by, rfl, by decide +kernel, by decide +kernel⟩
theorem bd_is_round_by (G : Gk K mg) (h_steps_of : HasP P w K mg base 4 ("steps_of" : Str) 1 (spF K 1 F_steps_of)) (h_sign_of_ratio : HasP P w K mg base 1 ("sign_of_ratio" : Str) 1 (spF K 1 F_sign_of_ratio)) (h_turn_of : HasP P w K mg base 3 ("turn_of" : Str) 2 (spF K 2 F_turn_of)) (h_is_upper : HasP P w K mg base 2 ("is_upper" : Str) 1 (spF K 1 F_is_upper)) : Bd P w K mg base N_is_round_by ("is_round_by" : Str) (defScope (top 61)) 4 f (defBody (top 61)) g_is_round_by := fun cdv A outer s H E C hr =>
  have nd := nd_is_round_by
  (ess_cons (es_set 1 (ev_call h_steps_of (hr.mono (by decide)) (ea_cons (ev_var 0) ea_nil) (hl := (mCons_len mNil_len))) nd) (ess_cons (es_if (et_not (et_val (ev_all rfl G.b_all (el_of (ev_ef (ef_lc [(("here" : Str), 2), (("there" : Str), 3)] rfl nd (ei_zip G.b_zip (ea_cons (ev_var 1) (ea_cons (ev_add (ev_slice (el_of (ev_var 1)) (eo_some ev_int) eo_none) (ev_slice (el_of (ev_var 1)) eo_none (eo_some ev_int))) ea_nil))) (blkOk_by (by kernel_rfl)) (fun _ _ _ _ _ => (eg_tup rfl (egs_cons (eg_name 2 nd) (egs_cons (eg_name 3 nd) egs_nil)) (gsCons_len (gsCons_len (fun _ _ _ _ h => gsNil_len h))))) (fun _ _ _ _ _ => ets_nil) (fun _ _ _ _ _ => (ev_gt (el_of (ev_call h_sign_of_ratio (hr.mono (by decide)) (ea_cons (ev_call h_turn_of (hr.mono (by decide)) (ea_cons (ev_var 2) (ea_cons (ev_var 3) ea_nil)) (hl := (mCons_len (mCons_len mNil_len)))) ea_nil) (hl := (mCons_len mNil_len)))) (el_of ev_int))))))))) (ess_one (es_ret ev_bl)) ess_nil) (ess_one (es_ret (ev_eq (rm150 hr) (el_of (ev_len G.b_len (el_of (ev_ef (ef_lc [(("here" : Str), 2), (("there" : Str), 3)] rfl nd (ei_zip G.b_zip (ea_cons (ev_var 1) (ea_cons (ev_add (ev_slice (el_of (ev_var 1)) (eo_some ev_int) eo_none) (ev_slice (el_of (ev_var 1)) eo_none (eo_some ev_int))) ea_nil))) (blkOk_by (by kernel_rfl)) (fun _ _ _ _ _ => (eg_tup rfl (egs_cons (eg_name 2 nd) (egs_cons (eg_name 3 nd) egs_nil)) (gsCons_len (gsCons_len (fun _ _ _ _ h => gsNil_len h))))) (fun _ _ _ _ _ => (ets_one ((ew_and (et_not (et_val (ev_call h_is_upper (hr.mono (by decide)) (ea_cons (ev_var 2) ea_nil) (hl := (mCons_len mNil_len))))) (ew_and1 (et_val (ev_call h_is_upper (hr.mono (by decide)) (ea_cons (ev_var 3) ea_nil) (hl := (mCons_len mNil_len))))))).et)) (fun _ _ _ _ _ => ev_int)))))) (el_of ev_int))))))
/-! is_in_polygon -/
abbrev N_is_in_polygon : List Str := [("corners" : Str), ("place" : Str), ("pairs" : Str), ("corner" : Str), ("step" : Str)]
abbrev p_is_in_polygon : List Str := [("corners" : Str), ("place" : Str)]
def g_is_in_polygon : Sm := (sZipAll 2 (mCons (mVar 0) (mCons (mCall F_steps_of (mCons (mVar 0) mNil)) mNil)) (gTp (gsCons (gNm 3) (gsCons (gNm 4) gsNil))) mYes (mBin fGe (mCall F_sign_of_ratio (mCons (mCall F_turn_of (mCons (mVar 4) (mCons (mCall F_less_row (mCons (mVar 1) (mCons (mVar 3) mNil))) mNil))) mNil)) (mC (.int 0))) [3, 4])
def F_is_in_polygon : List Dt → Option Dt := runF g_is_in_polygon 5
theorem nd_is_in_polygon : N_is_in_polygon.Nodup := by decide +kernel
theorem sc_is_in_polygon : FnScope N_is_in_polygon p_is_in_polygon (defScope (top 62)) := ⟨rfl, rfl, rfl, nd_is_in_polygon, rfl, by decide +kernel, by decide +kernel⟩
theorem bd_is_in_polygon (G : Gk K mg) (h_steps_of : HasP P w K mg base 4 ("steps_of" : Str) 1 (spF K 1 F_steps_of)) (h_sign_of_ratio : HasP P w K mg base 1 ("sign_of_ratio" : Str) 1 (spF K 1 F_sign_of_ratio)) (h_turn_of : HasP P w K mg base 3 ("turn_of" : Str) 2 (spF K 2 F_turn_of)) (h_less_row : HasP P w K mg base 3 ("less_row" : Str) 2 (spF K 2 F_less_row)) : Bd P w K mg base N_is_in_polygon ("is_in_polygon" : Str) (defScope (top 62)) 4 f (defBody (top 62)) g_is_in_polygon := fun cdv A outer s H E C hr =>
  have nd := nd_is_in_polygon
  (ess_zipAll 2 [(("corner" : Str), 3), (("step" : Str), 4)] rfl nd G.b_zip G.b_all (ea_cons (ev_var 0) (ea_cons (ev_call h_steps_of (hr.mono (by decide)) (ea_cons (ev_var 0) ea_nil) (hl := (mCons_len mNil_len))) ea_nil)) (ea_cons (ev_var 0) (ea_cons (ev_call h_steps_of (hr.mono (by decide)) (ea_cons (ev_var 0) ea_nil) (hl := (mCons_len mNil_len))) ea_nil)) (blkOk_by (by kernel_rfl)) (fun _ _ _ _ _ => (eg_tup rfl (egs_cons (eg_name 3 nd) (egs_cons (eg_name 4 nd) egs_nil)) (gsCons_len (gsCons_len (fun _ _ _ _ h => gsNil_len h))))) (fun _ _ _ _ _ => ets_nil) (fun _ _ _ _ _ => (ev_ge (el_of (ev_call h_sign_of_ratio (hr.mono (by decide)) (ea_cons (ev_call h_turn_of (hr.mono (by decide)) (ea_cons (ev_var 4) (ea_cons (ev_call h_less_row (hr.mono (by decide)) (ea_cons (ev_var 1) (ea_cons (ev_var 3) ea_nil)) (hl := (mCons_len (mCons_len mNil_len)))) ea_nil)) (hl := (mCons_len (mCons_len mNil_len)))) ea_nil) (hl := (mCons_len mNil_len)))) (el_of ev_int))))
/-! is_over -/
abbrev N_is_over : List Str := [("place" : Str), ("low" : Str), ("high" : Str), ("apart" : Str), ("far" : Str), ("near" : Str)]
abbrev p_is_over : List Str := [("place" : Str), ("low" : Str), ("high" : Str)]
def g_is_over : Sm := (sSeq (sSet 3 (mCall F_less_by (mCons (mBin fIx (mVar 2) (mC (.int 2))) (mCons (mBin fIx (mVar 1) (mC (.int 2))) mNil)))) (sSeq (sPar [4, 5] (pD (mCall F_square_between (mCons (mVar 0) (mCons (mBin fIx (mVar 2) (mC (.int 1))) mNil))) (pD (mCall F_square_between (mCons (mVar 0) (mCons (mBin fIx (mVar 1) (mC (.int 1))) mNil))) pNil))) (sRet (mBin fGt (mCall F_compared_by (mCons (mTup (mCons (mCall F_negative (mCons (mVar 3) mNil)) (mCons (mTup (mCons (mC (.int 1)) (mCons (mC (.int 1)) mNil))) (mCons (mVar 4) mNil)))) (mCons (mTup (mCons (mC (.tuple [(.int 0), (.int 1)])) (mCons (mTup (mCons (mC (.int 1)) (mCons (mC (.int 1)) mNil))) (mCons (mVar 5) mNil)))) mNil))) (mC (.int 0))))))
def F_is_over : List Dt → Option Dt := runF g_is_over 6
theorem nd_is_over : N_is_over.Nodup := by decide +kernel
theorem sc_is_over : FnScope N_is_over p_is_over (defScope (top 63)) := ⟨rfl, rfl, rfl, nd_is_over, rfl, by decide +kernel, by decide +kernel⟩
theorem bd_is_over (G : Gk K mg) (h_less_by : HasP P w K mg base 2 ("less_by" : Str) 2 (spF K 2 F_less_by)) (h_square_between : HasP P w K mg base 3 ("square_between" : Str) 2 (spF K 2 F_square_between)) (h_compared_by : HasP P w K mg base 5 ("compared_by" : Str) 2 (spF K 2 F_compared_by)) (h_negative : HasP P w K mg base 1 ("negative" : Str) 1 (spF K 1 F_negative)) : Bd P w K mg base N_is_over ("is_over" : Str) (defScope (top 63)) 5 f (defBody (top 63)) g_is_over := fun cdv A outer s H E C hr =>
  have nd := nd_is_over
  (ess_cons (es_set 3 (ev_call h_less_by (hr.mono (by decide)) (ea_cons (ev_ix (el_of (ev_var 2)) ev_int) (ea_cons (ev_ix (el_of (ev_var 1)) ev_int) ea_nil)) (hl := (mCons_len (mCons_len mNil_len)))) nd) (ess_cons (es_par2 4 5 (ep_d (ev_call h_square_between (hr.mono (by decide)) (ea_cons (ev_var 0) (ea_cons (ev_ix (el_of (ev_var 2)) ev_int) ea_nil)) (hl := (mCons_len (mCons_len mNil_len)))) (ep_d (ev_call h_square_between (hr.mono (by decide)) (ea_cons (ev_var 0) (ea_cons (ev_ix (el_of (ev_var 1)) ev_int) ea_nil)) (hl := (mCons_len (mCons_len mNil_len)))) ep_nil)) rfl nd) (ess_one (es_ret (ev_gt (el_of (ev_call h_compared_by (hr.mono (by decide)) (ea_cons (ev_tup (ea_cons (ev_call h_negative (hr.mono (by decide)) (ea_cons (ev_var 3) ea_nil) (hl := (mCons_len mNil_len))) (ea_cons (ev_tup (ea_cons ev_int (ea_cons ev_int ea_nil))) (ea_cons (ev_var 4) ea_nil)))) (ea_cons (ev_tup (ea_cons (ev_glob G.c_ZERO) (ea_cons (ev_tup (ea_cons ev_int (ea_cons ev_int ea_nil))) (ea_cons (ev_var 5) ea_nil)))) ea_nil)) (hl := (mCons_len (mCons_len mNil_len))))) (el_of ev_int))))))
/-! over_on -/
abbrev N_over_on : List Str := [("begin" : Str), ("step" : Str), ("low" : Str), ("high" : Str), ("part" : Str), ("place" : Str)]
abbrev p_over_on : List Str := [("begin" : Str), ("step" : Str), ("low" : Str), ("high" : Str), ("part" : Str)]
def g_over_on : Sm := (sSeq (sSet 5 (mCall F_joined_row (mCons (mVar 0) (mCons (mCall F_scaled_row (mCons (mVar 1) (mCons (mVar 4) mNil))) mNil)))) (sRet (mIf (mTst (mCall F_is_over (mCons (mVar 5) (mCons (mVar 2) (mCons (mVar 3) mNil))))) (mLst (mCons (mVar 5) mNil)) (mLst mNil))))
def F_over_on : List Dt → Option Dt := runF g_over_on 6
theorem nd_over_on : N_over_on.Nodup := by decide +kernel
theorem sc_over_on : FnScope N_over_on p_over_on (defScope (top 64)) := ⟨rfl, rfl, rfl, nd_over_on, rfl, by decide +kernel, by decide +kernel⟩
theorem bd_over_on (G : Gk K mg) (h_joined_row : HasP P w K mg base 3 ("joined_row" : Str) 2 (spF K 2 F_joined_row)) (h_scaled_row : HasP P w K mg base 3 ("scaled_row" : Str) 2 (spF K 2 F_scaled_row)) (h_is_over : HasP P w K mg base 6 ("is_over" : Str) 3 (spF K 3 F_is_over)) : Bd P w K mg base N_over_on ("over_on" : Str) (defScope (top 64)) 6 f (defBody (top 64)) g_over_on := fun cdv A outer s H E C hr =>
  have nd := nd_over_on
  (ess_cons (es_set 5 (ev_call h_joined_row (hr.mono (by decide)) (ea_cons (ev_var 0) (ea_cons (ev_call h_scaled_row (hr.mono (by decide)) (ea_cons (ev_var 1) (ea_cons (ev_var 4) ea_nil)) (hl := (mCons_len (mCons_len mNil_len)))) ea_nil)) (hl := (mCons_len (mCons_len mNil_len)))) nd) (ess_one (es_ret (ev_if (et_val (ev_call h_is_over (hr.mono (by decide)) (ea_cons (ev_var 5) (ea_cons (ev_var 2) (ea_cons (ev_var 3) ea_nil))) (hl := (mCons_len (mCons_len (mCons_len mNil_len)))))) (ev_lst (ea_cons (ev_var 5) ea_nil)) (ev_lst ea_nil)))))
/-! turning_part -/
abbrev N_turning_part : List Str := [("begin" : Str), ("step" : Str), ("low" : Str), ("high" : Str), ("apart" : Str), ("square" : Str), ("here" : Str), ("rise" : Str), ("way" : Str), ("four" : Str), ("head" : Str), ("half" : Str), ("part" : Str)]
abbrev p_turning_part : List Str := [("begin" : Str), ("step" : Str), ("low" : Str), ("high" : Str)]
def g_turning_part : Sm := (sSeq (sSet 4 (mCall F_less_by (mCons (mBin fIx (mVar 3) (mC (.int 2))) (mCons (mBin fIx (mVar 2) (mC (.int 2))) mNil)))) (sSeq (sSet 5 (mCall F_product (mCons (mVar 4) (mCons (mVar 4) mNil)))) (sSeq (sSet 6 (mCall F_less_by (mCons (mCall F_less_by (mCons (mCall F_square_between (mCons (mVar 0) (mCons (mBin fIx (mVar 3) (mC (.int 1))) mNil))) (mCons (mCall F_square_between (mCons (mVar 0) (mCons (mBin fIx (mVar 2) (mC (.int 1))) mNil))) mNil))) (mCons (mVar 5) mNil)))) (sSeq (sSet 7 (mCall F_product (mCons (mTup (mCons (mC (.int 2)) (mCons (mC (.int 1)) mNil))) (mCons (mCall F_dotted (mCons (mVar 1) (mCons (mCall F_less_row (mCons (mBin fIx (mVar 2) (mC (.int 1))) (mCons (mBin fIx (mVar 3) (mC (.int 1))) mNil))) mNil))) mNil)))) (sSeq (sSet 8 (mCall F_less_row (mCons (mVar 0) (mCons (mBin fIx (mVar 2) (mC (.int 1))) mNil)))) (sSeq (sSet 9 (mCall F_product (mCons (mTup (mCons (mC (.int 4)) (mCons (mC (.int 1)) mNil))) (mCons (mVar 5) mNil)))) (sSeq (sSet 10 (mCall F_less_by (mCons (mCall F_product (mCons (mVar 7) (mCons (mVar 7) mNil))) (mCons (mCall F_product (mCons (mVar 9) (mCons (mCall F_dotted (mCons (mVar 1) (mCons (mVar 1) mNil))) mNil))) mNil)))) (sSeq (sSet 11 (mCall F_less_by (mCons (mCall F_product (mCons (mVar 6) (mCons (mVar 7) mNil))) (mCons (mCall F_product (mCons (mVar 9) (mCons (mCall F_dotted (mCons (mVar 8) (mCons (mVar 1) mNil))) mNil))) mNil)))) (sSeq (sIf (mTst (mBin fEq (mCall F_sign_of_ratio (mCons (mVar 10) mNil)) (mC (.int 0)))) (sRet (mLst mNil)) sNil) (sSeq (sSet 12 (mCall F_negative (mCons (mCall F_quotient (mCons (mVar 11) (mCons (mVar 10) mNil))) mNil))) (sRet (mIf (mAnd (mTst (mCall F_is_less (mCons (mC (.tuple [(.int 0), (.int 1)])) (mCons (mVar 12) mNil)))) (mTst (mCall F_is_less (mCons (mVar 12) (mCons (mTup (mCons (mC (.int 1)) (mCons (mC (.int 1)) mNil))) mNil))))) (mLst (mCons (mVar 12) mNil)) (mLst mNil)))))))))))))
def F_turning_part : List Dt → Option Dt := runF g_turning_part 13
theorem nd_turning_part : N_turning_part.Nodup := by decide +kernel
theorem sc_turning_part : FnScope N_turning_part p_turning_part (defScope (top 65)) := ⟨rfl, rfl, rfl, nd_turning_part, rfl, by decide +kernel, by decide +kernel⟩
theorem bd_turning_part (G : Gk K mg) (h_less_by : HasP P w K mg base 2 ("less_by" : Str) 2 (spF K 2 F_less_by)) (h_product : HasP P w K mg base 2 ("product" : Str) 2 (spF K 2 F_product)) (h_square_between : HasP P w K mg base 3 ("square_between" : Str) 2 (spF K 2 F_square_between)) (h_dotted : HasP P w K mg base 4 ("dotted" : Str) 2 (spF K 2 F_dotted)) (h_less_row : HasP P w K mg base 3 ("less_row" : Str) 2 (spF K 2 F_less_row)) (h_sign_of_ratio : HasP P w K mg base 1 ("sign_of_ratio" : Str) 1 (spF K 1 F_sign_of_ratio)) (h_negative : HasP P w K mg base 1 ("negative" : Str) 1 (spF K 1 F_negative)) (h_quotient : HasP P w K mg base 2 ("quotient" : Str) 2 (spF K 2 F_quotient)) (h_is_less : HasP P w K mg base 1 ("is_less" : Str) 2 (spF K 2 F_is_less)) : Bd P w K mg base N_turning_part ("turning_part" : Str) (defScope (top 65)) 4 f (defBody (top 65)) g_turning_part := fun cdv A outer s H E C hr =>
  have nd := nd_turning_part
  (ess_cons (es_set 4 (ev_call h_less_by (hr.mono (by decide)) (ea_cons (ev_ix (el_of (ev_var 3)) ev_int) (ea_cons (ev_ix (el_of (ev_var 2)) ev_int) ea_nil)) (hl := (mCons_len (mCons_len mNil_len)))) nd) (ess_cons (es_set 5 (ev_call h_product (hr.mono (by decide)) (ea_cons (ev_var 4) (ea_cons (ev_var 4) ea_nil)) (hl := (mCons_len (mCons_len mNil_len)))) nd) (ess_cons (es_set 6 (ev_call h_less_by (hr.mono (by decide)) (ea_cons (ev_call h_less_by (hr.mono (by decide)) (ea_cons (ev_call h_square_between (hr.mono (by decide)) (ea_cons (ev_var 0) (ea_cons (ev_ix (el_of (ev_var 3)) ev_int) ea_nil)) (hl := (mCons_len (mCons_len mNil_len)))) (ea_cons (ev_call h_square_between (hr.mono (by decide)) (ea_cons (ev_var 0) (ea_cons (ev_ix (el_of (ev_var 2)) ev_int) ea_nil)) (hl := (mCons_len (mCons_len mNil_len)))) ea_nil)) (hl := (mCons_len (mCons_len mNil_len)))) (ea_cons (ev_var 5) ea_nil)) (hl := (mCons_len (mCons_len mNil_len)))) nd) (ess_cons (es_set 7 (ev_call h_product (hr.mono (by decide)) (ea_cons (ev_tup (ea_cons ev_int (ea_cons ev_int ea_nil))) (ea_cons (ev_call h_dotted (hr.mono (by decide)) (ea_cons (ev_var 1) (ea_cons (ev_call h_less_row (hr.mono (by decide)) (ea_cons (ev_ix (el_of (ev_var 2)) ev_int) (ea_cons (ev_ix (el_of (ev_var 3)) ev_int) ea_nil)) (hl := (mCons_len (mCons_len mNil_len)))) ea_nil)) (hl := (mCons_len (mCons_len mNil_len)))) ea_nil)) (hl := (mCons_len (mCons_len mNil_len)))) nd) (ess_cons (es_set 8 (ev_call h_less_row (hr.mono (by decide)) (ea_cons (ev_var 0) (ea_cons (ev_ix (el_of (ev_var 2)) ev_int) ea_nil)) (hl := (mCons_len (mCons_len mNil_len)))) nd) (ess_cons (es_set 9 (ev_call h_product (hr.mono (by decide)) (ea_cons (ev_tup (ea_cons ev_int (ea_cons ev_int ea_nil))) (ea_cons (ev_var 5) ea_nil)) (hl := (mCons_len (mCons_len mNil_len)))) nd) (ess_cons (es_set 10 (ev_call h_less_by (hr.mono (by decide)) (ea_cons (ev_call h_product (hr.mono (by decide)) (ea_cons (ev_var 7) (ea_cons (ev_var 7) ea_nil)) (hl := (mCons_len (mCons_len mNil_len)))) (ea_cons (ev_call h_product (hr.mono (by decide)) (ea_cons (ev_var 9) (ea_cons (ev_call h_dotted (hr.mono (by decide)) (ea_cons (ev_var 1) (ea_cons (ev_var 1) ea_nil)) (hl := (mCons_len (mCons_len mNil_len)))) ea_nil)) (hl := (mCons_len (mCons_len mNil_len)))) ea_nil)) (hl := (mCons_len (mCons_len mNil_len)))) nd) (ess_cons (es_set 11 (ev_call h_less_by (hr.mono (by decide)) (ea_cons (ev_call h_product (hr.mono (by decide)) (ea_cons (ev_var 6) (ea_cons (ev_var 7) ea_nil)) (hl := (mCons_len (mCons_len mNil_len)))) (ea_cons (ev_call h_product (hr.mono (by decide)) (ea_cons (ev_var 9) (ea_cons (ev_call h_dotted (hr.mono (by decide)) (ea_cons (ev_var 8) (ea_cons (ev_var 1) ea_nil)) (hl := (mCons_len (mCons_len mNil_len)))) ea_nil)) (hl := (mCons_len (mCons_len mNil_len)))) ea_nil)) (hl := (mCons_len (mCons_len mNil_len)))) nd) (ess_cons (es_if (et_eq (rm150 hr) (el_of (ev_call h_sign_of_ratio (hr.mono (by decide)) (ea_cons (ev_var 10) ea_nil) (hl := (mCons_len mNil_len)))) (el_of ev_int)) (ess_one (es_ret (ev_lst ea_nil))) ess_nil) (ess_cons (es_set 12 (ev_call h_negative (hr.mono (by decide)) (ea_cons (ev_call h_quotient (hr.mono (by decide)) (ea_cons (ev_var 11) (ea_cons (ev_var 10) ea_nil)) (hl := (mCons_len (mCons_len mNil_len)))) ea_nil) (hl := (mCons_len mNil_len))) nd) (ess_one (es_ret (ev_if ((ew_and (et_val (ev_call h_is_less (hr.mono (by decide)) (ea_cons (ev_glob G.c_ZERO) (ea_cons (ev_var 12) ea_nil)) (hl := (mCons_len (mCons_len mNil_len))))) (ew_and1 (et_val (ev_call h_is_less (hr.mono (by decide)) (ea_cons (ev_var 12) (ea_cons (ev_tup (ea_cons ev_int (ea_cons ev_int ea_nil))) ea_nil)) (hl := (mCons_len (mCons_len mNil_len)))))))).et (ev_lst (ea_cons (ev_var 12) ea_nil)) (ev_lst ea_nil))))))))))))))
/-! shut_by_pair -/
abbrev N_shut_by_pair : List Str := [("corners" : Str), ("low" : Str), ("high" : Str), ("corner" : Str), ("step" : Str), ("part" : Str), ("found" : Str)]
abbrev p_shut_by_pair : List Str := [("corners" : Str), ("low" : Str), ("high" : Str)]
def g_shut_by_pair : Sm := (sSeq (sFor (mRow (mVar 0)) (gNm 3) (sIf (mTst (mCall F_is_over (mCons (mVar 3) (mCons (mVar 1) (mCons (mVar 2) mNil))))) (sRet (mLst (mCons (mVar 3) mNil))) sNil)) (sSeq (sIf (mTst (mCall F_is_less (mCons (mBin fIx (mVar 2) (mC (.int 2))) (mCons (mBin fIx (mVar 1) (mC (.int 2))) mNil)))) (sRet (mLst mNil)) sNil) (sSeq (sIf (mAnd (mTst (mCall F_is_in_polygon (mCons (mVar 0) (mCons (mBin fIx (mVar 1) (mC (.int 1))) mNil)))) (mTst (mCall F_is_over (mCons (mBin fIx (mVar 1) (mC (.int 1))) (mCons (mVar 1) (mCons (mVar 2) mNil)))))) (sRet (mLst (mCons (mBin fIx (mVar 1) (mC (.int 1))) mNil))) sNil) (sSeq (sFor (mZip (mCons (mVar 0) (mCons (mCall F_steps_of (mCons (mVar 0) mNil)) mNil))) (gTp (gsCons (gNm 3) (gsCons (gNm 4) gsNil))) (sFor (mRow (mCall F_turning_part (mCons (mVar 3) (mCons (mVar 4) (mCons (mVar 1) (mCons (mVar 2) mNil)))))) (gNm 5) (sSeq (sSet 6 (mCall F_over_on (mCons (mVar 3) (mCons (mVar 4) (mCons (mVar 1) (mCons (mVar 2) (mCons (mVar 5) mNil))))))) (sIf (mTst (mBin fNe (mVar 6) (mLst mNil))) (sRet (mVar 6)) sNil)))) (sRet (mLst mNil))))))
def F_shut_by_pair : List Dt → Option Dt := runF g_shut_by_pair 7
theorem nd_shut_by_pair : N_shut_by_pair.Nodup := by decide +kernel
theorem sc_shut_by_pair : FnScope N_shut_by_pair p_shut_by_pair (defScope (top 66)) := ⟨rfl, rfl, rfl, nd_shut_by_pair, rfl, by decide +kernel, by decide +kernel⟩
theorem bd_shut_by_pair (G : Gk K mg) (h_is_over : HasP P w K mg base 6 ("is_over" : Str) 3 (spF K 3 F_is_over)) (h_is_less : HasP P w K mg base 1 ("is_less" : Str) 2 (spF K 2 F_is_less)) (h_is_in_polygon : HasP P w K mg base 5 ("is_in_polygon" : Str) 2 (spF K 2 F_is_in_polygon)) (h_steps_of : HasP P w K mg base 4 ("steps_of" : Str) 1 (spF K 1 F_steps_of)) (h_turning_part : HasP P w K mg base 5 ("turning_part" : Str) 4 (spF K 4 F_turning_part)) (h_over_on : HasP P w K mg base 7 ("over_on" : Str) 5 (spF K 5 F_over_on)) : Bd P w K mg base N_shut_by_pair ("shut_by_pair" : Str) (defScope (top 66)) 7 f (defBody (top 66)) g_shut_by_pair := fun cdv A outer s H E C hr =>
  have nd := nd_shut_by_pair
  (ess_cons (es_for PassesOwn.never rfl (ei_row (ev_var 0)) (eg_name 3 nd) (ess_one (es_if (et_val (ev_call h_is_over (hr.mono (by decide)) (ea_cons (ev_var 3) (ea_cons (ev_var 1) (ea_cons (ev_var 2) ea_nil))) (hl := (mCons_len (mCons_len (mCons_len mNil_len)))))) (ess_one (es_ret (ev_lst (ea_cons (ev_var 3) ea_nil)))) ess_nil))) (ess_cons (es_if (et_val (ev_call h_is_less (hr.mono (by decide)) (ea_cons (ev_ix (el_of (ev_var 2)) ev_int) (ea_cons (ev_ix (el_of (ev_var 1)) ev_int) ea_nil)) (hl := (mCons_len (mCons_len mNil_len))))) (ess_one (es_ret (ev_lst ea_nil))) ess_nil) (ess_cons (es_if ((ew_and (et_val (ev_call h_is_in_polygon (hr.mono (by decide)) (ea_cons (ev_var 0) (ea_cons (ev_ix (el_of (ev_var 1)) ev_int) ea_nil)) (hl := (mCons_len (mCons_len mNil_len))))) (ew_and1 (et_val (ev_call h_is_over (hr.mono (by decide)) (ea_cons (ev_ix (el_of (ev_var 1)) ev_int) (ea_cons (ev_var 1) (ea_cons (ev_var 2) ea_nil))) (hl := (mCons_len (mCons_len (mCons_len mNil_len))))))))).et (ess_one (es_ret (ev_lst (ea_cons (ev_ix (el_of (ev_var 1)) ev_int) ea_nil)))) ess_nil) (ess_cons (es_for PassesOwn.never rfl (ei_zip G.b_zip (ea_cons (ev_var 0) (ea_cons (ev_call h_steps_of (hr.mono (by decide)) (ea_cons (ev_var 0) ea_nil) (hl := (mCons_len mNil_len))) ea_nil))) (eg_tup rfl (egs_cons (eg_name 3 nd) (egs_cons (eg_name 4 nd) egs_nil)) (gsCons_len (gsCons_len (fun _ _ _ _ h => gsNil_len h)))) (ess_one (es_for PassesOwn.never rfl (ei_row (ev_call h_turning_part (hr.mono (by decide)) (ea_cons (ev_var 3) (ea_cons (ev_var 4) (ea_cons (ev_var 1) (ea_cons (ev_var 2) ea_nil)))) (hl := (mCons_len (mCons_len (mCons_len (mCons_len mNil_len))))))) (eg_name 5 nd) (ess_cons (es_set 6 (ev_call h_over_on (hr.mono (by decide)) (ea_cons (ev_var 3) (ea_cons (ev_var 4) (ea_cons (ev_var 1) (ea_cons (ev_var 2) (ea_cons (ev_var 5) ea_nil))))) (hl := (mCons_len (mCons_len (mCons_len (mCons_len (mCons_len mNil_len))))))) nd) (ess_one (es_if (et_ne (rm150 hr) (el_of (ev_var 6)) (el_of (ev_lst ea_nil))) (ess_one (es_ret (ev_var 6))) ess_nil)))))) (ess_one (es_ret (ev_lst ea_nil)))))))
/-! shut_by -/
abbrev N_shut_by : List Str := [("scene" : Str), ("corners" : Str), ("rows" : Str), ("corner" : Str), ("low" : Str), ("high" : Str), ("found" : Str)]
abbrev p_shut_by : List Str := [("scene" : Str), ("corners" : Str)]
def g_shut_by : Sm := (sSeq (sSet 2 (mCall F_made_rows (mCons (mVar 0) mNil))) (sSeq (sFor (mRow (mVar 1)) (gNm 3) (sIf (mNot (mTst (mCall F_is_within (mCons (mVar 0) (mCons (mVar 3) mNil))))) (sRet (mLst (mCons (mVar 3) mNil))) sNil)) (sSeq (sFor (mRow (mVar 2)) (gNm 4) (sFor (mRow (mVar 2)) (gNm 5) (sIf (mAnd (mTst (mBin fEq (mBin fIx (mVar 4) (mC (.int 0))) (mC (.str ("low" : Str))))) (mTst (mBin fEq (mBin fIx (mVar 5) (mC (.int 0))) (mC (.str ("high" : Str)))))) (sSeq (sSet 6 (mCall F_shut_by_pair (mCons (mVar 1) (mCons (mVar 4) (mCons (mVar 5) mNil))))) (sIf (mTst (mBin fNe (mVar 6) (mLst mNil))) (sRet (mVar 6)) sNil)) sNil))) (sRet (mLst mNil)))))
def F_shut_by : List Dt → Option Dt := runF g_shut_by 7
theorem nd_shut_by : N_shut_by.Nodup := by decide +kernel
theorem sc_shut_by : FnScope N_shut_by p_shut_by (defScope (top 67)) := ⟨rfl, rfl, rfl, nd_shut_by, rfl, by decide +kernel, by decide +kernel⟩
theorem bd_shut_by (G : Gk K mg) (h_made_rows : HasP P w K mg base 4 ("made_rows" : Str) 1 (spF K 1 F_made_rows)) (h_is_within : HasP P w K mg base 3 ("is_within" : Str) 2 (spF K 2 F_is_within)) (h_shut_by_pair : HasP P w K mg base 8 ("shut_by_pair" : Str) 3 (spF K 3 F_shut_by_pair)) : Bd P w K mg base N_shut_by ("shut_by" : Str) (defScope (top 67)) 8 f (defBody (top 67)) g_shut_by := fun cdv A outer s H E C hr =>
  have nd := nd_shut_by
  (ess_cons (es_set 2 (ev_call h_made_rows (hr.mono (by decide)) (ea_cons (ev_var 0) ea_nil) (hl := (mCons_len mNil_len))) nd) (ess_cons (es_for PassesOwn.never rfl (ei_row (ev_var 1)) (eg_name 3 nd) (ess_one (es_if (et_not (et_val (ev_call h_is_within (hr.mono (by decide)) (ea_cons (ev_var 0) (ea_cons (ev_var 3) ea_nil)) (hl := (mCons_len (mCons_len mNil_len)))))) (ess_one (es_ret (ev_lst (ea_cons (ev_var 3) ea_nil)))) ess_nil))) (ess_cons (es_for PassesOwn.never rfl (ei_row (ev_var 2)) (eg_name 4 nd) (ess_one (es_for PassesOwn.never rfl (ei_row (ev_var 2)) (eg_name 5 nd) (ess_one (es_if ((ew_and (et_eq (rm150 hr) (el_of (ev_ix (el_of (ev_var 4)) ev_int)) (el_of ev_str)) (ew_and1 (et_eq (rm150 hr) (el_of (ev_ix (el_of (ev_var 5)) ev_int)) (el_of ev_str))))).et (ess_cons (es_set 6 (ev_call h_shut_by_pair (hr.mono (by decide)) (ea_cons (ev_var 1) (ea_cons (ev_var 4) (ea_cons (ev_var 5) ea_nil))) (hl := (mCons_len (mCons_len (mCons_len mNil_len))))) nd) (ess_one (es_if (et_ne (rm150 hr) (el_of (ev_var 6)) (el_of (ev_lst ea_nil))) (ess_one (es_ret (ev_var 6))) ess_nil))) ess_nil))))) (ess_one (es_ret (ev_lst ea_nil))))))
/-! check_scene -/
abbrev N_check_scene : List Str := [("value" : Str), ("path" : Str)]
abbrev p_check_scene : List Str := [("value" : Str)]
def g_check_scene : Sm := (sFor (mRow (mCall F_wrong_in_scene (mCons (mVar 0) mNil))) (gNm 1) sNo)
def F_check_scene : List Dt → Option Dt := runF g_check_scene 2
theorem nd_check_scene : N_check_scene.Nodup := by decide +kernel
theorem sc_check_scene : FnScope N_check_scene p_check_scene (defScope (top 69)) := ⟨rfl, rfl, rfl, nd_check_scene, rfl, by decide +kernel, by decide +kernel⟩
theorem bd_check_scene (G : Gk K mg) (h_wrong_in_scene : HasP P w K mg base 6 ("wrong_in_scene" : Str) 1 (spF K 1 F_wrong_in_scene)) : Bd P w K mg base N_check_scene ("check_scene" : Str) (defScope (top 69)) 6 f (defBody (top 69)) g_check_scene := fun cdv A outer s H E C hr =>
  have nd := nd_check_scene
  (ess_one (es_for PassesOwn.never rfl (ei_row (ev_call h_wrong_in_scene (hr.mono (by decide)) (ea_cons (ev_var 0) ea_nil) (hl := (mCons_len mNil_len)))) (eg_name 1 nd) (ess_one es_no)))
/-! is_corner -/
abbrev N_is_corner : List Str := [("value" : Str)]
abbrev p_is_corner : List Str := [("value" : Str)]
def g_is_corner : Sm := (sRet (mAndV (mUn (gIsi "tuple") (mVar 0)) (mAndV (mBin fEq (mUn gLen (mVar 0)) (mC (.int 2))) (mAndV (mCall F_is_ratio (mCons (mBin fIx (mVar 0) (mC (.int 0))) mNil)) (mCall F_is_ratio (mCons (mBin fIx (mVar 0) (mC (.int 1))) mNil))))))
def F_is_corner : List Dt → Option Dt := runF g_is_corner 1
theorem nd_is_corner : N_is_corner.Nodup := by decide +kernel
theorem sc_is_corner : FnScope N_is_corner p_is_corner (defScope (top 72)) := ⟨rfl, rfl, rfl, nd_is_corner, rfl, by decide +kernel, by decide +kernel⟩
theorem bd_is_corner (G : Gk K mg) (h_is_ratio : HasP P w K mg base 2 ("is_ratio" : Str) 1 (spF K 1 F_is_ratio)) : Bd P w K mg base N_is_corner ("is_corner" : Str) (defScope (top 72)) 2 f (defBody (top 72)) g_is_corner := fun cdv A outer s H E C hr =>
  have nd := nd_is_corner
  (ess_one (es_ret (ev_and (ev_isi (T := "tuple") G.b_isinstance G.b_tuple (by decide +kernel) (el_of (ev_var 0))) (ev_and (ev_eq (rm150 hr) (el_of (ev_len G.b_len (el_of (ev_var 0)))) (el_of ev_int)) (ev_and (ev_call h_is_ratio (hr.mono (by decide)) (ea_cons (ev_ix (el_of (ev_var 0)) ev_int) ea_nil) (hl := (mCons_len mNil_len))) (ev_one (ev_call h_is_ratio (hr.mono (by decide)) (ea_cons (ev_ix (el_of (ev_var 0)) ev_int) ea_nil) (hl := (mCons_len mNil_len)))))))))
/-! check_corners -/
abbrev N_check_corners : List Str := [("value" : Str), ("index" : Str), ("each" : Str)]
abbrev p_check_corners : List Str := [("value" : Str)]
def g_check_corners : Sm := (sSeq (sIf (mOr (mNot (mTst (mUn (gIsi "tuple") (mVar 0)))) (mNot (mTst (mCh (fun i j => decide (i ≤ j)) (fun i j => decide (i ≤ j)) (mC (.int 3)) (mUn gLen (mVar 0)) (mC (.int 8)))))) sNo sNil) (sSeq (sFor (mEnum (mCons (mVar 0) mNil)) (gTp (gsCons (gNm 1) (gsCons (gNm 2) gsNil))) (sIf (mNot (mTst (mCall F_is_corner (mCons (mVar 2) mNil)))) sNo sNil)) (sIf (mNot (mTst (mCall F_is_round_by (mCons (mVar 0) mNil)))) sNo sNil)))
def F_check_corners : List Dt → Option Dt := runF g_check_corners 3
theorem nd_check_corners : N_check_corners.Nodup := by decide +kernel
theorem sc_check_corners : FnScope N_check_corners p_check_corners (defScope (top 73)) := ⟨rfl, rfl, rfl, nd_check_corners, rfl, by decide +kernel, by decide +kernel⟩
theorem bd_check_corners (G : Gk K mg) (h_is_corner : HasP P w K mg base 3 ("is_corner" : Str) 1 (spF K 1 F_is_corner)) (h_is_round_by : HasP P w K mg base 5 ("is_round_by" : Str) 1 (spF K 1 F_is_round_by)) : Bd P w K mg base N_check_corners ("check_corners" : Str) (defScope (top 73)) 5 f (defBody (top 73)) g_check_corners := fun cdv A outer s H E C hr =>
  have nd := nd_check_corners
  (ess_cons (es_if ((ew_or (et_not (et_val (ev_isi (T := "tuple") G.b_isinstance G.b_tuple (by decide +kernel) (el_of (ev_var 0))))) (ew_or1 (et_not (et_ch op_le op_le (el_of (ev_glob G.c_FEWEST)) (el_of (ev_len G.b_len (el_of (ev_var 0)))) (el_of (ev_glob G.c_MOST_SIDES))))))).et (ess_one es_no) ess_nil) (ess_cons (es_for PassesOwn.never rfl (ei_enum G.b_enumerate (ea_cons (ev_var 0) ea_nil)) (eg_tup rfl (egs_cons (eg_name 1 nd) (egs_cons (eg_name 2 nd) egs_nil)) (gsCons_len (gsCons_len (fun _ _ _ _ h => gsNil_len h)))) (ess_one (es_if (et_not (et_val (ev_call h_is_corner (hr.mono (by decide)) (ea_cons (ev_var 2) ea_nil) (hl := (mCons_len mNil_len))))) (ess_one es_no) ess_nil))) (ess_one (es_if (et_not (et_val (ev_call h_is_round_by (hr.mono (by decide)) (ea_cons (ev_var 0) ea_nil) (hl := (mCons_len mNil_len))))) (ess_one es_no) ess_nil))))
/-! shut_place -/
abbrev N_shut_place : List Str := [("scene" : Str), ("corners" : Str), ("found" : Str)]
abbrev p_shut_place : List Str := [("scene" : Str), ("corners" : Str)]
def g_shut_place : Sm := (sSeq (sEx (mCall F_check_scene (mCons (mVar 0) mNil))) (sSeq (sEx (mCall F_check_corners (mCons (mVar 1) mNil))) (sSeq (sSet 2 (mCall F_shut_by (mCons (mVar 0) (mCons (mVar 1) mNil)))) (sRet (mIf (mTst (mBin fNe (mVar 2) (mLst mNil))) (mBin fIx (mVar 2) (mC (.int 0))) (mC .none))))))
def F_shut_place : List Dt → Option Dt := runF g_shut_place 3
theorem nd_shut_place : N_shut_place.Nodup := by decide +kernel
theorem sc_shut_place : FnScope N_shut_place p_shut_place (defScope (top 74)) := ⟨rfl, rfl, rfl, nd_shut_place, rfl, by decide +kernel, by decide +kernel⟩
theorem bd_shut_place (G : Gk K mg) (h_check_scene : HasP P w K mg base 7 ("check_scene" : Str) 1 (spF K 1 F_check_scene)) (h_check_corners : HasP P w K mg base 6 ("check_corners" : Str) 1 (spF K 1 F_check_corners)) (h_shut_by : HasP P w K mg base 9 ("shut_by" : Str) 2 (spF K 2 F_shut_by)) : Bd P w K mg base N_shut_place ("shut_place" : Str) (defScope (top 74)) 9 f (defBody (top 74)) g_shut_place := fun cdv A outer s H E C hr =>
  have nd := nd_shut_place
  (ess_cons (es_expr (ev_call h_check_scene (hr.mono (by decide)) (ea_cons (ev_var 0) ea_nil) (hl := (mCons_len mNil_len)))) (ess_cons (es_expr (ev_call h_check_corners (hr.mono (by decide)) (ea_cons (ev_var 1) ea_nil) (hl := (mCons_len mNil_len)))) (ess_cons (es_set 2 (ev_call h_shut_by (hr.mono (by decide)) (ea_cons (ev_var 0) (ea_cons (ev_var 1) ea_nil)) (hl := (mCons_len (mCons_len mNil_len)))) nd) (ess_one (es_ret (ev_if (et_ne (rm150 hr) (el_of (ev_var 2)) (el_of (ev_lst ea_nil))) (ev_ix (el_of (ev_var 2)) ev_int) ev_non))))))
/-! _law_well -/
abbrev N_law_well : List Str := [("_law_script" : Str), ("_law_turn" : Str), ("_law_cell" : Str), ("_law_seed" : Str), ("_law_each" : Str)]
abbrev p_law_well : List Str := [("_law_script" : Str), ("_law_turn" : Str)]
def g_law_well : Sm := (sSeq (sSet 2 (mIf (mTst (mBin fLt (mVar 1) (mUn gLen (mScr 0)))) (mUn gInt (mBin fIx (mScr 0) (mVar 1))) (mC (.int 0)))) (sSeq (sSet 3 (mBin fAdd (mC (.int 520291)) (mBin fMul (mC (.int 8111)) (mVar 1)))) (sSeq (sFor (mRow (mSl (mScr 0) mOn (mOs (mC (.int 9))))) (gNm 4) (sSet 3 (mBin fMod (mUn gInt (mBin fAdd (mBin fAdd (mBin fMul (mVar 3) (mC (.int 40009))) (mBin fMod (mUn gInt (mVar 4)) (mC (.int 2147483477)))) (mC (.int 31)))) (mC (.int 2147483423))))) (sSeq (sSet 3 (mBin fMod (mUn gInt (mBin fAdd (mBin fAdd (mVar 3) (mBin fMul (mBin fMod (mUn gInt (mVar 2)) (mC (.int 2147483477))) (mC (.int 30013)))) (mC (.int 19)))) (mC (.int 2147483423)))) (sRet (mLst (mCons (mIf (mOr (mTst (mBin fLt (mVar 2) (mC (.int 0)))) (mTst (mBin fGe (mVar 2) (mBin fPow (mC (.int 10)) (mC (.int 15)))))) (mUn gAbs (mVar 2)) (mC (.int 0))) (mCons (mVar 3) (mCons (mC (.int 0)) mNil)))))))))
def W_law_well : List Int → Int → Option Jr := fun ns t => (runW g_law_well 5 ns t).bind jarOf
theorem nd_law_well : N_law_well.Nodup := by decide +kernel
theorem sc_law_well : FnScope N_law_well p_law_well (defScope (top 76)) := ⟨rfl, rfl, rfl, nd_law_well, rfl, by decide +kernel, by decide +kernel⟩
theorem bd_law_well (G : Gk K mg) : Bd P w K mg base N_law_well ("_law_well" : Str) (defScope (top 76)) 0 f (defBody (top 76)) g_law_well := fun cdv A outer s H E C hr =>
  have nd := nd_law_well
  (ess_cons (es_set 2 (ev_if (et_lt (el_of (ev_var 1)) (el_of (ev_len G.b_len (el_scr 0)))) (ev_int1 G.b_int (el_of (ev_ix (el_scr 0) (ev_var 1)))) ev_int) nd) (ess_cons (es_set 3 (ev_add ev_int (ev_mul ev_int (ev_var 1))) nd) (ess_cons (es_for PassesOwn.never rfl (ei_row (ev_slice (el_scr 0) eo_none (eo_some ev_int))) (eg_name 4 nd) (ess_one (es_set 3 (ev_mod (ev_int1 G.b_int (el_of (ev_add (ev_add (ev_mul (ev_var 3) ev_int) (ev_mod (ev_int1 G.b_int (el_of (ev_var 4))) ev_int)) ev_int))) ev_int) nd))) (ess_cons (es_set 3 (ev_mod (ev_int1 G.b_int (el_of (ev_add (ev_add (ev_var 3) (ev_mul (ev_mod (ev_int1 G.b_int (el_of (ev_var 2))) ev_int) ev_int)) ev_int))) ev_int) nd) (ess_one (es_ret (ev_lst (ea_cons (ev_if ((ew_or (et_lt (el_of (ev_var 2)) (el_of ev_int)) (ew_or1 (et_ge (el_of (ev_var 2)) (el_of (ev_pow ev_int ev_int)))))).et (ev_abs G.b_abs (el_of (ev_var 2))) ev_int) (ea_cons (ev_var 3) (ea_cons ev_int ea_nil))))))))))
/-! _law_draw -/
abbrev N_law_draw : List Str := [("_law_well_here" : Str), ("_law_top" : Str), ("_law_figure" : Str), ("_law_seed" : Str)]
abbrev p_law_draw : List Str := [("_law_well_here" : Str), ("_law_top" : Str)]
def g_law_draw : Sm := (sSeq (sIf (mTst (mBin fGt (mJix 0 (mC (.int 0))) (mC (.int 0)))) (sSeq (sAsg (mBin gDivmod (mJix 0 (mC (.int 0))) (mVar 1)) (gTp (gsCons (gJar 0 0) (gsCons (gNm 2) gsNil)))) (sRet (mVar 2))) sNil) (sSeq (sAsg (mBin fAdd (mJix 0 (mC (.int 2))) (mC (.int 1))) (gJar 0 2)) (sSeq (sSet 3 (mBin fMod (mUn gInt (mBin fAdd (mBin fAdd (mBin fMul (mJix 0 (mC (.int 1))) (mC (.int 48271))) (mBin fMul (mC (.int 46337)) (mJix 0 (mC (.int 2))))) (mC (.int 13)))) (mC (.int 2147483423)))) (sSeq (sAsg (mVar 3) (gJar 0 1)) (sRet (mBin fMod (mUn gInt (mBin fDiv (mBin fMul (mVar 3) (mBin fAdd (mBin fMod (mUn gInt (mVar 3)) (mC (.int 7001))) (mC (.int 40013)))) (mC (.int 907)))) (mVar 1)))))))
def J_law_draw : List Dt → Jr → Option (Dt × Jr) := runJ g_law_draw 4
theorem nd_law_draw : N_law_draw.Nodup := by decide +kernel
theorem sc_law_draw : FnScope N_law_draw p_law_draw (defScope (top 77)) := ⟨rfl, rfl, rfl, nd_law_draw, rfl, by decide +kernel, by decide +kernel⟩
theorem bd_law_draw (G : Gk K mg) : Bd P w K mg base N_law_draw ("_law_draw" : Str) (defScope (top 77)) 0 f (defBody (top 77)) g_law_draw := fun cdv A outer s H E C hr =>
  have nd := nd_law_draw
  (ess_cons (es_if (et_gt (el_of (ev_jix 0 ev_int)) (el_of ev_int)) (ess_cons (es_asg (ev_divmod G.b_divmod (el_of (ev_jix 0 ev_int)) (el_of (ev_var 1))) (eg_tup rfl (egs_cons (eg_jar 0 0) (egs_cons (eg_name 2 nd) egs_nil)) (gsCons_len (gsCons_len (fun _ _ _ _ h => gsNil_len h))))) (ess_one (es_ret (ev_var 2)))) ess_nil) (ess_cons (es_asg (ev_add (ev_jix 0 ev_int) ev_int) (eg_jar 0 2)) (ess_cons (es_set 3 (ev_mod (ev_int1 G.b_int (el_of (ev_add (ev_add (ev_mul (ev_jix 0 ev_int) ev_int) (ev_mul ev_int (ev_jix 0 ev_int))) ev_int))) ev_int) nd) (ess_cons (es_asg (ev_var 3) (eg_jar 0 1)) (ess_one (es_ret (ev_mod (ev_int1 G.b_int (el_of (ev_fdiv (ev_mul (ev_var 3) (ev_add (ev_mod (ev_int1 G.b_int (el_of (ev_var 3))) ev_int) ev_int)) ev_int))) (ev_var 1))))))))
/-! _law_pick -/
abbrev N_law_pick : List Str := [("_law_well_here" : Str), ("_law_some" : Str)]
abbrev p_law_pick : List Str := [("_law_well_here" : Str), ("_law_some" : Str)]
def g_law_pick : Sm := (sRet (mBin fIx (mVar 1) (mCallJ 0 J_law_draw (mCons (mUn gLen (mVar 1)) mNil))))
def J_law_pick : List Dt → Jr → Option (Dt × Jr) := runJ g_law_pick 2
theorem nd_law_pick : N_law_pick.Nodup := by decide +kernel
theorem sc_law_pick : FnScope N_law_pick p_law_pick (defScope (top 78)) := ⟨rfl, rfl, rfl, nd_law_pick, rfl, by decide +kernel, by decide +kernel⟩
theorem bd_law_pick (G : Gk K mg) (h_law_draw : HasP P w K mg base 1 ("_law_draw" : Str) 2 (spJ K 2 J_law_draw)) : Bd P w K mg base N_law_pick ("_law_pick" : Str) (defScope (top 78)) 1 f (defBody (top 78)) g_law_pick := fun cdv A outer s H E C hr =>
  have nd := nd_law_pick
  (ess_one (es_ret (ev_ix (el_of (ev_var 1)) (ev_callJ 0 h_law_draw (hr.mono (by decide)) (ea_cons (ev_len G.b_len (el_of (ev_var 1))) ea_nil) (lenJ (mCons_len mNil_len))))))
/-! _law_low -/
abbrev N_law_low : List Str := [("_law_top" : Str), ("_law_under" : Str), ("_law_one" : Str), ("_law_two" : Str)]
abbrev p_law_low : List Str := [("_law_top" : Str), ("_law_under" : Str)]
def g_law_low : Sm := (sSeq (sPar [2, 3] (pD (mUn gAbs (mVar 0)) (pD (mVar 1) pNil))) (sSeq (sWhile (fun r => fuelI r 3) (mTst (mBin fNe (mVar 3) (mC (.int 0)))) (sPar [2, 3] (pD (mVar 3) (pD (mBin fMod (mUn gInt (mVar 2)) (mVar 3)) pNil)))) (sRet (mTup (mCons (mBin fDiv (mVar 0) (mVar 2)) (mCons (mBin fDiv (mVar 1) (mVar 2)) mNil))))))
def F_law_low : List Dt → Option Dt := runF g_law_low 4
theorem nd_law_low : N_law_low.Nodup := by decide +kernel
theorem sc_law_low : FnScope N_law_low p_law_low (defScope (top 79)) := ⟨rfl, rfl, rfl, nd_law_low, rfl, by decide +kernel, by decide +kernel⟩
theorem bd_law_low (G : Gk K mg) : Bd P w K mg base N_law_low ("_law_low" : Str) (defScope (top 79)) 0 f (defBody (top 79)) g_law_low := fun cdv A outer s H E C hr =>
  have nd := nd_law_low
  (ess_cons (es_par2 2 3 (ep_d (ev_abs G.b_abs (el_of (ev_var 0))) (ep_d (ev_var 1) ep_nil)) rfl nd) (ess_cons (es_while (fun r => fuelI r 3) PassesOwn.never (et_ne (rm150 hr) (el_of (ev_var 3)) (el_of ev_int)) (ess_one (es_par2 2 3 (ep_d (ev_var 3) (ep_d (ev_mod (ev_int1 G.b_int (el_of (ev_var 2))) (ev_var 3)) ep_nil)) rfl nd))) (ess_one (es_ret (ev_tup (ea_cons (ev_fdiv (ev_var 0) (ev_var 2)) (ea_cons (ev_fdiv (ev_var 1) (ev_var 2)) ea_nil)))))))
/-! _law_six -/
abbrev N_law_six : List Str := [("_law_number" : Str)]
abbrev p_law_six : List Str := [("_law_number" : Str)]
def g_law_six : Sm := (sRet (mCall F_law_low (mCons (mVar 0) (mCons (mC (.int 6)) mNil))))
def F_law_six : List Dt → Option Dt := runF g_law_six 1
theorem nd_law_six : N_law_six.Nodup := by decide +kernel
theorem sc_law_six : FnScope N_law_six p_law_six (defScope (top 80)) := ⟨rfl, rfl, rfl, nd_law_six, rfl, by decide +kernel, by decide +kernel⟩
theorem bd_law_six (G : Gk K mg) (h_law_low : HasP P w K mg base 1 ("_law_low" : Str) 2 (spF K 2 F_law_low)) : Bd P w K mg base N_law_six ("_law_six" : Str) (defScope (top 80)) 1 f (defBody (top 80)) g_law_six := fun cdv A outer s H E C hr =>
  have nd := nd_law_six
  (ess_one (es_ret (ev_call h_law_low (hr.mono (by decide)) (ea_cons (ev_var 0) (ea_cons ev_int ea_nil)) (hl := (mCons_len (mCons_len mNil_len))))))
/-! _law_sign -/
abbrev N_law_sign : List Str := [("_law_number" : Str)]
abbrev p_law_sign : List Str := [("_law_number" : Str)]
def g_law_sign : Sm := (sRet (mBin fSub (mUn gInt (mBin fGt (mVar 0) (mC (.int 0)))) (mUn gInt (mBin fLt (mVar 0) (mC (.int 0))))))
def F_law_sign : List Dt → Option Dt := runF g_law_sign 1
theorem nd_law_sign : N_law_sign.Nodup := by decide +kernel
theorem sc_law_sign : FnScope N_law_sign p_law_sign (defScope (top 81)) := ⟨rfl, rfl, rfl, nd_law_sign, rfl, by decide +kernel, by decide +kernel⟩
theorem bd_law_sign (G : Gk K mg) : Bd P w K mg base N_law_sign ("_law_sign" : Str) (defScope (top 81)) 0 f (defBody (top 81)) g_law_sign := fun cdv A outer s H E C hr =>
  have nd := nd_law_sign
  (ess_one (es_ret (ev_sub (ev_int1 G.b_int (el_of (ev_gt (el_of (ev_var 0)) (el_of ev_int)))) (ev_int1 G.b_int (el_of (ev_lt (el_of (ev_var 0)) (el_of ev_int)))))))
/-! _law_sign_two -/
abbrev N_law_sign_two : List Str := [("_law_p" : Str), ("_law_q" : Str), ("_law_r" : Str), ("_law_one" : Str), ("_law_two" : Str)]
abbrev p_law_sign_two : List Str := [("_law_p" : Str), ("_law_q" : Str), ("_law_r" : Str)]
def g_law_sign_two : Sm := (sSeq (sPar [3, 4] (pD (mCall F_law_sign (mCons (mVar 0) mNil)) (pD (mIf (mTst (mBin fGt (mVar 2) (mC (.int 0)))) (mCall F_law_sign (mCons (mVar 1) mNil)) (mC (.int 0))) pNil))) (sSeq (sIf (mOr (mTst (mBin fEq (mVar 3) (mC (.int 0)))) (mOr (mTst (mBin fEq (mVar 4) (mC (.int 0)))) (mTst (mBin fEq (mVar 3) (mVar 4))))) (sRet (mIf (mTst (mBin fNe (mVar 3) (mC (.int 0)))) (mVar 3) (mVar 4))) sNil) (sRet (mBin fMul (mVar 3) (mCall F_law_sign (mCons (mBin fSub (mBin fMul (mVar 0) (mVar 0)) (mBin fMul (mBin fMul (mVar 1) (mVar 1)) (mVar 2))) mNil))))))
def F_law_sign_two : List Dt → Option Dt := runF g_law_sign_two 5
theorem nd_law_sign_two : N_law_sign_two.Nodup := by decide +kernel
theorem sc_law_sign_two : FnScope N_law_sign_two p_law_sign_two (defScope (top 82)) := ⟨rfl, rfl, rfl, nd_law_sign_two, rfl, by decide +kernel, by decide +kernel⟩
theorem bd_law_sign_two (G : Gk K mg) (h_law_sign : HasP P w K mg base 1 ("_law_sign" : Str) 1 (spF K 1 F_law_sign)) : Bd P w K mg base N_law_sign_two ("_law_sign_two" : Str) (defScope (top 82)) 1 f (defBody (top 82)) g_law_sign_two := fun cdv A outer s H E C hr =>
  have nd := nd_law_sign_two
  (ess_cons (es_par2 3 4 (ep_d (ev_call h_law_sign (hr.mono (by decide)) (ea_cons (ev_var 0) ea_nil) (hl := (mCons_len mNil_len))) (ep_d (ev_if (et_gt (el_of (ev_var 2)) (el_of ev_int)) (ev_call h_law_sign (hr.mono (by decide)) (ea_cons (ev_var 1) ea_nil) (hl := (mCons_len mNil_len))) ev_int) ep_nil)) rfl nd) (ess_cons (es_if ((ew_or (et_eq (rm150 hr) (el_of (ev_var 3)) (el_of ev_int)) (ew_or (et_eq (rm150 hr) (el_of (ev_var 4)) (el_of ev_int)) (ew_or1 (et_eq (rm150 hr) (el_of (ev_var 3)) (el_of (ev_var 4))))))).et (ess_one (es_ret (ev_if (et_ne (rm150 hr) (el_of (ev_var 3)) (el_of ev_int)) (ev_var 3) (ev_var 4)))) ess_nil) (ess_one (es_ret (ev_mul (ev_var 3) (ev_call h_law_sign (hr.mono (by decide)) (ea_cons (ev_sub (ev_mul (ev_var 0) (ev_var 0)) (ev_mul (ev_mul (ev_var 1) (ev_var 1)) (ev_var 2))) ea_nil) (hl := (mCons_len mNil_len))))))))
/-! _law_sign_three -/
abbrev N_law_sign_three : List Str := [("_law_p" : Str), ("_law_q" : Str), ("_law_r" : Str), ("_law_c" : Str), ("_law_s" : Str), ("_law_one" : Str), ("_law_two" : Str)]
abbrev p_law_sign_three : List Str := [("_law_p" : Str), ("_law_q" : Str), ("_law_r" : Str), ("_law_c" : Str), ("_law_s" : Str)]
def g_law_sign_three : Sm := (sSeq (sPar [5, 6] (pD (mCall F_law_sign_two (mCons (mVar 0) (mCons (mVar 1) (mCons (mVar 2) mNil)))) (pD (mIf (mTst (mBin fGt (mVar 4) (mC (.int 0)))) (mCall F_law_sign (mCons (mVar 3) mNil)) (mC (.int 0))) pNil))) (sSeq (sIf (mOr (mTst (mBin fEq (mVar 5) (mC (.int 0)))) (mOr (mTst (mBin fEq (mVar 6) (mC (.int 0)))) (mTst (mBin fEq (mVar 5) (mVar 6))))) (sRet (mIf (mTst (mBin fNe (mVar 5) (mC (.int 0)))) (mVar 5) (mVar 6))) sNil) (sRet (mBin fMul (mVar 5) (mCall F_law_sign_two (mCons (mBin fSub (mBin fAdd (mBin fMul (mVar 0) (mVar 0)) (mBin fMul (mBin fMul (mVar 1) (mVar 1)) (mVar 2))) (mBin fMul (mBin fMul (mVar 3) (mVar 3)) (mVar 4))) (mCons (mBin fMul (mBin fMul (mC (.int 2)) (mVar 0)) (mVar 1)) (mCons (mVar 2) mNil))))))))
def F_law_sign_three : List Dt → Option Dt := runF g_law_sign_three 7
theorem nd_law_sign_three : N_law_sign_three.Nodup := by decide +kernel
theorem sc_law_sign_three : FnScope N_law_sign_three p_law_sign_three (defScope (top 83)) := ⟨rfl, rfl, rfl, nd_law_sign_three, rfl, by decide +kernel, by decide +kernel⟩
theorem bd_law_sign_three (G : Gk K mg) (h_law_sign : HasP P w K mg base 1 ("_law_sign" : Str) 1 (spF K 1 F_law_sign)) (h_law_sign_two : HasP P w K mg base 2 ("_law_sign_two" : Str) 3 (spF K 3 F_law_sign_two)) : Bd P w K mg base N_law_sign_three ("_law_sign_three" : Str) (defScope (top 83)) 2 f (defBody (top 83)) g_law_sign_three := fun cdv A outer s H E C hr =>
  have nd := nd_law_sign_three
  (ess_cons (es_par2 5 6 (ep_d (ev_call h_law_sign_two (hr.mono (by decide)) (ea_cons (ev_var 0) (ea_cons (ev_var 1) (ea_cons (ev_var 2) ea_nil))) (hl := (mCons_len (mCons_len (mCons_len mNil_len))))) (ep_d (ev_if (et_gt (el_of (ev_var 4)) (el_of ev_int)) (ev_call h_law_sign (hr.mono (by decide)) (ea_cons (ev_var 3) ea_nil) (hl := (mCons_len mNil_len))) ev_int) ep_nil)) rfl nd) (ess_cons (es_if ((ew_or (et_eq (rm150 hr) (el_of (ev_var 5)) (el_of ev_int)) (ew_or (et_eq (rm150 hr) (el_of (ev_var 6)) (el_of ev_int)) (ew_or1 (et_eq (rm150 hr) (el_of (ev_var 5)) (el_of (ev_var 6))))))).et (ess_one (es_ret (ev_if (et_ne (rm150 hr) (el_of (ev_var 5)) (el_of ev_int)) (ev_var 5) (ev_var 6)))) ess_nil) (ess_one (es_ret (ev_mul (ev_var 5) (ev_call h_law_sign_two (hr.mono (by decide)) (ea_cons (ev_sub (ev_add (ev_mul (ev_var 0) (ev_var 0)) (ev_mul (ev_mul (ev_var 1) (ev_var 1)) (ev_var 2))) (ev_mul (ev_mul (ev_var 3) (ev_var 3)) (ev_var 4))) (ea_cons (ev_mul (ev_mul ev_int (ev_var 0)) (ev_var 1)) (ea_cons (ev_var 2) ea_nil))) (hl := (mCons_len (mCons_len (mCons_len mNil_len))))))))))
/-! _law_name -/
abbrev N_law_name : List Str := [("_law_at_here" : Str)]
abbrev p_law_name : List Str := [("_law_at_here" : Str)]
def g_law_name : Sm := (sRet (mBin fIx (mTup (mCons (mC (.str ("a" : Str))) (mCons (mC (.str ("b" : Str))) (mCons (mC (.str ("c" : Str))) (mCons (mC (.str ("d" : Str))) (mCons (mC (.str ("e" : Str))) (mCons (mC (.str ("f" : Str))) mNil))))))) (mVar 0)))
def F_law_name : List Dt → Option Dt := runF g_law_name 1
theorem nd_law_name : N_law_name.Nodup := by decide +kernel
theorem sc_law_name : FnScope N_law_name p_law_name (defScope (top 84)) := ⟨rfl, rfl, rfl, nd_law_name, rfl, by decide +kernel, by decide +kernel⟩
theorem bd_law_name (G : Gk K mg) : Bd P w K mg base N_law_name ("_law_name" : Str) (defScope (top 84)) 0 f (defBody (top 84)) g_law_name := fun cdv A outer s H E C hr =>
  have nd := nd_law_name
  (ess_one (es_ret (ev_ix (el_of (ev_tup (ea_cons ev_str (ea_cons ev_str (ea_cons ev_str (ea_cons ev_str (ea_cons ev_str (ea_cons ev_str ea_nil)))))))) (ev_var 0))))
/-! _law_scene -/
abbrev N_law_scene : List Str := [("_law_world" : Str), ("_law_stations" : Str), ("_law_at_here" : Str), ("_law_x" : Str), ("_law_y" : Str), ("_law_readings" : Str), ("_law_low_here" : Str), ("_law_high" : Str), ("_law_u" : Str), ("_law_v" : Str), ("_law_c" : Str)]
abbrev p_law_scene : List Str := [("_law_world" : Str)]
def g_law_scene : Sm := (sSeq (sOwn 1 (mDisp mNil)) (sSeq (sFor (mEnum (mCons (mBin fIx (mVar 0) (mC (.int 0))) mNil)) (gTp (gsCons (gNm 2) (gsCons (gTp (gsCons (gNm 3) (gsCons (gNm 4) gsNil))) gsNil))) (sApp 1 (mTup (mCons (mCall F_law_name (mCons (mVar 2) mNil)) (mCons (mCall F_law_six (mCons (mVar 3) mNil)) (mCons (mCall F_law_six (mCons (mVar 4) mNil)) mNil)))))) (sFrz 1 (sSeq (sOwn 5 (mDisp mNil)) (sSeq (sFor (mRow (mBin fIx (mVar 0) (mC (.int 1)))) (gTp (gsCons (gNm 2) (gsCons (gNm 6) (gsCons (gNm 7) gsNil)))) (sSeq (sSet 6 (mIf (mTst (mIsN (mVar 6))) (mC .none) (mCall F_law_six (mCons (mVar 6) mNil)))) (sApp 5 (mTup (mCons (mCall F_law_name (mCons (mVar 2) mNil)) (mCons (mVar 6) (mCons (mIf (mTst (mIsN (mVar 7))) (mC .none) (mCall F_law_six (mCons (mVar 7) mNil))) mNil))))))) (sFrz 5 (sRet (mTup (mCons (mUn gTuple (mVar 1)) (mCons (mUn gTuple (mVar 5)) (mCons (mUn gTuple (mL (mLc (mRow (mBin fIx (mVar 0) (mC (.int 2)))) (gTp (gsCons (gNm 8) (gsCons (gNm 9) (gsCons (gNm 10) gsNil)))) mYes (mTup (mCons (mTup (mCons (mVar 8) (mCons (mC (.int 1)) mNil))) (mCons (mTup (mCons (mVar 9) (mCons (mC (.int 1)) mNil))) (mCons (mCall F_law_six (mCons (mVar 10) mNil)) mNil)))) [8, 9, 10]))) mNil)))))))))))
def F_law_scene : List Dt → Option Dt := runF g_law_scene 11
theorem nd_law_scene : N_law_scene.Nodup := by decide +kernel
theorem sc_law_scene : FnScope N_law_scene p_law_scene (defScope (top 85)) := ⟨rfl, rfl, rfl, nd_law_scene, rfl, by decide +kernel, by decide +kernel⟩
theorem bd_law_scene (G : Gk K mg) (h_law_six : HasP P w K mg base 2 ("_law_six" : Str) 1 (spF K 1 F_law_six)) (h_law_name : HasP P w K mg base 1 ("_law_name" : Str) 1 (spF K 1 F_law_name)) : Bd P w K mg base N_law_scene ("_law_scene" : Str) (defScope (top 85)) 2 f (defBody (top 85)) g_law_scene := fun cdv A outer s H E C hr =>
  have nd := nd_law_scene
  (ess_cons (es_own 1 (ef_lst ea_nil) nd) (ess_cons (es_for PassesOwn.never rfl (ei_enum G.b_enumerate (ea_cons (ev_ix (el_of (ev_var 0)) ev_int) ea_nil)) (eg_tup rfl (egs_cons (eg_name 2 nd) (egs_cons (eg_tup rfl (egs_cons (eg_name 3 nd) (egs_cons (eg_name 4 nd) egs_nil)) (gsCons_len (gsCons_len (fun _ _ _ _ h => gsNil_len h)))) egs_nil)) (gsCons_len (gsCons_len (fun _ _ _ _ h => gsNil_len h)))) (ess_one (es_app 1 (ev_tup (ea_cons (ev_call h_law_name (hr.mono (by decide)) (ea_cons (ev_var 2) ea_nil) (hl := (mCons_len mNil_len))) (ea_cons (ev_call h_law_six (hr.mono (by decide)) (ea_cons (ev_var 3) ea_nil) (hl := (mCons_len mNil_len))) (ea_cons (ev_call h_law_six (hr.mono (by decide)) (ea_cons (ev_var 4) ea_nil) (hl := (mCons_len mNil_len))) ea_nil))))))) (ess_frz 1 (ess_cons (es_own 5 (ef_lst ea_nil) nd) (ess_cons (es_for PassesOwn.never rfl (ei_row (ev_ix (el_of (ev_var 0)) ev_int)) (eg_tup rfl (egs_cons (eg_name 2 nd) (egs_cons (eg_name 6 nd) (egs_cons (eg_name 7 nd) egs_nil))) (gsCons_len (gsCons_len (gsCons_len (fun _ _ _ _ h => gsNil_len h))))) (ess_cons (es_set 6 (ev_if (et_isN (el_of (ev_var 6))) ev_non (ev_call h_law_six (hr.mono (by decide)) (ea_cons (ev_var 6) ea_nil) (hl := (mCons_len mNil_len)))) nd) (ess_one (es_app 5 (ev_tup (ea_cons (ev_call h_law_name (hr.mono (by decide)) (ea_cons (ev_var 2) ea_nil) (hl := (mCons_len mNil_len))) (ea_cons (ev_var 6) (ea_cons (ev_if (et_isN (el_of (ev_var 7))) ev_non (ev_call h_law_six (hr.mono (by decide)) (ea_cons (ev_var 7) ea_nil) (hl := (mCons_len mNil_len)))) ea_nil)))))))) (ess_frz 5 (ess_one (es_ret (ev_tup (ea_cons (ev_tuple G.b_tuple (el_of (ev_var 1))) (ea_cons (ev_tuple G.b_tuple (el_of (ev_var 5))) (ea_cons (ev_tuple G.b_tuple (el_of (ev_ef (ef_lc [(("_law_u" : Str), 8), (("_law_v" : Str), 9), (("_law_c" : Str), 10)] rfl nd (ei_row (ev_ix (el_of (ev_var 0)) ev_int)) (blkOk_by (by kernel_rfl)) (fun _ _ _ _ _ => (eg_tup rfl (egs_cons (eg_name 8 nd) (egs_cons (eg_name 9 nd) (egs_cons (eg_name 10 nd) egs_nil))) (gsCons_len (gsCons_len (gsCons_len (fun _ _ _ _ h => gsNil_len h)))))) (fun _ _ _ _ _ => ets_nil) (fun _ _ _ _ _ => (ev_tup (ea_cons (ev_tup (ea_cons (ev_var 8) (ea_cons ev_int ea_nil))) (ea_cons (ev_tup (ea_cons (ev_var 9) (ea_cons ev_int ea_nil))) (ea_cons (ev_call h_law_six (hr.mono (by decide)) (ea_cons (ev_var 10) ea_nil) (hl := (mCons_len mNil_len))) ea_nil))))))))) ea_nil))))))))))))
/-! _law_is_whole -/
abbrev N_law_is_whole : List Str := [("_law_thing" : Str)]
abbrev p_law_is_whole : List Str := [("_law_thing" : Str)]
def g_law_is_whole : Sm := (sRet (mAndV (mUn (gIsi "int") (mVar 0)) (mNotV (mUn (gIsi "bool") (mVar 0)))))
def F_law_is_whole : List Dt → Option Dt := runF g_law_is_whole 1
theorem nd_law_is_whole : N_law_is_whole.Nodup := by decide +kernel
theorem sc_law_is_whole : FnScope N_law_is_whole p_law_is_whole (defScope (top 87)) := ⟨rfl, rfl, rfl, nd_law_is_whole, rfl, by decide +kernel, by decide +kernel⟩
theorem bd_law_is_whole (G : Gk K mg) : Bd P w K mg base N_law_is_whole ("_law_is_whole" : Str) (defScope (top 87)) 0 f (defBody (top 87)) g_law_is_whole := fun cdv A outer s H E C hr =>
  have nd := nd_law_is_whole
  (ess_one (es_ret (ev_and (ev_isi (T := "int") G.b_isinstance G.b_int (by decide +kernel) (el_of (ev_var 0))) (ev_one (ev_not (ev_isi (T := "bool") G.b_isinstance G.b_bool (by decide +kernel) (el_of (ev_var 0))))))))
/-! _law_is_fraction -/
abbrev N_law_is_fraction : List Str := [("_law_thing" : Str), ("_law_x" : Str)]
abbrev p_law_is_fraction : List Str := [("_law_thing" : Str)]
def g_law_is_fraction : Sm := (sSeq (sIf (mOr (mNot (mTst (mUn (gIsi "tuple") (mVar 0)))) (mOr (mTst (mBin fNe (mUn gLen (mVar 0)) (mC (.int 2)))) (mTst (mBin fNe (mL (mLc (mRow (mVar 0)) (gNm 1) (mNot (mTst (mCall F_law_is_whole (mCons (mVar 1) mNil)))) (mVar 1) [1])) (mLst mNil))))) (sRet (mC (.bool false))) sNil) (sRet (mAndV (mBin fGt (mBin fIx (mVar 0) (mC (.int 1))) (mC (.int 0))) (mBin fEq (mCall F_law_low (mCons (mBin fIx (mVar 0) (mC (.int 0))) (mCons (mBin fIx (mVar 0) (mC (.int 1))) mNil))) (mVar 0)))))
def F_law_is_fraction : List Dt → Option Dt := runF g_law_is_fraction 2
theorem nd_law_is_fraction : N_law_is_fraction.Nodup := by decide +kernel
theorem sc_law_is_fraction : FnScope N_law_is_fraction p_law_is_fraction (defScope (top 86)) := ⟨rfl, rfl, rfl, nd_law_is_fraction, rfl, by decide +kernel, by decide +kernel⟩
theorem bd_law_is_fraction (G : Gk K mg) (h_law_is_whole : HasP P w K mg base 1 ("_law_is_whole" : Str) 1 (spF K 1 F_law_is_whole)) (h_law_low : HasP P w K mg base 1 ("_law_low" : Str) 2 (spF K 2 F_law_low)) : Bd P w K mg base N_law_is_fraction ("_law_is_fraction" : Str) (defScope (top 86)) 1 f (defBody (top 86)) g_law_is_fraction := fun cdv A outer s H E C hr =>
  have nd := nd_law_is_fraction
  (ess_cons (es_if ((ew_or (et_not (et_val (ev_isi (T := "tuple") G.b_isinstance G.b_tuple (by decide +kernel) (el_of (ev_var 0))))) (ew_or (et_ne (rm150 hr) (el_of (ev_len G.b_len (el_of (ev_var 0)))) (el_of ev_int)) (ew_or1 (et_ne (rm150 hr) (el_of (ev_ef (ef_lc [(("_law_x" : Str), 1)] rfl nd (ei_row (ev_var 0)) (blkOk_by (by kernel_rfl)) (fun _ _ _ _ _ => (eg_name 1 nd)) (fun _ _ _ _ _ => (ets_one (et_not (et_val (ev_call h_law_is_whole (hr.mono (by decide)) (ea_cons (ev_var 1) ea_nil) (hl := (mCons_len mNil_len))))))) (fun _ _ _ _ _ => (ev_var 1))))) (el_of (ev_lst ea_nil))))))).et (ess_one (es_ret ev_bl)) ess_nil) (ess_one (es_ret (ev_and (ev_gt (el_of (ev_ix (el_of (ev_var 0)) ev_int)) (el_of ev_int)) (ev_one (ev_eq (rm150 hr) (el_of (ev_call h_law_low (hr.mono (by decide)) (ea_cons (ev_ix (el_of (ev_var 0)) ev_int) (ea_cons (ev_ix (el_of (ev_var 0)) ev_int) ea_nil)) (hl := (mCons_len (mCons_len mNil_len))))) (el_of (ev_var 0))))))))
/-! _law_place -/
abbrev N_law_place : List Str := [("_law_x" : Str), ("_law_y" : Str)]
abbrev p_law_place : List Str := [("_law_x" : Str), ("_law_y" : Str)]
def g_law_place : Sm := (sRet (mTup (mCons (mCall F_law_six (mCons (mVar 0) mNil)) (mCons (mCall F_law_six (mCons (mVar 1) mNil)) mNil))))
def F_law_place : List Dt → Option Dt := runF g_law_place 2
theorem nd_law_place : N_law_place.Nodup := by decide +kernel
theorem sc_law_place : FnScope N_law_place p_law_place (defScope (top 88)) := ⟨rfl, rfl, rfl, nd_law_place, rfl, by decide +kernel, by decide +kernel⟩
theorem bd_law_place (G : Gk K mg) (h_law_six : HasP P w K mg base 2 ("_law_six" : Str) 1 (spF K 1 F_law_six)) : Bd P w K mg base N_law_place ("_law_place" : Str) (defScope (top 88)) 2 f (defBody (top 88)) g_law_place := fun cdv A outer s H E C hr =>
  have nd := nd_law_place
  (ess_one (es_ret (ev_tup (ea_cons (ev_call h_law_six (hr.mono (by decide)) (ea_cons (ev_var 0) ea_nil) (hl := (mCons_len mNil_len))) (ea_cons (ev_call h_law_six (hr.mono (by decide)) (ea_cons (ev_var 1) ea_nil) (hl := (mCons_len mNil_len))) ea_nil)))))
/-! _law_is_within -/
abbrev N_law_is_within : List Str := [("_law_world" : Str), ("_law_x" : Str), ("_law_y" : Str), ("_law_u" : Str), ("_law_v" : Str), ("_law_c" : Str)]
abbrev p_law_is_within : List Str := [("_law_world" : Str), ("_law_x" : Str), ("_law_y" : Str)]
def g_law_is_within : Sm := (sRet (mUn gAll (mL (mLc (mRow (mBin fIx (mVar 0) (mC (.int 2)))) (gTp (gsCons (gNm 3) (gsCons (gNm 4) (gsCons (gNm 5) gsNil)))) mYes (mBin fLe (mBin fAdd (mBin fMul (mVar 3) (mVar 1)) (mBin fMul (mVar 4) (mVar 2))) (mVar 5)) [3, 4, 5]))))
def F_law_is_within : List Dt → Option Dt := runF g_law_is_within 6
theorem nd_law_is_within : N_law_is_within.Nodup := by decide +kernel
theorem sc_law_is_within : FnScope N_law_is_within p_law_is_within (defScope (top 89)) := ⟨rfl, rfl, rfl, nd_law_is_within, rfl, by decide +kernel, by decide +kernel⟩
theorem bd_law_is_within (G : Gk K mg) : Bd P w K mg base N_law_is_within ("_law_is_within" : Str) (defScope (top 89)) 0 f (defBody (top 89)) g_law_is_within := fun cdv A outer s H E C hr =>
  have nd := nd_law_is_within
  (ess_one (es_ret (ev_all rfl G.b_all (el_of (ev_ef (ef_lc [(("_law_u" : Str), 3), (("_law_v" : Str), 4), (("_law_c" : Str), 5)] rfl nd (ei_row (ev_ix (el_of (ev_var 0)) ev_int)) (blkOk_by (by kernel_rfl)) (fun _ _ _ _ _ => (eg_tup rfl (egs_cons (eg_name 3 nd) (egs_cons (eg_name 4 nd) (egs_cons (eg_name 5 nd) egs_nil))) (gsCons_len (gsCons_len (gsCons_len (fun _ _ _ _ h => gsNil_len h)))))) (fun _ _ _ _ _ => ets_nil) (fun _ _ _ _ _ => (ev_le (el_of (ev_add (ev_mul (ev_var 3) (ev_var 1)) (ev_mul (ev_var 4) (ev_var 2)))) (el_of (ev_var 5))))))))))
/-! _law_far -/
abbrev N_law_far : List Str := [("_law_spot" : Str), ("_law_x" : Str), ("_law_y" : Str)]
abbrev p_law_far : List Str := [("_law_spot" : Str), ("_law_x" : Str), ("_law_y" : Str)]
def g_law_far : Sm := (sRet (mBin fAdd (mBin fMul (mBin fSub (mVar 1) (mBin fIx (mVar 0) (mC (.int 0)))) (mBin fSub (mVar 1) (mBin fIx (mVar 0) (mC (.int 0))))) (mBin fMul (mBin fSub (mVar 2) (mBin fIx (mVar 0) (mC (.int 1)))) (mBin fSub (mVar 2) (mBin fIx (mVar 0) (mC (.int 1)))))))
def F_law_far : List Dt → Option Dt := runF g_law_far 3
theorem nd_law_far : N_law_far.Nodup := by decide +kernel
theorem sc_law_far : FnScope N_law_far p_law_far (defScope (top 90)) := ⟨rfl, rfl, rfl, nd_law_far, rfl, by decide +kernel, by decide +kernel⟩
theorem bd_law_far (G : Gk K mg) : Bd P w K mg base N_law_far ("_law_far" : Str) (defScope (top 90)) 0 f (defBody (top 90)) g_law_far := fun cdv A outer s H E C hr =>
  have nd := nd_law_far
  (ess_one (es_ret (ev_add (ev_mul (ev_sub (ev_var 1) (ev_ix (el_of (ev_var 0)) ev_int)) (ev_sub (ev_var 1) (ev_ix (el_of (ev_var 0)) ev_int))) (ev_mul (ev_sub (ev_var 2) (ev_ix (el_of (ev_var 0)) ev_int)) (ev_sub (ev_var 2) (ev_ix (el_of (ev_var 0)) ev_int))))))
/-! _law_is_let -/
abbrev N_law_is_let : List Str := [("_law_world" : Str), ("_law_x" : Str), ("_law_y" : Str), ("_law_one" : Str), ("_law_low_here" : Str), ("_law_none" : Str), ("_law_two" : Str), ("_law_high" : Str), ("_law_there" : Str), ("_law_here" : Str)]
abbrev p_law_is_let : List Str := [("_law_world" : Str), ("_law_x" : Str), ("_law_y" : Str)]
def g_law_is_let : Sm := (sSeq (sIf (mNot (mTst (mCall F_law_is_within (mCons (mVar 0) (mCons (mVar 1) (mCons (mVar 2) mNil)))))) (sRet (mC (.bool false))) sNil) (sSeq (sFor (mRow (mBin fIx (mVar 0) (mC (.int 1)))) (gTp (gsCons (gNm 3) (gsCons (gNm 4) (gsCons (gNm 5) gsNil)))) (sFor (mRow (mBin fIx (mVar 0) (mC (.int 1)))) (gTp (gsCons (gNm 6) (gsCons (gNm 5) (gsCons (gNm 7) gsNil)))) (sIf (mAnd (mTst (mNotN (mVar 4))) (mTst (mNotN (mVar 7)))) (sSeq (sPar [8, 9] (pD (mCall F_law_far (mCons (mBin fIx (mBin fIx (mVar 0) (mC (.int 0))) (mVar 6)) (mCons (mVar 1) (mCons (mVar 2) mNil)))) (pD (mCall F_law_far (mCons (mBin fIx (mBin fIx (mVar 0) (mC (.int 0))) (mVar 3)) (mCons (mVar 1) (mCons (mVar 2) mNil)))) pNil))) (sIf (mTst (mBin fGt (mCall F_law_sign_three (mCons (mBin fSub (mVar 4) (mVar 7)) (mCons (mC (.int 1)) (mCons (mVar 8) (mCons (mUn fNeg (mC (.int 1))) (mCons (mVar 9) mNil)))))) (mC (.int 0)))) (sRet (mC (.bool false))) sNil)) sNil))) (sRet (mC (.bool true)))))
def F_law_is_let : List Dt → Option Dt := runF g_law_is_let 10
theorem nd_law_is_let : N_law_is_let.Nodup := by decide +kernel
theorem sc_law_is_let : FnScope N_law_is_let p_law_is_let (defScope (top 91)) := ⟨rfl, rfl, rfl, nd_law_is_let, rfl, by decide +kernel, by decide +kernel⟩
theorem bd_law_is_let (G : Gk K mg) (h_law_is_within : HasP P w K mg base 1 ("_law_is_within" : Str) 3 (spF K 3 F_law_is_within)) (h_law_far : HasP P w K mg base 1 ("_law_far" : Str) 3 (spF K 3 F_law_far)) (h_law_sign_three : HasP P w K mg base 3 ("_law_sign_three" : Str) 5 (spF K 5 F_law_sign_three)) : Bd P w K mg base N_law_is_let ("_law_is_let" : Str) (defScope (top 91)) 3 f (defBody (top 91)) g_law_is_let := fun cdv A outer s H E C hr =>
  have nd := nd_law_is_let
  (ess_cons (es_if (et_not (et_val (ev_call h_law_is_within (hr.mono (by decide)) (ea_cons (ev_var 0) (ea_cons (ev_var 1) (ea_cons (ev_var 2) ea_nil))) (hl := (mCons_len (mCons_len (mCons_len mNil_len))))))) (ess_one (es_ret ev_bl)) ess_nil) (ess_cons (es_for PassesOwn.never rfl (ei_row (ev_ix (el_of (ev_var 0)) ev_int)) (eg_tup rfl (egs_cons (eg_name 3 nd) (egs_cons (eg_name 4 nd) (egs_cons (eg_name 5 nd) egs_nil))) (gsCons_len (gsCons_len (gsCons_len (fun _ _ _ _ h => gsNil_len h))))) (ess_one (es_for PassesOwn.never rfl (ei_row (ev_ix (el_of (ev_var 0)) ev_int)) (eg_tup rfl (egs_cons (eg_name 6 nd) (egs_cons (eg_name 5 nd) (egs_cons (eg_name 7 nd) egs_nil))) (gsCons_len (gsCons_len (gsCons_len (fun _ _ _ _ h => gsNil_len h))))) (ess_one (es_if ((ew_and (et_notN (el_of (ev_var 4))) (ew_and1 (et_notN (el_of (ev_var 7)))))).et (ess_cons (es_par2 8 9 (ep_d (ev_call h_law_far (hr.mono (by decide)) (ea_cons (ev_ix (el_of (ev_ix (el_of (ev_var 0)) ev_int)) (ev_var 6)) (ea_cons (ev_var 1) (ea_cons (ev_var 2) ea_nil))) (hl := (mCons_len (mCons_len (mCons_len mNil_len))))) (ep_d (ev_call h_law_far (hr.mono (by decide)) (ea_cons (ev_ix (el_of (ev_ix (el_of (ev_var 0)) ev_int)) (ev_var 3)) (ea_cons (ev_var 1) (ea_cons (ev_var 2) ea_nil))) (hl := (mCons_len (mCons_len (mCons_len mNil_len))))) ep_nil)) rfl nd) (ess_one (es_if (et_gt (el_of (ev_call h_law_sign_three (hr.mono (by decide)) (ea_cons (ev_sub (ev_var 4) (ev_var 7)) (ea_cons ev_int (ea_cons (ev_var 8) (ea_cons (ev_neg ev_int) (ea_cons (ev_var 9) ea_nil))))) (hl := (mCons_len (mCons_len (mCons_len (mCons_len (mCons_len mNil_len)))))))) (el_of ev_int)) (ess_one (es_ret ev_bl)) ess_nil))) ess_nil))))) (ess_one (es_ret ev_bl))))
/-! _law_scaled -/
abbrev N_law_scaled : List Str := [("_law_world" : Str), ("_law_times" : Str), ("_law_spots" : Str), ("_law_x" : Str), ("_law_y" : Str), ("_law_told" : Str), ("_law_at_here" : Str), ("_law_low_here" : Str), ("_law_high" : Str), ("_law_u" : Str), ("_law_v" : Str), ("_law_c" : Str)]
abbrev p_law_scaled : List Str := [("_law_world" : Str), ("_law_times" : Str)]
def g_law_scaled : Sm := (sSeq (sSet 2 (mL (mLc (mRow (mBin fIx (mVar 0) (mC (.int 0)))) (gTp (gsCons (gNm 3) (gsCons (gNm 4) gsNil))) mYes (mTup (mCons (mBin fMul (mVar 3) (mVar 1)) (mCons (mBin fMul (mVar 4) (mVar 1)) mNil))) [3, 4]))) (sSeq (sOwn 5 (mDisp mNil)) (sSeq (sFor (mRow (mBin fIx (mVar 0) (mC (.int 1)))) (gTp (gsCons (gNm 6) (gsCons (gNm 7) (gsCons (gNm 8) gsNil)))) (sSeq (sSet 7 (mIf (mTst (mIsN (mVar 7))) (mC .none) (mBin fMul (mVar 7) (mVar 1)))) (sApp 5 (mTup (mCons (mVar 6) (mCons (mVar 7) (mCons (mIf (mTst (mIsN (mVar 8))) (mC .none) (mBin fMul (mVar 8) (mVar 1))) mNil))))))) (sFrz 5 (sRet (mTup (mCons (mVar 2) (mCons (mVar 5) (mCons (mL (mLc (mRow (mBin fIx (mVar 0) (mC (.int 2)))) (gTp (gsCons (gNm 9) (gsCons (gNm 10) (gsCons (gNm 11) gsNil)))) mYes (mTup (mCons (mVar 9) (mCons (mVar 10) (mCons (mBin fMul (mVar 11) (mVar 1)) mNil)))) [9, 10, 11])) mNil)))))))))
def F_law_scaled : List Dt → Option Dt := runF g_law_scaled 12
theorem nd_law_scaled : N_law_scaled.Nodup := by decide +kernel
theorem sc_law_scaled : FnScope N_law_scaled p_law_scaled (defScope (top 92)) := ⟨rfl, rfl, rfl, nd_law_scaled, rfl, by decide +kernel, by decide +kernel⟩
theorem bd_law_scaled (G : Gk K mg) : Bd P w K mg base N_law_scaled ("_law_scaled" : Str) (defScope (top 92)) 0 f (defBody (top 92)) g_law_scaled := fun cdv A outer s H E C hr =>
  have nd := nd_law_scaled
  (ess_cons (es_setLcD [(("_law_x" : Str), 3), (("_law_y" : Str), 4)] 2 rfl nd (ei_row (ev_ix (el_of (ev_var 0)) ev_int)) (blkOk_by (by kernel_rfl)) (fun _ _ _ _ _ => (eg_tup rfl (egs_cons (eg_name 3 nd) (egs_cons (eg_name 4 nd) egs_nil)) (gsCons_len (gsCons_len (fun _ _ _ _ h => gsNil_len h))))) (fun _ _ _ _ _ => ets_nil) (fun _ _ _ _ _ => (ev_tup (ea_cons (ev_mul (ev_var 3) (ev_var 1)) (ea_cons (ev_mul (ev_var 4) (ev_var 1)) ea_nil)))) (sw_true rfl rfl rfl rfl)) (ess_cons (es_own 5 (ef_lst ea_nil) nd) (ess_cons (es_for PassesOwn.never rfl (ei_row (ev_ix (el_of (ev_var 0)) ev_int)) (eg_tup rfl (egs_cons (eg_name 6 nd) (egs_cons (eg_name 7 nd) (egs_cons (eg_name 8 nd) egs_nil))) (gsCons_len (gsCons_len (gsCons_len (fun _ _ _ _ h => gsNil_len h))))) (ess_cons (es_set 7 (ev_if (et_isN (el_of (ev_var 7))) ev_non (ev_mul (ev_var 7) (ev_var 1))) nd) (ess_one (es_app 5 (ev_tup (ea_cons (ev_var 6) (ea_cons (ev_var 7) (ea_cons (ev_if (et_isN (el_of (ev_var 8))) ev_non (ev_mul (ev_var 8) (ev_var 1))) ea_nil)))))))) (ess_frz 5 (ess_one (es_ret (ev_tup (ea_cons (ev_var 2) (ea_cons (ev_var 5) (ea_cons (ev_ef (ef_lc [(("_law_u" : Str), 9), (("_law_v" : Str), 10), (("_law_c" : Str), 11)] rfl nd (ei_row (ev_ix (el_of (ev_var 0)) ev_int)) (blkOk_by (by kernel_rfl)) (fun _ _ _ _ _ => (eg_tup rfl (egs_cons (eg_name 9 nd) (egs_cons (eg_name 10 nd) (egs_cons (eg_name 11 nd) egs_nil))) (gsCons_len (gsCons_len (gsCons_len (fun _ _ _ _ h => gsNil_len h)))))) (fun _ _ _ _ _ => ets_nil) (fun _ _ _ _ _ => (ev_tup (ea_cons (ev_var 9) (ea_cons (ev_var 10) (ea_cons (ev_mul (ev_var 11) (ev_var 1)) ea_nil))))))) ea_nil))))))))))
/-! _law_is_place -/
abbrev N_law_is_place : List Str := [("_law_thing" : Str), ("_law_each" : Str)]
abbrev p_law_is_place : List Str := [("_law_thing" : Str)]
def g_law_is_place : Sm := (sRet (mAndV (mUn (gIsi "tuple") (mVar 0)) (mAndV (mBin fEq (mUn gLen (mVar 0)) (mC (.int 2))) (mUn gAll (mL (mLc (mRow (mVar 0)) (gNm 1) mYes (mCall F_law_is_fraction (mCons (mVar 1) mNil)) [1]))))))
def F_law_is_place : List Dt → Option Dt := runF g_law_is_place 2
theorem nd_law_is_place : N_law_is_place.Nodup := by decide +kernel
theorem sc_law_is_place : FnScope N_law_is_place p_law_is_place (defScope (top 93)) := ⟨rfl, rfl, rfl, nd_law_is_place, rfl, by decide +kernel, by decide +kernel⟩
theorem bd_law_is_place (G : Gk K mg) (h_law_is_fraction : HasP P w K mg base 2 ("_law_is_fraction" : Str) 1 (spF K 1 F_law_is_fraction)) : Bd P w K mg base N_law_is_place ("_law_is_place" : Str) (defScope (top 93)) 2 f (defBody (top 93)) g_law_is_place := fun cdv A outer s H E C hr =>
  have nd := nd_law_is_place
  (ess_one (es_ret (ev_and (ev_isi (T := "tuple") G.b_isinstance G.b_tuple (by decide +kernel) (el_of (ev_var 0))) (ev_and (ev_eq (rm150 hr) (el_of (ev_len G.b_len (el_of (ev_var 0)))) (el_of ev_int)) (ev_one (ev_all rfl G.b_all (el_of (ev_ef (ef_lc [(("_law_each" : Str), 1)] rfl nd (ei_row (ev_var 0)) (blkOk_by (by kernel_rfl)) (fun _ _ _ _ _ => (eg_name 1 nd)) (fun _ _ _ _ _ => ets_nil) (fun _ _ _ _ _ => (ev_call h_law_is_fraction (hr.mono (by decide)) (ea_cons (ev_var 1) ea_nil) (hl := (mCons_len mNil_len)))))))))))))
/-! _law_is_left -/
abbrev N_law_is_left : List Str := [("_law_one" : Str), ("_law_two" : Str), ("_law_place_here" : Str)]
abbrev p_law_is_left : List Str := [("_law_one" : Str), ("_law_two" : Str), ("_law_place_here" : Str)]
def g_law_is_left : Sm := (sRet (mBin fGe (mBin fSub (mBin fMul (mBin fSub (mBin fIx (mVar 1) (mC (.int 0))) (mBin fIx (mVar 0) (mC (.int 0)))) (mBin fSub (mBin fIx (mVar 2) (mC (.int 1))) (mBin fIx (mVar 0) (mC (.int 1))))) (mBin fMul (mBin fSub (mBin fIx (mVar 1) (mC (.int 1))) (mBin fIx (mVar 0) (mC (.int 1)))) (mBin fSub (mBin fIx (mVar 2) (mC (.int 0))) (mBin fIx (mVar 0) (mC (.int 0)))))) (mC (.int 0))))
def F_law_is_left : List Dt → Option Dt := runF g_law_is_left 3
theorem nd_law_is_left : N_law_is_left.Nodup := by decide +kernel
theorem sc_law_is_left : FnScope N_law_is_left p_law_is_left (defScope (top 94)) := ⟨rfl, rfl, rfl, nd_law_is_left, rfl, by decide +kernel, by decide +kernel⟩
theorem bd_law_is_left (G : Gk K mg) : Bd P w K mg base N_law_is_left ("_law_is_left" : Str) (defScope (top 94)) 0 f (defBody (top 94)) g_law_is_left := fun cdv A outer s H E C hr =>
  have nd := nd_law_is_left
  (ess_one (es_ret (ev_ge (el_of (ev_sub (ev_mul (ev_sub (ev_ix (el_of (ev_var 1)) ev_int) (ev_ix (el_of (ev_var 0)) ev_int)) (ev_sub (ev_ix (el_of (ev_var 2)) ev_int) (ev_ix (el_of (ev_var 0)) ev_int))) (ev_mul (ev_sub (ev_ix (el_of (ev_var 1)) ev_int) (ev_ix (el_of (ev_var 0)) ev_int)) (ev_sub (ev_ix (el_of (ev_var 2)) ev_int) (ev_ix (el_of (ev_var 0)) ev_int))))) (el_of ev_int))))
/-! _law_is_in -/
abbrev N_law_is_in : List Str := [("_law_corners" : Str), ("_law_place_here" : Str), ("_law_at_here" : Str)]
abbrev p_law_is_in : List Str := [("_law_corners" : Str), ("_law_place_here" : Str)]
def g_law_is_in : Sm := (sSeq (sFor (mRng1 (mCons (mUn gLen (mVar 0)) mNil)) (gNm 2) (sIf (mNot (mTst (mCall F_law_is_left (mCons (mBin fIx (mVar 0) (mBin fSub (mVar 2) (mC (.int 1)))) (mCons (mBin fIx (mVar 0) (mVar 2)) (mCons (mVar 1) mNil)))))) (sRet (mC (.bool false))) sNil)) (sRet (mC (.bool true))))
def F_law_is_in : List Dt → Option Dt := runF g_law_is_in 3
theorem nd_law_is_in : N_law_is_in.Nodup := by decide +kernel
theorem sc_law_is_in : FnScope N_law_is_in p_law_is_in (defScope (top 95)) := ⟨rfl, rfl, rfl, nd_law_is_in, rfl, by decide +kernel, by decide +kernel⟩
theorem bd_law_is_in (G : Gk K mg) (h_law_is_left : HasP P w K mg base 1 ("_law_is_left" : Str) 3 (spF K 3 F_law_is_left)) : Bd P w K mg base N_law_is_in ("_law_is_in" : Str) (defScope (top 95)) 1 f (defBody (top 95)) g_law_is_in := fun cdv A outer s H E C hr =>
  have nd := nd_law_is_in
  (ess_cons (es_for PassesOwn.never rfl (ei_rng1 G.b_range (ea_cons (ev_len G.b_len (el_of (ev_var 0))) ea_nil)) (eg_name 2 nd) (ess_one (es_if (et_not (et_val (ev_call h_law_is_left (hr.mono (by decide)) (ea_cons (ev_ix (el_of (ev_var 0)) (ev_sub (ev_var 2) ev_int)) (ea_cons (ev_ix (el_of (ev_var 0)) (ev_var 2)) (ea_cons (ev_var 1) ea_nil))) (hl := (mCons_len (mCons_len (mCons_len mNil_len))))))) (ess_one (es_ret ev_bl)) ess_nil))) (ess_one (es_ret ev_bl)))
/-! _law_shown_corners -/
abbrev N_law_shown_corners : List Str := [("_law_corners" : Str), ("_law_x" : Str), ("_law_y" : Str)]
abbrev p_law_shown_corners : List Str := [("_law_corners" : Str)]
def g_law_shown_corners : Sm := (sRet (mUn gTuple (mL (mLc (mRow (mVar 0)) (gTp (gsCons (gNm 1) (gsCons (gNm 2) gsNil))) mYes (mCall F_law_place (mCons (mVar 1) (mCons (mVar 2) mNil))) [1, 2]))))
def F_law_shown_corners : List Dt → Option Dt := runF g_law_shown_corners 3
theorem nd_law_shown_corners : N_law_shown_corners.Nodup := by decide +kernel
theorem sc_law_shown_corners : FnScope N_law_shown_corners p_law_shown_corners (defScope (top 96)) := ⟨rfl, rfl, rfl, nd_law_shown_corners, rfl, by decide +kernel, by decide +kernel⟩
theorem bd_law_shown_corners (G : Gk K mg) (h_law_place : HasP P w K mg base 3 ("_law_place" : Str) 2 (spF K 2 F_law_place)) : Bd P w K mg base N_law_shown_corners ("_law_shown_corners" : Str) (defScope (top 96)) 3 f (defBody (top 96)) g_law_shown_corners := fun cdv A outer s H E C hr =>
  have nd := nd_law_shown_corners
  (ess_one (es_ret (ev_tuple G.b_tuple (el_of (ev_ef (ef_lc [(("_law_x" : Str), 1), (("_law_y" : Str), 2)] rfl nd (ei_row (ev_var 0)) (blkOk_by (by kernel_rfl)) (fun _ _ _ _ _ => (eg_tup rfl (egs_cons (eg_name 1 nd) (egs_cons (eg_name 2 nd) egs_nil)) (gsCons_len (gsCons_len (fun _ _ _ _ h => gsNil_len h))))) (fun _ _ _ _ _ => ets_nil) (fun _ _ _ _ _ => (ev_call h_law_place (hr.mono (by decide)) (ea_cons (ev_var 1) (ea_cons (ev_var 2) ea_nil)) (hl := (mCons_len (mCons_len mNil_len)))))))))))
/-! _law_at -/
abbrev N_law_at : List Str := [("_law_told" : Str), ("_law_x" : Str), ("_law_p" : Str), ("_law_y" : Str), ("_law_q" : Str)]
abbrev p_law_at : List Str := [("_law_told" : Str)]
def g_law_at : Sm := (sSeq (sAsg (mVar 0) (gTp (gsCons (gTp (gsCons (gNm 1) (gsCons (gNm 2) gsNil))) (gsCons (gTp (gsCons (gNm 3) (gsCons (gNm 4) gsNil))) gsNil)))) (sRet (mTup (mCons (mBin fMul (mBin fMul (mC (.int 6)) (mVar 1)) (mVar 4)) (mCons (mBin fMul (mBin fMul (mC (.int 6)) (mVar 3)) (mVar 2)) (mCons (mBin fMul (mVar 2) (mVar 4)) mNil))))))
def F_law_at : List Dt → Option Dt := runF g_law_at 5
theorem nd_law_at : N_law_at.Nodup := by decide +kernel
theorem sc_law_at : FnScope N_law_at p_law_at (defScope (top 97)) := ⟨rfl, rfl, rfl, nd_law_at, rfl, by decide +kernel, by decide +kernel⟩
theorem bd_law_at (G : Gk K mg) : Bd P w K mg base N_law_at ("_law_at" : Str) (defScope (top 97)) 0 f (defBody (top 97)) g_law_at := fun cdv A outer s H E C hr =>
  have nd := nd_law_at
  (ess_cons (es_asg (ev_var 0) (eg_tup rfl (egs_cons (eg_tup rfl (egs_cons (eg_name 1 nd) (egs_cons (eg_name 2 nd) egs_nil)) (gsCons_len (gsCons_len (fun _ _ _ _ h => gsNil_len h)))) (egs_cons (eg_tup rfl (egs_cons (eg_name 3 nd) (egs_cons (eg_name 4 nd) egs_nil)) (gsCons_len (gsCons_len (fun _ _ _ _ h => gsNil_len h)))) egs_nil)) (gsCons_len (gsCons_len (fun _ _ _ _ h => gsNil_len h))))) (ess_one (es_ret (ev_tup (ea_cons (ev_mul (ev_mul ev_int (ev_var 1)) (ev_var 4)) (ea_cons (ev_mul (ev_mul ev_int (ev_var 3)) (ev_var 2)) (ea_cons (ev_mul (ev_var 2) (ev_var 4)) ea_nil)))))))
/-! _law_is_let_at -/
abbrev N_law_is_let_at : List Str := [("_law_world" : Str), ("_law_place_here" : Str), ("_law_x" : Str), ("_law_y" : Str), ("_law_parts" : Str)]
abbrev p_law_is_let_at : List Str := [("_law_world" : Str), ("_law_place_here" : Str)]
def g_law_is_let_at : Sm := (sSeq (sAsg (mVar 1) (gTp (gsCons (gNm 2) (gsCons (gNm 3) (gsCons (gNm 4) gsNil))))) (sRet (mCall F_law_is_let (mCons (mCall F_law_scaled (mCons (mVar 0) (mCons (mVar 4) mNil))) (mCons (mVar 2) (mCons (mVar 3) mNil))))))
def F_law_is_let_at : List Dt → Option Dt := runF g_law_is_let_at 5
theorem nd_law_is_let_at : N_law_is_let_at.Nodup := by decide +kernel
theorem sc_law_is_let_at : FnScope N_law_is_let_at p_law_is_let_at (defScope (top 98)) := ⟨rfl, rfl, rfl, nd_law_is_let_at, rfl, by decide +kernel, by decide +kernel⟩
theorem bd_law_is_let_at (G : Gk K mg) (h_law_is_let : HasP P w K mg base 4 ("_law_is_let" : Str) 3 (spF K 3 F_law_is_let)) (h_law_scaled : HasP P w K mg base 1 ("_law_scaled" : Str) 2 (spF K 2 F_law_scaled)) : Bd P w K mg base N_law_is_let_at ("_law_is_let_at" : Str) (defScope (top 98)) 4 f (defBody (top 98)) g_law_is_let_at := fun cdv A outer s H E C hr =>
  have nd := nd_law_is_let_at
  (ess_cons (es_asg (ev_var 1) (eg_tup rfl (egs_cons (eg_name 2 nd) (egs_cons (eg_name 3 nd) (egs_cons (eg_name 4 nd) egs_nil))) (gsCons_len (gsCons_len (gsCons_len (fun _ _ _ _ h => gsNil_len h)))))) (ess_one (es_ret (ev_call h_law_is_let (hr.mono (by decide)) (ea_cons (ev_call h_law_scaled (hr.mono (by decide)) (ea_cons (ev_var 0) (ea_cons (ev_var 4) ea_nil)) (hl := (mCons_len (mCons_len mNil_len)))) (ea_cons (ev_var 2) (ea_cons (ev_var 3) ea_nil))) (hl := (mCons_len (mCons_len (mCons_len mNil_len))))))))
/-! _law_cut -/
abbrev N_law_cut : List Str := [("_law_apart" : Str), ("_law_one" : Str), ("_law_two" : Str), ("_law_far_here" : Str), ("_law_near" : Str), ("_law_p" : Str), ("_law_q" : Str), ("_law_x" : Str), ("_law_y" : Str), ("_law_u" : Str), ("_law_v" : Str), ("_law_here" : Str)]
abbrev p_law_cut : List Str := [("_law_apart" : Str), ("_law_one" : Str), ("_law_two" : Str), ("_law_far_here" : Str), ("_law_near" : Str)]
def g_law_cut : Sm := (sSeq (sPar [5, 6] (pD (mBin fSub (mBin fIx (mVar 2) (mC (.int 0))) (mBin fIx (mVar 1) (mC (.int 0)))) (pD (mBin fSub (mBin fIx (mVar 2) (mC (.int 1))) (mBin fIx (mVar 1) (mC (.int 1)))) pNil))) (sSeq (sPar [7, 8, 9, 10] (pD (mBin fSub (mBin fIx (mVar 1) (mC (.int 0))) (mBin fIx (mVar 3) (mC (.int 0)))) (pD (mBin fSub (mBin fIx (mVar 1) (mC (.int 1))) (mBin fIx (mVar 3) (mC (.int 1)))) (pD (mBin fSub (mBin fIx (mVar 1) (mC (.int 0))) (mBin fIx (mVar 4) (mC (.int 0)))) (pD (mBin fSub (mBin fIx (mVar 1) (mC (.int 1))) (mBin fIx (mVar 4) (mC (.int 1)))) pNil))))) (sSeq (sSet 11 (mTup (mCons (mBin fAdd (mBin fMul (mVar 9) (mVar 9)) (mBin fMul (mVar 10) (mVar 10))) (mCons (mBin fMul (mC (.int 2)) (mBin fAdd (mBin fMul (mVar 9) (mVar 5)) (mBin fMul (mVar 10) (mVar 6)))) (mCons (mBin fAdd (mBin fMul (mVar 5) (mVar 5)) (mBin fMul (mVar 6) (mVar 6))) mNil))))) (sRet (mTup (mCons (mVar 11) (mCons (mTup (mCons (mBin fSub (mBin fSub (mBin fAdd (mBin fMul (mVar 7) (mVar 7)) (mBin fMul (mVar 8) (mVar 8))) (mBin fIx (mVar 11) (mC (.int 0)))) (mBin fMul (mVar 0) (mVar 0))) (mCons (mBin fSub (mBin fMul (mC (.int 2)) (mBin fAdd (mBin fMul (mVar 7) (mVar 5)) (mBin fMul (mVar 8) (mVar 6)))) (mBin fIx (mVar 11) (mC (.int 1)))) mNil))) mNil)))))))
def F_law_cut : List Dt → Option Dt := runF g_law_cut 12
theorem nd_law_cut : N_law_cut.Nodup := by decide +kernel
theorem sc_law_cut : FnScope N_law_cut p_law_cut (defScope (top 99)) := ⟨rfl, rfl, rfl, nd_law_cut, rfl, by decide +kernel, by decide +kernel⟩
theorem bd_law_cut (G : Gk K mg) : Bd P w K mg base N_law_cut ("_law_cut" : Str) (defScope (top 99)) 0 f (defBody (top 99)) g_law_cut := fun cdv A outer s H E C hr =>
  have nd := nd_law_cut
  (ess_cons (es_par2 5 6 (ep_d (ev_sub (ev_ix (el_of (ev_var 2)) ev_int) (ev_ix (el_of (ev_var 1)) ev_int)) (ep_d (ev_sub (ev_ix (el_of (ev_var 2)) ev_int) (ev_ix (el_of (ev_var 1)) ev_int)) ep_nil)) rfl nd) (ess_cons (es_parT (n := 4) (ep_d (ev_sub (ev_ix (el_of (ev_var 1)) ev_int) (ev_ix (el_of (ev_var 3)) ev_int)) (ep_d (ev_sub (ev_ix (el_of (ev_var 1)) ev_int) (ev_ix (el_of (ev_var 3)) ev_int)) (ep_d (ev_sub (ev_ix (el_of (ev_var 1)) ev_int) (ev_ix (el_of (ev_var 4)) ev_int)) (ep_d (ev_sub (ev_ix (el_of (ev_var 1)) ev_int) (ev_ix (el_of (ev_var 4)) ev_int)) ep_nil)))) (ens_cons 7 (ens_cons 8 (ens_cons 9 (ens_cons 10 ens_nil nd) nd) nd) nd) rfl) (ess_cons (es_set 11 (ev_tup (ea_cons (ev_add (ev_mul (ev_var 9) (ev_var 9)) (ev_mul (ev_var 10) (ev_var 10))) (ea_cons (ev_mul ev_int (ev_add (ev_mul (ev_var 9) (ev_var 5)) (ev_mul (ev_var 10) (ev_var 6)))) (ea_cons (ev_add (ev_mul (ev_var 5) (ev_var 5)) (ev_mul (ev_var 6) (ev_var 6))) ea_nil)))) nd) (ess_one (es_ret (ev_tup (ea_cons (ev_var 11) (ea_cons (ev_tup (ea_cons (ev_sub (ev_sub (ev_add (ev_mul (ev_var 7) (ev_var 7)) (ev_mul (ev_var 8) (ev_var 8))) (ev_ix (el_of (ev_var 11)) ev_int)) (ev_mul (ev_var 0) (ev_var 0))) (ea_cons (ev_sub (ev_mul ev_int (ev_add (ev_mul (ev_var 7) (ev_var 5)) (ev_mul (ev_var 8) (ev_var 6)))) (ev_ix (el_of (ev_var 11)) ev_int)) ea_nil))) ea_nil))))))))
/-! _law_is_edge_shut -/
abbrev N_law_is_edge_shut : List Str := [("_law_apart" : Str), ("_law_one" : Str), ("_law_two" : Str), ("_law_far_here" : Str), ("_law_near" : Str), ("_law_here" : Str), ("_law_a" : Str), ("_law_b" : Str), ("_law_low_here" : Str), ("_law_top" : Str), ("_law_sign_here" : Str)]
abbrev p_law_is_edge_shut : List Str := [("_law_apart" : Str), ("_law_one" : Str), ("_law_two" : Str), ("_law_far_here" : Str), ("_law_near" : Str)]
def g_law_is_edge_shut : Sm := (sSeq (sAsg (mCall F_law_cut (mCons (mVar 0) (mCons (mVar 1) (mCons (mVar 2) (mCons (mVar 3) (mCons (mVar 4) mNil)))))) (gTp (gsCons (gNm 5) (gsCons (gTp (gsCons (gNm 6) (gsCons (gNm 7) gsNil))) gsNil)))) (sSeq (sSet 8 (mTup (mCons (mBin fSub (mBin fMul (mVar 6) (mVar 6)) (mBin fMul (mBin fMul (mBin fMul (mC (.int 4)) (mVar 0)) (mVar 0)) (mBin fIx (mVar 5) (mC (.int 0))))) (mCons (mBin fSub (mBin fMul (mBin fMul (mC (.int 2)) (mVar 6)) (mVar 7)) (mBin fMul (mBin fMul (mBin fMul (mC (.int 4)) (mVar 0)) (mVar 0)) (mBin fIx (mVar 5) (mC (.int 1))))) mNil)))) (sSeq (sSet 9 (mBin fSub (mBin fMul (mVar 7) (mVar 7)) (mBin fMul (mBin fMul (mBin fMul (mC (.int 4)) (mVar 0)) (mVar 0)) (mBin fIx (mVar 5) (mC (.int 2)))))) (sSeq (sIf (mOr (mAnd (mTst (mBin fGt (mVar 6) (mC (.int 0)))) (mTst (mBin fGt (mBin fIx (mVar 8) (mC (.int 0))) (mC (.int 0))))) (mAnd (mTst (mBin fGt (mBin fAdd (mVar 6) (mVar 7)) (mC (.int 0)))) (mTst (mBin fGt (mBin fAdd (mBin fAdd (mBin fIx (mVar 8) (mC (.int 0))) (mBin fIx (mVar 8) (mC (.int 1)))) (mVar 9)) (mC (.int 0)))))) (sRet (mC (.bool true))) sNil) (sSeq (sSet 10 (mCall F_law_sign (mCons (mVar 9) mNil))) (sSeq (sIf (mOr (mTst (mBin fEq (mVar 10) (mC (.int 0)))) (mNot (mTst (mCh (fun i j => decide (i < j)) (fun i j => decide (i < j)) (mC (.int 0)) (mBin fSub (mC (.int 0)) (mBin fMul (mBin fIx (mVar 8) (mC (.int 1))) (mVar 10))) (mBin fMul (mBin fMul (mC (.int 2)) (mVar 9)) (mVar 10)))))) (sRet (mC (.bool false))) sNil) (sRet (mAndV (mBin fGt (mBin fMul (mBin fSub (mBin fMul (mBin fMul (mC (.int 2)) (mVar 6)) (mVar 9)) (mBin fMul (mVar 7) (mBin fIx (mVar 8) (mC (.int 1))))) (mVar 10)) (mC (.int 0))) (mBin fGt (mBin fMul (mBin fSub (mBin fMul (mBin fMul (mC (.int 4)) (mBin fIx (mVar 8) (mC (.int 0)))) (mVar 9)) (mBin fMul (mBin fIx (mVar 8) (mC (.int 1))) (mBin fIx (mVar 8) (mC (.int 1))))) (mVar 10)) (mC (.int 0)))))))))))
def F_law_is_edge_shut : List Dt → Option Dt := runF g_law_is_edge_shut 11
theorem nd_law_is_edge_shut : N_law_is_edge_shut.Nodup := by decide +kernel
theorem sc_law_is_edge_shut : FnScope N_law_is_edge_shut p_law_is_edge_shut (defScope (top 100)) := ⟨rfl, rfl, rfl, nd_law_is_edge_shut, rfl, by decide +kernel, by decide +kernel⟩
theorem bd_law_is_edge_shut (G : Gk K mg) (h_law_cut : HasP P w K mg base 1 ("_law_cut" : Str) 5 (spF K 5 F_law_cut)) (h_law_sign : HasP P w K mg base 1 ("_law_sign" : Str) 1 (spF K 1 F_law_sign)) : Bd P w K mg base N_law_is_edge_shut ("_law_is_edge_shut" : Str) (defScope (top 100)) 1 f (defBody (top 100)) g_law_is_edge_shut := fun cdv A outer s H E C hr =>
  have nd := nd_law_is_edge_shut
  (ess_cons (es_asg (ev_call h_law_cut (hr.mono (by decide)) (ea_cons (ev_var 0) (ea_cons (ev_var 1) (ea_cons (ev_var 2) (ea_cons (ev_var 3) (ea_cons (ev_var 4) ea_nil))))) (hl := (mCons_len (mCons_len (mCons_len (mCons_len (mCons_len mNil_len))))))) (eg_tup rfl (egs_cons (eg_name 5 nd) (egs_cons (eg_tup rfl (egs_cons (eg_name 6 nd) (egs_cons (eg_name 7 nd) egs_nil)) (gsCons_len (gsCons_len (fun _ _ _ _ h => gsNil_len h)))) egs_nil)) (gsCons_len (gsCons_len (fun _ _ _ _ h => gsNil_len h))))) (ess_cons (es_set 8 (ev_tup (ea_cons (ev_sub (ev_mul (ev_var 6) (ev_var 6)) (ev_mul (ev_mul (ev_mul ev_int (ev_var 0)) (ev_var 0)) (ev_ix (el_of (ev_var 5)) ev_int))) (ea_cons (ev_sub (ev_mul (ev_mul ev_int (ev_var 6)) (ev_var 7)) (ev_mul (ev_mul (ev_mul ev_int (ev_var 0)) (ev_var 0)) (ev_ix (el_of (ev_var 5)) ev_int))) ea_nil))) nd) (ess_cons (es_set 9 (ev_sub (ev_mul (ev_var 7) (ev_var 7)) (ev_mul (ev_mul (ev_mul ev_int (ev_var 0)) (ev_var 0)) (ev_ix (el_of (ev_var 5)) ev_int))) nd) (ess_cons (es_if ((ew_or ((ew_and (et_gt (el_of (ev_var 6)) (el_of ev_int)) (ew_and1 (et_gt (el_of (ev_ix (el_of (ev_var 8)) ev_int)) (el_of ev_int))))).et (ew_or1 ((ew_and (et_gt (el_of (ev_add (ev_var 6) (ev_var 7))) (el_of ev_int)) (ew_and1 (et_gt (el_of (ev_add (ev_add (ev_ix (el_of (ev_var 8)) ev_int) (ev_ix (el_of (ev_var 8)) ev_int)) (ev_var 9))) (el_of ev_int))))).et))).et (ess_one (es_ret ev_bl)) ess_nil) (ess_cons (es_set 10 (ev_call h_law_sign (hr.mono (by decide)) (ea_cons (ev_var 9) ea_nil) (hl := (mCons_len mNil_len))) nd) (ess_cons (es_if ((ew_or (et_eq (rm150 hr) (el_of (ev_var 10)) (el_of ev_int)) (ew_or1 (et_not (et_ch op_lt op_lt (el_of ev_int) (el_of (ev_sub ev_int (ev_mul (ev_ix (el_of (ev_var 8)) ev_int) (ev_var 10)))) (el_of (ev_mul (ev_mul ev_int (ev_var 9)) (ev_var 10)))))))).et (ess_one (es_ret ev_bl)) ess_nil) (ess_one (es_ret (ev_and (ev_gt (el_of (ev_mul (ev_sub (ev_mul (ev_mul ev_int (ev_var 6)) (ev_var 9)) (ev_mul (ev_var 7) (ev_ix (el_of (ev_var 8)) ev_int))) (ev_var 10))) (el_of ev_int)) (ev_one (ev_gt (el_of (ev_mul (ev_sub (ev_mul (ev_mul ev_int (ev_ix (el_of (ev_var 8)) ev_int)) (ev_var 9)) (ev_mul (ev_ix (el_of (ev_var 8)) ev_int) (ev_ix (el_of (ev_var 8)) ev_int))) (ev_var 10))) (el_of ev_int))))))))))))
/-! _law_is_pair_kept -/
abbrev N_law_is_pair_kept : List Str := [("_law_corners" : Str), ("_law_near" : Str), ("_law_far_here" : Str), ("_law_apart" : Str), ("_law_wide" : Str), ("_law_x" : Str), ("_law_y" : Str), ("_law_at_here" : Str)]
abbrev p_law_is_pair_kept : List Str := [("_law_corners" : Str), ("_law_near" : Str), ("_law_far_here" : Str), ("_law_apart" : Str)]
def g_law_is_pair_kept : Sm := (sSeq (sSet 4 (mCall F_law_far (mCons (mVar 1) (mCons (mBin fIx (mVar 2) (mC (.int 0))) (mCons (mBin fIx (mVar 2) (mC (.int 1))) mNil))))) (sSeq (sIf (mTst (mBin fLt (mVar 3) (mC (.int 0)))) (sSeq (sFor (mRow (mVar 0)) (gTp (gsCons (gNm 5) (gsCons (gNm 6) gsNil))) (sIf (mTst (mBin fGt (mCall F_law_sign_three (mCons (mBin fSub (mC (.int 0)) (mVar 3)) (mCons (mC (.int 1)) (mCons (mCall F_law_far (mCons (mVar 2) (mCons (mVar 5) (mCons (mVar 6) mNil)))) (mCons (mUn fNeg (mC (.int 1))) (mCons (mCall F_law_far (mCons (mVar 1) (mCons (mVar 5) (mCons (mVar 6) mNil)))) mNil)))))) (mC (.int 0)))) (sRet (mC (.bool false))) sNil)) (sRet (mC (.bool true)))) sNil) (sSeq (sIf (mTst (mBin fGe (mBin fMul (mVar 3) (mVar 3)) (mVar 4))) (sRet (mC (.bool true))) sNil) (sSeq (sIf (mTst (mCall F_law_is_in (mCons (mVar 0) (mCons (mVar 1) mNil)))) (sRet (mC (.bool false))) sNil) (sSeq (sFor (mRng1 (mCons (mUn gLen (mVar 0)) mNil)) (gNm 7) (sIf (mTst (mCall F_law_is_edge_shut (mCons (mVar 3) (mCons (mBin fIx (mVar 0) (mBin fSub (mVar 7) (mC (.int 1)))) (mCons (mBin fIx (mVar 0) (mVar 7)) (mCons (mVar 2) (mCons (mVar 1) mNil))))))) (sRet (mC (.bool false))) sNil)) (sRet (mC (.bool true))))))))
def F_law_is_pair_kept : List Dt → Option Dt := runF g_law_is_pair_kept 8
theorem nd_law_is_pair_kept : N_law_is_pair_kept.Nodup := by decide +kernel
theorem sc_law_is_pair_kept : FnScope N_law_is_pair_kept p_law_is_pair_kept (defScope (top 101)) := ⟨rfl, rfl, rfl, nd_law_is_pair_kept, rfl, by decide +kernel, by decide +kernel⟩
theorem bd_law_is_pair_kept (G : Gk K mg) (h_law_far : HasP P w K mg base 1 ("_law_far" : Str) 3 (spF K 3 F_law_far)) (h_law_sign_three : HasP P w K mg base 3 ("_law_sign_three" : Str) 5 (spF K 5 F_law_sign_three)) (h_law_is_in : HasP P w K mg base 2 ("_law_is_in" : Str) 2 (spF K 2 F_law_is_in)) (h_law_is_edge_shut : HasP P w K mg base 2 ("_law_is_edge_shut" : Str) 5 (spF K 5 F_law_is_edge_shut)) : Bd P w K mg base N_law_is_pair_kept ("_law_is_pair_kept" : Str) (defScope (top 101)) 3 f (defBody (top 101)) g_law_is_pair_kept := fun cdv A outer s H E C hr =>
  have nd := nd_law_is_pair_kept
  (ess_cons (es_set 4 (ev_call h_law_far (hr.mono (by decide)) (ea_cons (ev_var 1) (ea_cons (ev_ix (el_of (ev_var 2)) ev_int) (ea_cons (ev_ix (el_of (ev_var 2)) ev_int) ea_nil))) (hl := (mCons_len (mCons_len (mCons_len mNil_len))))) nd) (ess_cons (es_if (et_lt (el_of (ev_var 3)) (el_of ev_int)) (ess_cons (es_for PassesOwn.never rfl (ei_row (ev_var 0)) (eg_tup rfl (egs_cons (eg_name 5 nd) (egs_cons (eg_name 6 nd) egs_nil)) (gsCons_len (gsCons_len (fun _ _ _ _ h => gsNil_len h)))) (ess_one (es_if (et_gt (el_of (ev_call h_law_sign_three (hr.mono (by decide)) (ea_cons (ev_sub ev_int (ev_var 3)) (ea_cons ev_int (ea_cons (ev_call h_law_far (hr.mono (by decide)) (ea_cons (ev_var 2) (ea_cons (ev_var 5) (ea_cons (ev_var 6) ea_nil))) (hl := (mCons_len (mCons_len (mCons_len mNil_len))))) (ea_cons (ev_neg ev_int) (ea_cons (ev_call h_law_far (hr.mono (by decide)) (ea_cons (ev_var 1) (ea_cons (ev_var 5) (ea_cons (ev_var 6) ea_nil))) (hl := (mCons_len (mCons_len (mCons_len mNil_len))))) ea_nil))))) (hl := (mCons_len (mCons_len (mCons_len (mCons_len (mCons_len mNil_len)))))))) (el_of ev_int)) (ess_one (es_ret ev_bl)) ess_nil))) (ess_one (es_ret ev_bl))) ess_nil) (ess_cons (es_if (et_ge (el_of (ev_mul (ev_var 3) (ev_var 3))) (el_of (ev_var 4))) (ess_one (es_ret ev_bl)) ess_nil) (ess_cons (es_if (et_val (ev_call h_law_is_in (hr.mono (by decide)) (ea_cons (ev_var 0) (ea_cons (ev_var 1) ea_nil)) (hl := (mCons_len (mCons_len mNil_len))))) (ess_one (es_ret ev_bl)) ess_nil) (ess_cons (es_for PassesOwn.never rfl (ei_rng1 G.b_range (ea_cons (ev_len G.b_len (el_of (ev_var 0))) ea_nil)) (eg_name 7 nd) (ess_one (es_if (et_val (ev_call h_law_is_edge_shut (hr.mono (by decide)) (ea_cons (ev_var 3) (ea_cons (ev_ix (el_of (ev_var 0)) (ev_sub (ev_var 7) ev_int)) (ea_cons (ev_ix (el_of (ev_var 0)) (ev_var 7)) (ea_cons (ev_var 2) (ea_cons (ev_var 1) ea_nil))))) (hl := (mCons_len (mCons_len (mCons_len (mCons_len (mCons_len mNil_len)))))))) (ess_one (es_ret ev_bl)) ess_nil))) (ess_one (es_ret ev_bl)))))))
/-! _law_are_all_let -/
abbrev N_law_are_all_let : List Str := [("_law_world" : Str), ("_law_corners" : Str), ("_law_x" : Str), ("_law_y" : Str), ("_law_one" : Str), ("_law_low_here" : Str), ("_law_none" : Str), ("_law_two" : Str), ("_law_high" : Str)]
abbrev p_law_are_all_let : List Str := [("_law_world" : Str), ("_law_corners" : Str)]
def g_law_are_all_let : Sm := (sSeq (sIf (mNot (mTst (mUn gAll (mL (mLc (mRow (mVar 1)) (gTp (gsCons (gNm 2) (gsCons (gNm 3) gsNil))) mYes (mCall F_law_is_within (mCons (mVar 0) (mCons (mVar 2) (mCons (mVar 3) mNil)))) [2, 3]))))) (sRet (mC (.bool false))) sNil) (sSeq (sFor (mRow (mBin fIx (mVar 0) (mC (.int 1)))) (gTp (gsCons (gNm 4) (gsCons (gNm 5) (gsCons (gNm 6) gsNil)))) (sFor (mRow (mBin fIx (mVar 0) (mC (.int 1)))) (gTp (gsCons (gNm 7) (gsCons (gNm 6) (gsCons (gNm 8) gsNil)))) (sIf (mAnd (mTst (mNotN (mVar 5))) (mTst (mNotN (mVar 8)))) (sIf (mNot (mTst (mCall F_law_is_pair_kept (mCons (mVar 1) (mCons (mBin fIx (mBin fIx (mVar 0) (mC (.int 0))) (mVar 4)) (mCons (mBin fIx (mBin fIx (mVar 0) (mC (.int 0))) (mVar 7)) (mCons (mBin fSub (mVar 8) (mVar 5)) mNil))))))) (sRet (mC (.bool false))) sNil) sNil))) (sRet (mC (.bool true)))))
def F_law_are_all_let : List Dt → Option Dt := runF g_law_are_all_let 9
theorem nd_law_are_all_let : N_law_are_all_let.Nodup := by decide +kernel
theorem sc_law_are_all_let : FnScope N_law_are_all_let p_law_are_all_let (defScope (top 102)) := ⟨rfl, rfl, rfl, nd_law_are_all_let, rfl, by decide +kernel, by decide +kernel⟩
theorem bd_law_are_all_let (G : Gk K mg) (h_law_is_within : HasP P w K mg base 1 ("_law_is_within" : Str) 3 (spF K 3 F_law_is_within)) (h_law_is_pair_kept : HasP P w K mg base 4 ("_law_is_pair_kept" : Str) 4 (spF K 4 F_law_is_pair_kept)) : Bd P w K mg base N_law_are_all_let ("_law_are_all_let" : Str) (defScope (top 102)) 4 f (defBody (top 102)) g_law_are_all_let := fun cdv A outer s H E C hr =>
  have nd := nd_law_are_all_let
  (ess_cons (es_if (et_not (et_val (ev_all rfl G.b_all (el_of (ev_ef (ef_lc [(("_law_x" : Str), 2), (("_law_y" : Str), 3)] rfl nd (ei_row (ev_var 1)) (blkOk_by (by kernel_rfl)) (fun _ _ _ _ _ => (eg_tup rfl (egs_cons (eg_name 2 nd) (egs_cons (eg_name 3 nd) egs_nil)) (gsCons_len (gsCons_len (fun _ _ _ _ h => gsNil_len h))))) (fun _ _ _ _ _ => ets_nil) (fun _ _ _ _ _ => (ev_call h_law_is_within (hr.mono (by decide)) (ea_cons (ev_var 0) (ea_cons (ev_var 2) (ea_cons (ev_var 3) ea_nil))) (hl := (mCons_len (mCons_len (mCons_len mNil_len)))))))))))) (ess_one (es_ret ev_bl)) ess_nil) (ess_cons (es_for PassesOwn.never rfl (ei_row (ev_ix (el_of (ev_var 0)) ev_int)) (eg_tup rfl (egs_cons (eg_name 4 nd) (egs_cons (eg_name 5 nd) (egs_cons (eg_name 6 nd) egs_nil))) (gsCons_len (gsCons_len (gsCons_len (fun _ _ _ _ h => gsNil_len h))))) (ess_one (es_for PassesOwn.never rfl (ei_row (ev_ix (el_of (ev_var 0)) ev_int)) (eg_tup rfl (egs_cons (eg_name 7 nd) (egs_cons (eg_name 6 nd) (egs_cons (eg_name 8 nd) egs_nil))) (gsCons_len (gsCons_len (gsCons_len (fun _ _ _ _ h => gsNil_len h))))) (ess_one (es_if ((ew_and (et_notN (el_of (ev_var 5))) (ew_and1 (et_notN (el_of (ev_var 8)))))).et (ess_one (es_if (et_not (et_val (ev_call h_law_is_pair_kept (hr.mono (by decide)) (ea_cons (ev_var 1) (ea_cons (ev_ix (el_of (ev_ix (el_of (ev_var 0)) ev_int)) (ev_var 4)) (ea_cons (ev_ix (el_of (ev_ix (el_of (ev_var 0)) ev_int)) (ev_var 7)) (ea_cons (ev_sub (ev_var 8) (ev_var 5)) ea_nil)))) (hl := (mCons_len (mCons_len (mCons_len (mCons_len mNil_len)))))))) (ess_one (es_ret ev_bl)) ess_nil)) ess_nil))))) (ess_one (es_ret ev_bl))))
/-! _law_inner -/
abbrev N_law_inner : List Str := [("_law_well_here" : Str), ("_law_corners" : Str), ("_law_weights" : Str), ("_law_x" : Str), ("_law_y" : Str), ("_law_corner" : Str), ("_law_weight" : Str), ("_law_parts" : Str)]
abbrev p_law_inner : List Str := [("_law_well_here" : Str), ("_law_corners" : Str)]
def g_law_inner : Sm := (sSeq (sPar [2, 3, 4] (pO (mDisp mNil) (pD (mC (.int 0)) (pD (mC (.int 0)) pNil)))) (sSeq (sFor (mRow (mVar 1)) (gNm 5) (sSeq (sSet 6 (mCallJ 0 J_law_pick (mCons (mTup (mCons (mC (.int 0)) (mCons (mC (.int 1)) (mCons (mC (.int 1)) (mCons (mC (.int 2)) (mCons (mC (.int 5)) (mCons (mC (.int 0)) mNil))))))) mNil))) (sSeq (sApp 2 (mVar 6)) (sPar [3, 4] (pD (mBin fAdd (mVar 3) (mBin fMul (mVar 6) (mBin fIx (mVar 5) (mC (.int 0))))) (pD (mBin fAdd (mVar 4) (mBin fMul (mVar 6) (mBin fIx (mVar 5) (mC (.int 1))))) pNil)))))) (sFrz 2 (sSeq (sSet 7 (mUn gSum (mVar 2))) (sRet (mIf (mTst (mBin fGt (mVar 7) (mC (.int 0)))) (mTup (mCons (mVar 3) (mCons (mVar 4) (mCons (mVar 7) mNil)))) (mTup (mCons (mBin fIx (mBin fIx (mVar 1) (mC (.int 0))) (mC (.int 0))) (mCons (mBin fIx (mBin fIx (mVar 1) (mC (.int 0))) (mC (.int 1))) (mCons (mC (.int 1)) mNil))))))))))
def J_law_inner : List Dt → Jr → Option (Dt × Jr) := runJ g_law_inner 8
theorem nd_law_inner : N_law_inner.Nodup := by decide +kernel
theorem sc_law_inner : FnScope N_law_inner p_law_inner (defScope (top 103)) := ⟨rfl, rfl, rfl, nd_law_inner, rfl, by decide +kernel, by decide +kernel⟩
theorem bd_law_inner (G : Gk K mg) (h_law_pick : HasP P w K mg base 2 ("_law_pick" : Str) 2 (spJ K 2 J_law_pick)) : Bd P w K mg base N_law_inner ("_law_inner" : Str) (defScope (top 103)) 2 f (defBody (top 103)) g_law_inner := fun cdv A outer s H E C hr =>
  have nd := nd_law_inner
  (ess_cons (es_par3 2 3 4 (ep_o (ef_lst ea_nil) (ep_d ev_int (ep_d ev_int ep_nil))) rfl nd) (ess_cons (es_for PassesOwn.never rfl (ei_row (ev_var 1)) (eg_name 5 nd) (ess_cons (es_set 6 (ev_callJ 0 h_law_pick (hr.mono (by decide)) (ea_cons (ev_tup (ea_cons ev_int (ea_cons ev_int (ea_cons ev_int (ea_cons ev_int (ea_cons ev_int (ea_cons ev_int ea_nil))))))) ea_nil) (lenJ (mCons_len mNil_len))) nd) (ess_cons (es_app 2 (ev_var 6)) (ess_one (es_par2 3 4 (ep_d (ev_add (ev_var 3) (ev_mul (ev_var 6) (ev_ix (el_of (ev_var 5)) ev_int))) (ep_d (ev_add (ev_var 4) (ev_mul (ev_var 6) (ev_ix (el_of (ev_var 5)) ev_int))) ep_nil)) rfl nd))))) (ess_frz 2 (ess_cons (es_set 7 (ev_sum rfl G.b_sum (el_of (ev_var 2))) nd) (ess_one (es_ret (ev_if (et_gt (el_of (ev_var 7)) (el_of ev_int)) (ev_tup (ea_cons (ev_var 3) (ea_cons (ev_var 4) (ea_cons (ev_var 7) ea_nil)))) (ev_tup (ea_cons (ev_ix (el_of (ev_ix (el_of (ev_var 1)) ev_int)) ev_int) (ea_cons (ev_ix (el_of (ev_ix (el_of (ev_var 1)) ev_int)) ev_int) (ea_cons ev_int ea_nil)))))))))))
/-! _law_is_answer -/
abbrev N_law_is_answer : List Str := [("_law_told" : Str), ("_law_world" : Str), ("_law_corners" : Str), ("_law_x" : Str), ("_law_y" : Str), ("_law_parts" : Str), ("_law_east" : Str), ("_law_north" : Str)]
abbrev p_law_is_answer : List Str := [("_law_told" : Str), ("_law_world" : Str), ("_law_corners" : Str)]
def g_law_is_answer : Sm := (sSeq (sIf (mTst (mCall F_law_are_all_let (mCons (mVar 1) (mCons (mVar 2) mNil)))) (sRet (mIsN (mVar 0))) sNil) (sSeq (sIf (mNot (mTst (mCall F_law_is_place (mCons (mVar 0) mNil)))) (sRet (mC (.bool false))) sNil) (sSeq (sAsg (mCall F_law_at (mCons (mVar 0) mNil)) (gTp (gsCons (gNm 3) (gsCons (gNm 4) (gsCons (gNm 5) gsNil))))) (sSeq (sIf (mNot (mTst (mCall F_law_is_in (mCons (mL (mLc (mRow (mVar 2)) (gTp (gsCons (gNm 6) (gsCons (gNm 7) gsNil))) mYes (mTup (mCons (mBin fMul (mVar 6) (mVar 5)) (mCons (mBin fMul (mVar 7) (mVar 5)) mNil))) [6, 7])) (mCons (mTup (mCons (mVar 3) (mCons (mVar 4) mNil))) mNil))))) (sRet (mC (.bool false))) sNil) (sRet (mNotV (mCall F_law_is_let_at (mCons (mVar 1) (mCons (mTup (mCons (mVar 3) (mCons (mVar 4) (mCons (mVar 5) mNil)))) mNil)))))))))
def F_law_is_answer : List Dt → Option Dt := runF g_law_is_answer 8
theorem nd_law_is_answer : N_law_is_answer.Nodup := by decide +kernel
theorem sc_law_is_answer : FnScope N_law_is_answer p_law_is_answer (defScope (top 104)) := ⟨rfl, rfl, rfl, nd_law_is_answer, rfl, by decide +kernel, by decide +kernel⟩
theorem bd_law_is_answer (G : Gk K mg) (h_law_are_all_let : HasP P w K mg base 5 ("_law_are_all_let" : Str) 2 (spF K 2 F_law_are_all_let)) (h_law_is_place : HasP P w K mg base 3 ("_law_is_place" : Str) 1 (spF K 1 F_law_is_place)) (h_law_at : HasP P w K mg base 1 ("_law_at" : Str) 1 (spF K 1 F_law_at)) (h_law_is_in : HasP P w K mg base 2 ("_law_is_in" : Str) 2 (spF K 2 F_law_is_in)) (h_law_is_let_at : HasP P w K mg base 5 ("_law_is_let_at" : Str) 2 (spF K 2 F_law_is_let_at)) : Bd P w K mg base N_law_is_answer ("_law_is_answer" : Str) (defScope (top 104)) 5 f (defBody (top 104)) g_law_is_answer := fun cdv A outer s H E C hr =>
  have nd := nd_law_is_answer
  (ess_cons (es_if (et_val (ev_call h_law_are_all_let (hr.mono (by decide)) (ea_cons (ev_var 1) (ea_cons (ev_var 2) ea_nil)) (hl := (mCons_len (mCons_len mNil_len))))) (ess_one (es_ret (ev_isN (el_of (ev_var 0))))) ess_nil) (ess_cons (es_if (et_not (et_val (ev_call h_law_is_place (hr.mono (by decide)) (ea_cons (ev_var 0) ea_nil) (hl := (mCons_len mNil_len))))) (ess_one (es_ret ev_bl)) ess_nil) (ess_cons (es_asg (ev_call h_law_at (hr.mono (by decide)) (ea_cons (ev_var 0) ea_nil) (hl := (mCons_len mNil_len))) (eg_tup rfl (egs_cons (eg_name 3 nd) (egs_cons (eg_name 4 nd) (egs_cons (eg_name 5 nd) egs_nil))) (gsCons_len (gsCons_len (gsCons_len (fun _ _ _ _ h => gsNil_len h)))))) (ess_cons (es_if (et_not (et_val (ev_call h_law_is_in (hr.mono (by decide)) (ea_cons (ev_ef (ef_lc [(("_law_east" : Str), 6), (("_law_north" : Str), 7)] rfl nd (ei_row (ev_var 2)) (blkOk_by (by kernel_rfl)) (fun _ _ _ _ _ => (eg_tup rfl (egs_cons (eg_name 6 nd) (egs_cons (eg_name 7 nd) egs_nil)) (gsCons_len (gsCons_len (fun _ _ _ _ h => gsNil_len h))))) (fun _ _ _ _ _ => ets_nil) (fun _ _ _ _ _ => (ev_tup (ea_cons (ev_mul (ev_var 6) (ev_var 5)) (ea_cons (ev_mul (ev_var 7) (ev_var 5)) ea_nil)))))) (ea_cons (ev_tup (ea_cons (ev_var 3) (ea_cons (ev_var 4) ea_nil))) ea_nil)) (hl := (mCons_len (mCons_len mNil_len)))))) (ess_one (es_ret ev_bl)) ess_nil) (ess_one (es_ret (ev_not (ev_call h_law_is_let_at (hr.mono (by decide)) (ea_cons (ev_var 1) (ea_cons (ev_tup (ea_cons (ev_var 3) (ea_cons (ev_var 4) (ea_cons (ev_var 5) ea_nil)))) ea_nil)) (hl := (mCons_len (mCons_len mNil_len)))))))))))
/-! _law_turned -/
abbrev N_law_turned : List Str := [("_law_way" : Str), ("_law_spot" : Str), ("_law_turn" : Str)]
abbrev p_law_turned : List Str := [("_law_way" : Str), ("_law_spot" : Str)]
def g_law_turned : Sm := (sSeq (sFor (mRng1 (mCons (mVar 0) mNil)) (gNm 2) (sSet 1 (mTup (mCons (mBin fSub (mC (.int 0)) (mBin fIx (mVar 1) (mC (.int 1)))) (mCons (mBin fIx (mVar 1) (mC (.int 0))) mNil))))) (sRet (mVar 1)))
def F_law_turned : List Dt → Option Dt := runF g_law_turned 3
theorem nd_law_turned : N_law_turned.Nodup := by decide +kernel
theorem sc_law_turned : FnScope N_law_turned p_law_turned (defScope (top 105)) := ⟨rfl, rfl, rfl, nd_law_turned, rfl, by decide +kernel, by decide +kernel⟩
theorem bd_law_turned (G : Gk K mg) : Bd P w K mg base N_law_turned ("_law_turned" : Str) (defScope (top 105)) 0 f (defBody (top 105)) g_law_turned := fun cdv A outer s H E C hr =>
  have nd := nd_law_turned
  (ess_cons (es_for PassesOwn.never rfl (ei_rng1 G.b_range (ea_cons (ev_var 0) ea_nil)) (eg_name 2 nd) (ess_one (es_set 1 (ev_tup (ea_cons (ev_sub ev_int (ev_ix (el_of (ev_var 1)) ev_int)) (ea_cons (ev_ix (el_of (ev_var 1)) ev_int) ea_nil))) nd))) (ess_one (es_ret (ev_var 1))))
/-! _law_shape -/
abbrev N_law_shape : List Str := [("_law_well_here" : Str), ("_law_a" : Str), ("_law_b" : Str), ("_law_h" : Str), ("_law_middle" : Str), ("_law_far_here" : Str)]
abbrev p_law_shape : List Str := [("_law_well_here" : Str), ("_law_a" : Str), ("_law_b" : Str), ("_law_h" : Str)]
def g_law_shape : Sm := (sSeq (sPar [4, 5] (pD (mBin fDiv (mBin fAdd (mVar 1) (mVar 2)) (mC (.int 2))) (pD (mBin fAdd (mVar 1) (mVar 2)) pNil))) (sRet (mCallJ 0 J_law_pick (mCons (mTup (mCons (mTup (mCons (mTup (mCons (mVar 1) (mCons (mUn fNeg (mVar 3)) mNil))) (mCons (mTup (mCons (mVar 2) (mCons (mUn fNeg (mVar 3)) mNil))) (mCons (mTup (mCons (mVar 2) (mCons (mVar 3) mNil))) (mCons (mTup (mCons (mVar 1) (mCons (mVar 3) mNil))) mNil))))) (mCons (mTup (mCons (mTup (mCons (mVar 1) (mCons (mUn fNeg (mVar 3)) mNil))) (mCons (mTup (mCons (mBin fAdd (mVar 5) (mC (.int 16))) (mCons (mC (.int 0)) mNil))) (mCons (mTup (mCons (mVar 1) (mCons (mVar 3) mNil))) mNil)))) (mCons (mTup (mCons (mTup (mCons (mVar 2) (mCons (mVar 3) mNil))) (mCons (mTup (mCons (mVar 1) (mCons (mVar 3) mNil))) (mCons (mTup (mCons (mVar 4) (mCons (mC (.int 0)) mNil))) mNil)))) (mCons (mTup (mCons (mTup (mCons (mVar 1) (mCons (mUn fNeg (mVar 3)) mNil))) (mCons (mTup (mCons (mVar 2) (mCons (mUn fNeg (mVar 3)) mNil))) (mCons (mTup (mCons (mBin fAdd (mVar 5) (mC (.int 6))) (mCons (mC (.int 0)) mNil))) (mCons (mTup (mCons (mVar 2) (mCons (mVar 3) mNil))) (mCons (mTup (mCons (mVar 1) (mCons (mVar 3) mNil))) mNil)))))) (mCons (mTup (mCons (mTup (mCons (mVar 2) (mCons (mUn fNeg (mVar 3)) mNil))) (mCons (mTup (mCons (mVar 5) (mCons (mC (.int 0)) mNil))) (mCons (mTup (mCons (mVar 2) (mCons (mVar 3) mNil))) mNil)))) (mCons (mTup (mCons (mTup (mCons (mBin fSub (mVar 4) (mC (.int 1))) (mCons (mC (.int 0)) mNil))) (mCons (mTup (mCons (mBin fAdd (mVar 4) (mC (.int 1))) (mCons (mUn fNeg (mC (.int 1))) mNil))) (mCons (mTup (mCons (mVar 2) (mCons (mVar 3) mNil))) mNil)))) (mCons (mTup (mCons (mTup (mCons (mVar 2) (mCons (mUn fNeg (mVar 3)) mNil))) (mCons (mTup (mCons (mBin fAdd (mVar 5) (mC (.int 2))) (mCons (mUn fNeg (mC (.int 1))) mNil))) (mCons (mTup (mCons (mBin fAdd (mVar 5) (mC (.int 2))) (mCons (mC (.int 1)) mNil))) (mCons (mTup (mCons (mVar 2) (mCons (mVar 3) mNil))) mNil))))) mNil)))))))) mNil))))
def J_law_shape : List Dt → Jr → Option (Dt × Jr) := runJ g_law_shape 6
theorem nd_law_shape : N_law_shape.Nodup := by decide +kernel
theorem sc_law_shape : FnScope N_law_shape p_law_shape (defScope (top 106)) := ⟨rfl, rfl, rfl, nd_law_shape, rfl, by decide +kernel, by decide +kernel⟩
theorem bd_law_shape (G : Gk K mg) (h_law_pick : HasP P w K mg base 2 ("_law_pick" : Str) 2 (spJ K 2 J_law_pick)) : Bd P w K mg base N_law_shape ("_law_shape" : Str) (defScope (top 106)) 2 f (defBody (top 106)) g_law_shape := fun cdv A outer s H E C hr =>
  have nd := nd_law_shape
  (ess_cons (es_par2 4 5 (ep_d (ev_fdiv (ev_add (ev_var 1) (ev_var 2)) ev_int) (ep_d (ev_add (ev_var 1) (ev_var 2)) ep_nil)) rfl nd) (ess_one (es_ret (ev_callJ 0 h_law_pick (hr.mono (by decide)) (ea_cons (ev_tup (ea_cons (ev_tup (ea_cons (ev_tup (ea_cons (ev_var 1) (ea_cons (ev_neg (ev_var 3)) ea_nil))) (ea_cons (ev_tup (ea_cons (ev_var 2) (ea_cons (ev_neg (ev_var 3)) ea_nil))) (ea_cons (ev_tup (ea_cons (ev_var 2) (ea_cons (ev_var 3) ea_nil))) (ea_cons (ev_tup (ea_cons (ev_var 1) (ea_cons (ev_var 3) ea_nil))) ea_nil))))) (ea_cons (ev_tup (ea_cons (ev_tup (ea_cons (ev_var 1) (ea_cons (ev_neg (ev_var 3)) ea_nil))) (ea_cons (ev_tup (ea_cons (ev_add (ev_var 5) ev_int) (ea_cons ev_int ea_nil))) (ea_cons (ev_tup (ea_cons (ev_var 1) (ea_cons (ev_var 3) ea_nil))) ea_nil)))) (ea_cons (ev_tup (ea_cons (ev_tup (ea_cons (ev_var 2) (ea_cons (ev_var 3) ea_nil))) (ea_cons (ev_tup (ea_cons (ev_var 1) (ea_cons (ev_var 3) ea_nil))) (ea_cons (ev_tup (ea_cons (ev_var 4) (ea_cons ev_int ea_nil))) ea_nil)))) (ea_cons (ev_tup (ea_cons (ev_tup (ea_cons (ev_var 1) (ea_cons (ev_neg (ev_var 3)) ea_nil))) (ea_cons (ev_tup (ea_cons (ev_var 2) (ea_cons (ev_neg (ev_var 3)) ea_nil))) (ea_cons (ev_tup (ea_cons (ev_add (ev_var 5) ev_int) (ea_cons ev_int ea_nil))) (ea_cons (ev_tup (ea_cons (ev_var 2) (ea_cons (ev_var 3) ea_nil))) (ea_cons (ev_tup (ea_cons (ev_var 1) (ea_cons (ev_var 3) ea_nil))) ea_nil)))))) (ea_cons (ev_tup (ea_cons (ev_tup (ea_cons (ev_var 2) (ea_cons (ev_neg (ev_var 3)) ea_nil))) (ea_cons (ev_tup (ea_cons (ev_var 5) (ea_cons ev_int ea_nil))) (ea_cons (ev_tup (ea_cons (ev_var 2) (ea_cons (ev_var 3) ea_nil))) ea_nil)))) (ea_cons (ev_tup (ea_cons (ev_tup (ea_cons (ev_sub (ev_var 4) ev_int) (ea_cons ev_int ea_nil))) (ea_cons (ev_tup (ea_cons (ev_add (ev_var 4) ev_int) (ea_cons (ev_neg ev_int) ea_nil))) (ea_cons (ev_tup (ea_cons (ev_var 2) (ea_cons (ev_var 3) ea_nil))) ea_nil)))) (ea_cons (ev_tup (ea_cons (ev_tup (ea_cons (ev_var 2) (ea_cons (ev_neg (ev_var 3)) ea_nil))) (ea_cons (ev_tup (ea_cons (ev_add (ev_var 5) ev_int) (ea_cons (ev_neg ev_int) ea_nil))) (ea_cons (ev_tup (ea_cons (ev_add (ev_var 5) ev_int) (ea_cons ev_int ea_nil))) (ea_cons (ev_tup (ea_cons (ev_var 2) (ea_cons (ev_var 3) ea_nil))) ea_nil))))) ea_nil)))))))) ea_nil) (lenJ (mCons_len mNil_len))))))
/-! _law_sized -/
abbrev N_law_sized : List Str := [("_law_h" : Str), ("_law_d" : Str)]
abbrev p_law_sized : List Str := [("_law_h" : Str), ("_law_d" : Str)]
def g_law_sized : Sm := (sRet (mTup (mCons (mBin fDiv (mBin fSub (mBin fDiv (mBin fMul (mVar 0) (mVar 0)) (mVar 1)) (mVar 1)) (mC (.int 2))) (mCons (mBin fDiv (mBin fAdd (mBin fDiv (mBin fMul (mVar 0) (mVar 0)) (mVar 1)) (mVar 1)) (mC (.int 2))) mNil))))
def F_law_sized : List Dt → Option Dt := runF g_law_sized 2
theorem nd_law_sized : N_law_sized.Nodup := by decide +kernel
theorem sc_law_sized : FnScope N_law_sized p_law_sized (defScope (top 107)) := ⟨rfl, rfl, rfl, nd_law_sized, rfl, by decide +kernel, by decide +kernel⟩
theorem bd_law_sized (G : Gk K mg) : Bd P w K mg base N_law_sized ("_law_sized" : Str) (defScope (top 107)) 0 f (defBody (top 107)) g_law_sized := fun cdv A outer s H E C hr =>
  have nd := nd_law_sized
  (ess_one (es_ret (ev_tup (ea_cons (ev_fdiv (ev_sub (ev_fdiv (ev_mul (ev_var 0) (ev_var 0)) (ev_var 1)) (ev_var 1)) ev_int) (ea_cons (ev_fdiv (ev_add (ev_fdiv (ev_mul (ev_var 0) (ev_var 0)) (ev_var 1)) (ev_var 1)) ev_int) ea_nil)))))
/-! _law_right -/
abbrev N_law_right : List Str := [("_law_well_here" : Str), ("_law_h" : Str), ("_law_some" : Str), ("_law_d" : Str), ("_law_at_here" : Str), ("_law_a" : Str), ("_law_near" : Str), ("_law_b" : Str), ("_law_wide" : Str), ("_law_times" : Str), ("_law_way" : Str), ("_law_east" : Str), ("_law_north" : Str), ("_law_corners" : Str), ("_law_spot" : Str), ("_law_x" : Str), ("_law_y" : Str), ("_law_far_here" : Str), ("_law_low_here" : Str), ("_law_less" : Str), ("_law_apart" : Str), ("_law_spots" : Str), ("_law_told" : Str), ("_law_world" : Str), ("_law_shown" : Str), ("_law_found" : Str), ("_law_each" : Str)]
abbrev p_law_right : List Str := [("_law_well_here" : Str)]
def g_law_right : Sm := (sSeq (sSet 1 (mCallJ 0 J_law_pick (mCons (mTup (mCons (mC (.int 12)) (mCons (mC (.int 24)) (mCons (mC (.int 8)) mNil)))) mNil))) (sSeq (sSet 2 (mL (mLc (mRng3 (mCons (mC (.int 2)) (mCons (mVar 1) (mCons (mC (.int 2)) mNil)))) (gNm 3) (mTst (mBin fEq (mBin fMod (mUn gInt (mBin fMul (mVar 1) (mVar 1))) (mBin fMul (mC (.int 2)) (mVar 3))) (mC (.int 0)))) (mVar 3) [3]))) (sSeq (sSet 4 (mCallJ 0 J_law_draw (mCons (mBin fSub (mUn gLen (mVar 2)) (mC (.int 1))) mNil))) (sSeq (sAsg (mTup (mCons (mCall F_law_sized (mCons (mVar 1) (mCons (mBin fIx (mVar 2) (mBin fAdd (mVar 4) (mC (.int 1)))) mNil))) (mCons (mCall F_law_sized (mCons (mVar 1) (mCons (mBin fIx (mVar 2) (mVar 4)) mNil))) mNil))) (gTp (gsCons (gTp (gsCons (gNm 5) (gsCons (gNm 6) gsNil))) (gsCons (gTp (gsCons (gNm 7) (gsCons (gNm 8) gsNil))) gsNil)))) (sSeq (sPar [9, 10] (pD (mBin fMul (mC (.int 6)) (mCallJ 0 J_law_pick (mCons (mTup (mCons (mC (.int 1)) (mCons (mC (.int 2)) (mCons (mC (.int 1)) mNil)))) mNil))) (pD (mCallJ 0 J_law_draw (mCons (mC (.int 4)) mNil)) pNil))) (sSeq (sPar [11, 12] (pD (mCallJ 0 J_law_draw (mCons (mC (.int 31)) mNil)) (pD (mCallJ 0 J_law_draw (mCons (mC (.int 31)) mNil)) pNil))) (sSeq (sOwn 13 (mDisp mNil)) (sSeq (sFor (mRow (mCallJ 0 J_law_shape (mCons (mVar 5) (mCons (mVar 7) (mCons (mVar 1) mNil))))) (gNm 14) (sSeq (sAsg (mCall F_law_turned (mCons (mVar 10) (mCons (mVar 14) mNil))) (gTp (gsCons (gNm 15) (gsCons (gNm 16) gsNil)))) (sApp 13 (mTup (mCons (mBin fAdd (mBin fMul (mVar 9) (mVar 15)) (mVar 11)) (mCons (mBin fAdd (mBin fMul (mVar 9) (mVar 16)) (mVar 12)) mNil)))))) (sSeq (sIf (mTst (mBin fEq (mCallJ 0 J_law_draw (mCons (mC (.int 3)) mNil)) (mC (.int 0)))) (sSeq (sSet 4 (mCallJ 0 J_law_draw (mCons (mUn gLen (mOwn 13)) mNil))) (sSetI 13 (mTup (mCons (mBin fSub (mBin fAdd (mBin fIx (mBin fIx (mOwn 13) (mVar 4)) (mC (.int 0))) (mCallJ 0 J_law_draw (mCons (mC (.int 3)) mNil))) (mC (.int 1))) (mCons (mBin fSub (mBin fAdd (mBin fIx (mBin fIx (mOwn 13) (mVar 4)) (mC (.int 1))) (mCallJ 0 J_law_draw (mCons (mC (.int 3)) mNil))) (mC (.int 1))) mNil))) (mVar 4))) sNil) (sFrz 13 (sSeq (sSet 17 (mCall F_law_turned (mCons (mVar 10) (mCons (mTup (mCons (mBin fAdd (mVar 5) (mVar 7)) (mCons (mC (.int 0)) mNil))) mNil)))) (sSeq (sPar [18, 19] (pD (mBin fSub (mCallJ 0 J_law_draw (mCons (mC (.int 41)) mNil)) (mC (.int 20))) (pD (mBin fSub (mVar 8) (mVar 6)) pNil))) (sSeq (sSet 20 (mBin fMul (mCallJ 0 J_law_pick (mCons (mTup (mCons (mVar 19) (mCons (mVar 19) (mCons (mBin fSub (mC (.int 0)) (mVar 19)) (mCons (mC (.int 0)) (mCons (mBin fAdd (mVar 5) (mVar 7)) (mCons (mBin fSub (mBin fSub (mC (.int 0)) (mVar 5)) (mVar 7)) (mCons (mVar 19) mNil)))))))) mNil)) (mVar 9))) (sSeq (sSet 20 (mBin fAdd (mVar 20) (mCallJ 0 J_law_pick (mCons (mTup (mCons (mC (.int 0)) (mCons (mC (.int 0)) (mCons (mC (.int 0)) (mCons (mC (.int 1)) (mCons (mUn fNeg (mC (.int 1))) mNil)))))) mNil)))) (sSeq (sSet 21 (mLst (mCons (mTup (mCons (mVar 11) (mCons (mVar 12) mNil))) (mCons (mTup (mCons (mBin fAdd (mBin fMul (mVar 9) (mBin fIx (mVar 17) (mC (.int 0)))) (mVar 11)) (mCons (mBin fAdd (mBin fMul (mVar 9) (mBin fIx (mVar 17) (mC (.int 1)))) (mVar 12)) mNil))) mNil)))) (sSeq (sSet 22 (mLst (mCons (mTup (mCons (mC (.int 0)) (mCons (mVar 18) (mCons (mC .none) mNil)))) (mCons (mTup (mCons (mC (.int 1)) (mCons (mC .none) (mCons (mBin fAdd (mVar 18) (mVar 20)) mNil)))) mNil)))) (sSeq (sIf (mTst (mBin fEq (mCallJ 0 J_law_draw (mCons (mC (.int 2)) mNil)) (mC (.int 0)))) (sSet 22 (mLst (mCons (mTup (mCons (mC (.int 1)) (mCons (mVar 18) (mCons (mC .none) mNil)))) (mCons (mTup (mCons (mC (.int 0)) (mCons (mC .none) (mCons (mBin fAdd (mVar 18) (mVar 20)) mNil)))) mNil)))) sNil) (sSeq (sPar [23, 24] (pD (mTup (mCons (mVar 21) (mCons (mVar 22) (mCons (mLst mNil) mNil)))) (pD (mCall F_law_shown_corners (mCons (mVar 13) mNil)) pNil))) (sSeq (sSet 25 (mCall F_shut_place (mCons (mCall F_law_scene (mCons (mVar 23) mNil)) (mCons (mVar 24) mNil)))) (sSeq (sIf (mNot (mTst (mCall F_law_is_answer (mCons (mVar 25) (mCons (mVar 23) (mCons (mVar 13) mNil)))))) (sRet (mC (.bool false))) sNil) (sSeq (sFor (mRng1 (mCons (mC (.int 6)) mNil)) (gNm 26) (sIf (mAnd (mTst (mIsN (mVar 25))) (mNot (mTst (mCall F_law_is_let_at (mCons (mVar 23) (mCons (mCallJ 0 J_law_inner (mCons (mVar 13) mNil)) mNil)))))) (sRet (mC (.bool false))) sNil)) (sRet (mC (.bool true))))))))))))))))))))))))
def J_law_right : List Dt → Jr → Option (Dt × Jr) := runJ g_law_right 27
theorem nd_law_right : N_law_right.Nodup := by decide +kernel
theorem sc_law_right : FnScope N_law_right p_law_right (defScope (top 108)) := ⟨rfl, rfl, rfl, nd_law_right, rfl, by decide +kernel, by decide +kernel⟩
theorem bd_law_right (G : Gk K mg) (h_law_pick : HasP P w K mg base 2 ("_law_pick" : Str) 2 (spJ K 2 J_law_pick)) (h_law_draw : HasP P w K mg base 1 ("_law_draw" : Str) 2 (spJ K 2 J_law_draw)) (h_law_sized : HasP P w K mg base 1 ("_law_sized" : Str) 2 (spF K 2 F_law_sized)) (h_law_shape : HasP P w K mg base 3 ("_law_shape" : Str) 4 (spJ K 4 J_law_shape)) (h_law_turned : HasP P w K mg base 1 ("_law_turned" : Str) 2 (spF K 2 F_law_turned)) (h_law_shown_corners : HasP P w K mg base 4 ("_law_shown_corners" : Str) 1 (spF K 1 F_law_shown_corners)) (h_shut_place : HasP P w K mg base 10 ("shut_place" : Str) 2 (spF K 2 F_shut_place)) (h_law_scene : HasP P w K mg base 3 ("_law_scene" : Str) 1 (spF K 1 F_law_scene)) (h_law_is_answer : HasP P w K mg base 6 ("_law_is_answer" : Str) 3 (spF K 3 F_law_is_answer)) (h_law_is_let_at : HasP P w K mg base 5 ("_law_is_let_at" : Str) 2 (spF K 2 F_law_is_let_at)) (h_law_inner : HasP P w K mg base 3 ("_law_inner" : Str) 2 (spJ K 2 J_law_inner)) : Bd P w K mg base N_law_right ("_law_right" : Str) (defScope (top 108)) 10 f (defBody (top 108)) g_law_right := fun cdv A outer s H E C hr =>
  have nd := nd_law_right
  (ess_cons (es_set 1 (ev_callJ 0 h_law_pick (hr.mono (by decide)) (ea_cons (ev_tup (ea_cons ev_int (ea_cons ev_int (ea_cons ev_int ea_nil)))) ea_nil) (lenJ (mCons_len mNil_len))) nd) (ess_cons (es_setLcD [(("_law_d" : Str), 3)] 2 rfl nd (ei_rng3 G.b_range (ea_cons ev_int (ea_cons (ev_var 1) (ea_cons ev_int ea_nil)))) (blkOk_by (by kernel_rfl)) (fun _ _ _ _ _ => (eg_name 3 nd)) (fun _ _ _ _ _ => (ets_one (et_eq (rm150 hr) (el_of (ev_mod (ev_int1 G.b_int (el_of (ev_mul (ev_var 1) (ev_var 1)))) (ev_mul ev_int (ev_var 3)))) (el_of ev_int)))) (fun _ _ _ _ _ => (ev_var 3)) (sw_true rfl rfl rfl rfl)) (ess_cons (es_set 4 (ev_callJ 0 h_law_draw (hr.mono (by decide)) (ea_cons (ev_sub (ev_len G.b_len (el_of (ev_var 2))) ev_int) ea_nil) (lenJ (mCons_len mNil_len))) nd) (ess_cons (es_asg (ev_tup (ea_cons (ev_call h_law_sized (hr.mono (by decide)) (ea_cons (ev_var 1) (ea_cons (ev_ix (el_of (ev_var 2)) (ev_add (ev_var 4) ev_int)) ea_nil)) (hl := (mCons_len (mCons_len mNil_len)))) (ea_cons (ev_call h_law_sized (hr.mono (by decide)) (ea_cons (ev_var 1) (ea_cons (ev_ix (el_of (ev_var 2)) (ev_var 4)) ea_nil)) (hl := (mCons_len (mCons_len mNil_len)))) ea_nil))) (eg_tup rfl (egs_cons (eg_tup rfl (egs_cons (eg_name 5 nd) (egs_cons (eg_name 6 nd) egs_nil)) (gsCons_len (gsCons_len (fun _ _ _ _ h => gsNil_len h)))) (egs_cons (eg_tup rfl (egs_cons (eg_name 7 nd) (egs_cons (eg_name 8 nd) egs_nil)) (gsCons_len (gsCons_len (fun _ _ _ _ h => gsNil_len h)))) egs_nil)) (gsCons_len (gsCons_len (fun _ _ _ _ h => gsNil_len h))))) (ess_cons (es_par2 9 10 (ep_d (ev_mul ev_int (ev_callJ 0 h_law_pick (hr.mono (by decide)) (ea_cons (ev_tup (ea_cons ev_int (ea_cons ev_int (ea_cons ev_int ea_nil)))) ea_nil) (lenJ (mCons_len mNil_len)))) (ep_d (ev_callJ 0 h_law_draw (hr.mono (by decide)) (ea_cons ev_int ea_nil) (lenJ (mCons_len mNil_len))) ep_nil)) rfl nd) (ess_cons (es_par2 11 12 (ep_d (ev_callJ 0 h_law_draw (hr.mono (by decide)) (ea_cons ev_int ea_nil) (lenJ (mCons_len mNil_len))) (ep_d (ev_callJ 0 h_law_draw (hr.mono (by decide)) (ea_cons ev_int ea_nil) (lenJ (mCons_len mNil_len))) ep_nil)) rfl nd) (ess_cons (es_own 13 (ef_lst ea_nil) nd) (ess_cons (es_for PassesOwn.never rfl (ei_row (ev_callJ 0 h_law_shape (hr.mono (by decide)) (ea_cons (ev_var 5) (ea_cons (ev_var 7) (ea_cons (ev_var 1) ea_nil))) (lenJ (mCons_len (mCons_len (mCons_len mNil_len)))))) (eg_name 14 nd) (ess_cons (es_asg (ev_call h_law_turned (hr.mono (by decide)) (ea_cons (ev_var 10) (ea_cons (ev_var 14) ea_nil)) (hl := (mCons_len (mCons_len mNil_len)))) (eg_tup rfl (egs_cons (eg_name 15 nd) (egs_cons (eg_name 16 nd) egs_nil)) (gsCons_len (gsCons_len (fun _ _ _ _ h => gsNil_len h))))) (ess_one (es_app 13 (ev_tup (ea_cons (ev_add (ev_mul (ev_var 9) (ev_var 15)) (ev_var 11)) (ea_cons (ev_add (ev_mul (ev_var 9) (ev_var 16)) (ev_var 12)) ea_nil))))))) (ess_cons (es_if (et_eq (rm150 hr) (el_of (ev_callJ 0 h_law_draw (hr.mono (by decide)) (ea_cons ev_int ea_nil) (lenJ (mCons_len mNil_len)))) (el_of ev_int)) (ess_cons (es_set 4 (ev_callJ 0 h_law_draw (hr.mono (by decide)) (ea_cons (ev_len G.b_len (el_own 13)) ea_nil) (lenJ (mCons_len mNil_len))) nd) (ess_one (es_setI 13 (ev_tup (ea_cons (ev_sub (ev_add (ev_ix (el_of (ev_ix (el_own 13) (ev_var 4))) ev_int) (ev_callJ 0 h_law_draw (hr.mono (by decide)) (ea_cons ev_int ea_nil) (lenJ (mCons_len mNil_len)))) ev_int) (ea_cons (ev_sub (ev_add (ev_ix (el_of (ev_ix (el_own 13) (ev_var 4))) ev_int) (ev_callJ 0 h_law_draw (hr.mono (by decide)) (ea_cons ev_int ea_nil) (lenJ (mCons_len mNil_len)))) ev_int) ea_nil))) (ev_var 4)))) ess_nil) (ess_frz 13 (ess_cons (es_set 17 (ev_call h_law_turned (hr.mono (by decide)) (ea_cons (ev_var 10) (ea_cons (ev_tup (ea_cons (ev_add (ev_var 5) (ev_var 7)) (ea_cons ev_int ea_nil))) ea_nil)) (hl := (mCons_len (mCons_len mNil_len)))) nd) (ess_cons (es_par2 18 19 (ep_d (ev_sub (ev_callJ 0 h_law_draw (hr.mono (by decide)) (ea_cons ev_int ea_nil) (lenJ (mCons_len mNil_len))) ev_int) (ep_d (ev_sub (ev_var 8) (ev_var 6)) ep_nil)) rfl nd) (ess_cons (es_set 20 (ev_mul (ev_callJ 0 h_law_pick (hr.mono (by decide)) (ea_cons (ev_tup (ea_cons (ev_var 19) (ea_cons (ev_var 19) (ea_cons (ev_sub ev_int (ev_var 19)) (ea_cons ev_int (ea_cons (ev_add (ev_var 5) (ev_var 7)) (ea_cons (ev_sub (ev_sub ev_int (ev_var 5)) (ev_var 7)) (ea_cons (ev_var 19) ea_nil)))))))) ea_nil) (lenJ (mCons_len mNil_len))) (ev_var 9)) nd) (ess_cons (es_set 20 (ev_add (ev_var 20) (ev_callJ 0 h_law_pick (hr.mono (by decide)) (ea_cons (ev_tup (ea_cons ev_int (ea_cons ev_int (ea_cons ev_int (ea_cons ev_int (ea_cons (ev_neg ev_int) ea_nil)))))) ea_nil) (lenJ (mCons_len mNil_len)))) nd) (ess_cons (es_set 21 (ev_lst (ea_cons (ev_tup (ea_cons (ev_var 11) (ea_cons (ev_var 12) ea_nil))) (ea_cons (ev_tup (ea_cons (ev_add (ev_mul (ev_var 9) (ev_ix (el_of (ev_var 17)) ev_int)) (ev_var 11)) (ea_cons (ev_add (ev_mul (ev_var 9) (ev_ix (el_of (ev_var 17)) ev_int)) (ev_var 12)) ea_nil))) ea_nil))) nd) (ess_cons (es_set 22 (ev_lst (ea_cons (ev_tup (ea_cons ev_int (ea_cons (ev_var 18) (ea_cons ev_non ea_nil)))) (ea_cons (ev_tup (ea_cons ev_int (ea_cons ev_non (ea_cons (ev_add (ev_var 18) (ev_var 20)) ea_nil)))) ea_nil))) nd) (ess_cons (es_if (et_eq (rm150 hr) (el_of (ev_callJ 0 h_law_draw (hr.mono (by decide)) (ea_cons ev_int ea_nil) (lenJ (mCons_len mNil_len)))) (el_of ev_int)) (ess_one (es_set 22 (ev_lst (ea_cons (ev_tup (ea_cons ev_int (ea_cons (ev_var 18) (ea_cons ev_non ea_nil)))) (ea_cons (ev_tup (ea_cons ev_int (ea_cons ev_non (ea_cons (ev_add (ev_var 18) (ev_var 20)) ea_nil)))) ea_nil))) nd)) ess_nil) (ess_cons (es_par2 23 24 (ep_d (ev_tup (ea_cons (ev_var 21) (ea_cons (ev_var 22) (ea_cons (ev_lst ea_nil) ea_nil)))) (ep_d (ev_call h_law_shown_corners (hr.mono (by decide)) (ea_cons (ev_var 13) ea_nil) (hl := (mCons_len mNil_len))) ep_nil)) rfl nd) (ess_cons (es_set 25 (ev_call h_shut_place (hr.mono (by decide)) (ea_cons (ev_call h_law_scene (hr.mono (by decide)) (ea_cons (ev_var 23) ea_nil) (hl := (mCons_len mNil_len))) (ea_cons (ev_var 24) ea_nil)) (hl := (mCons_len (mCons_len mNil_len)))) nd) (ess_cons (es_if (et_not (et_val (ev_call h_law_is_answer (hr.mono (by decide)) (ea_cons (ev_var 25) (ea_cons (ev_var 23) (ea_cons (ev_var 13) ea_nil))) (hl := (mCons_len (mCons_len (mCons_len mNil_len))))))) (ess_one (es_ret ev_bl)) ess_nil) (ess_cons (es_for PassesOwn.never rfl (ei_rng1 G.b_range (ea_cons ev_int ea_nil)) (eg_name 26 nd) (ess_one (es_if ((ew_and (et_isN (el_of (ev_var 25))) (ew_and1 (et_not (et_val (ev_call h_law_is_let_at (hr.mono (by decide)) (ea_cons (ev_var 23) (ea_cons (ev_callJ 0 h_law_inner (hr.mono (by decide)) (ea_cons (ev_var 13) ea_nil) (lenJ (mCons_len mNil_len))) ea_nil)) (hl := (mCons_len (mCons_len mNil_len))))))))).et (ess_one (es_ret ev_bl)) ess_nil))) (ess_one (es_ret ev_bl)))))))))))))))))))))))
/-! law -/
abbrev N_law : List Str := [("_law_script" : Str), ("_law_turn" : Str)]
abbrev p_law : List Str := [("_law_script" : Str)]
def g_law : Sm := (sRet (mUn gAll (mL (mLc (mRng1 (mCons (mBin gMax (mC (.int 1)) (mBin gMin (mUn gLen (mScr 0)) (mC (.int 2)))) mNil)) (gNm 1) mYes (mWell 0 W_law_well J_law_right (mVar 1)) [1]))))
def L_law : List Int → Option Dt := runL g_law 2
theorem nd_law : N_law.Nodup := by decide +kernel
theorem sc_law : FnScope N_law p_law (defScope (top 109)) := ⟨rfl, rfl, rfl, nd_law, rfl, by decide +kernel, by decide +kernel⟩
theorem bd_law (G : Gk K mg) (h_law_well : HasP P w K mg base 1 ("_law_well" : Str) 2 (spW K W_law_well)) (h_law_right : HasP P w K mg base 11 ("_law_right" : Str) 1 (spJ K 1 J_law_right)) : Bd P w K mg base N_law ("law" : Str) (defScope (top 109)) 11 f (defBody (top 109)) g_law := fun cdv A outer s H E C hr =>
  have nd := nd_law
  (ess_one (es_ret (ev_all rfl G.b_all (el_of (ev_ef (ef_lc [(("_law_turn" : Str), 1)] rfl nd (ei_rng1 G.b_range (ea_cons (ev_max rfl G.b_max (el_of ev_int) (el_of (ev_min rfl G.b_min (el_of (ev_len G.b_len (el_scr 0))) (el_of ev_int)))) ea_nil)) (blkOk_by (by kernel_rfl)) (fun _ _ _ _ _ => (eg_name 1 nd)) (fun _ _ _ _ _ => ets_nil) (fun _ _ _ _ _ => (ev_well 0 h_law_right h_law_well (hr.mono (by decide)) (hr.mono (by decide)) (ev_var 1)))))))))
end
structure Fs (K : PySem.W.Frag) (mg : Str → Option Value) : Prop where
  d_is_whole : ∃ f fd, mg ("is_whole" : Str) = some (.ref f) ∧ FunD K ("is_whole" : Str) ("is_whole" : Str) (defArgs (top 6)) (defBody (top 6)) (defScope (top 6)) [] [] f fd
  d_is_ratio : ∃ f fd, mg ("is_ratio" : Str) = some (.ref f) ∧ FunD K ("is_ratio" : Str) ("is_ratio" : Str) (defArgs (top 9)) (defBody (top 9)) (defScope (top 9)) [] [] f fd
  d_ratio : ∃ f fd, mg ("ratio" : Str) = some (.ref f) ∧ FunD K ("ratio" : Str) ("ratio" : Str) (defArgs (top 10)) (defBody (top 10)) (defScope (top 10)) [] [] f fd
  d_added : ∃ f fd, mg ("added" : Str) = some (.ref f) ∧ FunD K ("added" : Str) ("added" : Str) (defArgs (top 11)) (defBody (top 11)) (defScope (top 11)) [] [] f fd
  d_less_by : ∃ f fd, mg ("less_by" : Str) = some (.ref f) ∧ FunD K ("less_by" : Str) ("less_by" : Str) (defArgs (top 12)) (defBody (top 12)) (defScope (top 12)) [] [] f fd
  d_product : ∃ f fd, mg ("product" : Str) = some (.ref f) ∧ FunD K ("product" : Str) ("product" : Str) (defArgs (top 13)) (defBody (top 13)) (defScope (top 13)) [] [] f fd
  d_quotient : ∃ f fd, mg ("quotient" : Str) = some (.ref f) ∧ FunD K ("quotient" : Str) ("quotient" : Str) (defArgs (top 14)) (defBody (top 14)) (defScope (top 14)) [] [] f fd
  d_negative : ∃ f fd, mg ("negative" : Str) = some (.ref f) ∧ FunD K ("negative" : Str) ("negative" : Str) (defArgs (top 15)) (defBody (top 15)) (defScope (top 15)) [] [] f fd
  d_is_less : ∃ f fd, mg ("is_less" : Str) = some (.ref f) ∧ FunD K ("is_less" : Str) ("is_less" : Str) (defArgs (top 16)) (defBody (top 16)) (defScope (top 16)) [] [] f fd
  d_sign_of_ratio : ∃ f fd, mg ("sign_of_ratio" : Str) = some (.ref f) ∧ FunD K ("sign_of_ratio" : Str) ("sign_of_ratio" : Str) (defArgs (top 17)) (defBody (top 17)) (defScope (top 17)) [] [] f fd
  d_sign_by : ∃ f fd, mg ("sign_by" : Str) = some (.ref f) ∧ FunD K ("sign_by" : Str) ("sign_by" : Str) (defArgs (top 19)) (defBody (top 19)) (defScope (top 19)) [] [] f fd
  d_root_times : ∃ f fd, mg ("root_times" : Str) = some (.ref f) ∧ FunD K ("root_times" : Str) ("root_times" : Str) (defArgs (top 20)) (defBody (top 20)) (defScope (top 20)) [] [] f fd
  d_sign_of_two : ∃ f fd, mg ("sign_of_two" : Str) = some (.ref f) ∧ FunD K ("sign_of_two" : Str) ("sign_of_two" : Str) (defArgs (top 21)) (defBody (top 21)) (defScope (top 21)) [] [] f fd
  d_compared_by : ∃ f fd, mg ("compared_by" : Str) = some (.ref f) ∧ FunD K ("compared_by" : Str) ("compared_by" : Str) (defArgs (top 22)) (defBody (top 22)) (defScope (top 22)) [] [] f fd
  d_is_sided : ∃ f fd, mg ("is_sided" : Str) = some (.ref f) ∧ FunD K ("is_sided" : Str) ("is_sided" : Str) (defArgs (top 24)) (defBody (top 24)) (defScope (top 24)) [] [] f fd
  d_is_named : ∃ f fd, mg ("is_named" : Str) = some (.ref f) ∧ FunD K ("is_named" : Str) ("is_named" : Str) (defArgs (top 32)) (defBody (top 32)) (defScope (top 32)) [] [] f fd
  d_is_row_of : ∃ f fd, mg ("is_row_of" : Str) = some (.ref f) ∧ FunD K ("is_row_of" : Str) ("is_row_of" : Str) (defArgs (top 33)) (defBody (top 33)) (defScope (top 33)) [] [] f fd
  d_is_let_end : ∃ f fd, mg ("is_let_end" : Str) = some (.ref f) ∧ FunD K ("is_let_end" : Str) ("is_let_end" : Str) (defArgs (top 34)) (defBody (top 34)) (defScope (top 34)) [] [] f fd
  d_are_ends : ∃ f fd, mg ("are_ends" : Str) = some (.ref f) ∧ FunD K ("are_ends" : Str) ("are_ends" : Str) (defArgs (top 35)) (defBody (top 35)) (defScope (top 35)) [] [] f fd
  d_wrong_in_station : ∃ f fd, mg ("wrong_in_station" : Str) = some (.ref f) ∧ FunD K ("wrong_in_station" : Str) ("wrong_in_station" : Str) (defArgs (top 36)) (defBody (top 36)) (defScope (top 36)) [] [] f fd
  d_wrong_in_reading : ∃ f fd, mg ("wrong_in_reading" : Str) = some (.ref f) ∧ FunD K ("wrong_in_reading" : Str) ("wrong_in_reading" : Str) (defArgs (top 37)) (defBody (top 37)) (defScope (top 37)) [] [] f fd
  d_wrong_in_side : ∃ f fd, mg ("wrong_in_side" : Str) = some (.ref f) ∧ FunD K ("wrong_in_side" : Str) ("wrong_in_side" : Str) (defArgs (top 38)) (defBody (top 38)) (defScope (top 38)) [] [] f fd
  d_wrong_in_stations : ∃ f fd, mg ("wrong_in_stations" : Str) = some (.ref f) ∧ FunD K ("wrong_in_stations" : Str) ("wrong_in_stations" : Str) (defArgs (top 39)) (defBody (top 39)) (defScope (top 39)) [] [] f fd
  d_wrong_in_readings : ∃ f fd, mg ("wrong_in_readings" : Str) = some (.ref f) ∧ FunD K ("wrong_in_readings" : Str) ("wrong_in_readings" : Str) (defArgs (top 40)) (defBody (top 40)) (defScope (top 40)) [] [] f fd
  d_wrong_in_sides : ∃ f fd, mg ("wrong_in_sides" : Str) = some (.ref f) ∧ FunD K ("wrong_in_sides" : Str) ("wrong_in_sides" : Str) (defArgs (top 41)) (defBody (top 41)) (defScope (top 41)) [] [] f fd
  d_wrong_in_scene : ∃ f fd, mg ("wrong_in_scene" : Str) = some (.ref f) ∧ FunD K ("wrong_in_scene" : Str) ("wrong_in_scene" : Str) (defArgs (top 42)) (defBody (top 42)) (defScope (top 42)) [] [] f fd
  d_rows_by : ∃ f fd, mg ("rows_by" : Str) = some (.ref f) ∧ FunD K ("rows_by" : Str) ("rows_by" : Str) (defArgs (top 43)) (defBody (top 43)) (defScope (top 43)) [] [] f fd
  d_place_of : ∃ f fd, mg ("place_of" : Str) = some (.ref f) ∧ FunD K ("place_of" : Str) ("place_of" : Str) (defArgs (top 44)) (defBody (top 44)) (defScope (top 44)) [] [] f fd
  d_told_moment : ∃ f fd, mg ("told_moment" : Str) = some (.ref f) ∧ FunD K ("told_moment" : Str) ("told_moment" : Str) (defArgs (top 45)) (defBody (top 45)) (defScope (top 45)) [] [] f fd
  d_station_of : ∃ f fd, mg ("station_of" : Str) = some (.ref f) ∧ FunD K ("station_of" : Str) ("station_of" : Str) (defArgs (top 46)) (defBody (top 46)) (defScope (top 46)) [] [] f fd
  d_made_row : ∃ f fd, mg ("made_row" : Str) = some (.ref f) ∧ FunD K ("made_row" : Str) ("made_row" : Str) (defArgs (top 47)) (defBody (top 47)) (defScope (top 47)) [] [] f fd
  d_made_rows : ∃ f fd, mg ("made_rows" : Str) = some (.ref f) ∧ FunD K ("made_rows" : Str) ("made_rows" : Str) (defArgs (top 48)) (defBody (top 48)) (defScope (top 48)) [] [] f fd
  d_square_between : ∃ f fd, mg ("square_between" : Str) = some (.ref f) ∧ FunD K ("square_between" : Str) ("square_between" : Str) (defArgs (top 49)) (defBody (top 49)) (defScope (top 49)) [] [] f fd
  d_is_within : ∃ f fd, mg ("is_within" : Str) = some (.ref f) ∧ FunD K ("is_within" : Str) ("is_within" : Str) (defArgs (top 50)) (defBody (top 50)) (defScope (top 50)) [] [] f fd
  d_total : ∃ f fd, mg ("total" : Str) = some (.ref f) ∧ FunD K ("total" : Str) ("total" : Str) (defArgs (top 52)) (defBody (top 52)) (defScope (top 52)) [] [] f fd
  d_dotted : ∃ f fd, mg ("dotted" : Str) = some (.ref f) ∧ FunD K ("dotted" : Str) ("dotted" : Str) (defArgs (top 53)) (defBody (top 53)) (defScope (top 53)) [] [] f fd
  d_scaled_row : ∃ f fd, mg ("scaled_row" : Str) = some (.ref f) ∧ FunD K ("scaled_row" : Str) ("scaled_row" : Str) (defArgs (top 54)) (defBody (top 54)) (defScope (top 54)) [] [] f fd
  d_joined_row : ∃ f fd, mg ("joined_row" : Str) = some (.ref f) ∧ FunD K ("joined_row" : Str) ("joined_row" : Str) (defArgs (top 55)) (defBody (top 55)) (defScope (top 55)) [] [] f fd
  d_less_row : ∃ f fd, mg ("less_row" : Str) = some (.ref f) ∧ FunD K ("less_row" : Str) ("less_row" : Str) (defArgs (top 56)) (defBody (top 56)) (defScope (top 56)) [] [] f fd
  d_turn_of : ∃ f fd, mg ("turn_of" : Str) = some (.ref f) ∧ FunD K ("turn_of" : Str) ("turn_of" : Str) (defArgs (top 58)) (defBody (top 58)) (defScope (top 58)) [] [] f fd
  d_steps_of : ∃ f fd, mg ("steps_of" : Str) = some (.ref f) ∧ FunD K ("steps_of" : Str) ("steps_of" : Str) (defArgs (top 59)) (defBody (top 59)) (defScope (top 59)) [] [] f fd
  d_is_upper : ∃ f fd, mg ("is_upper" : Str) = some (.ref f) ∧ FunD K ("is_upper" : Str) ("is_upper" : Str) (defArgs (top 60)) (defBody (top 60)) (defScope (top 60)) [] [] f fd
  d_is_round_by : ∃ f fd, mg ("is_round_by" : Str) = some (.ref f) ∧ FunD K ("is_round_by" : Str) ("is_round_by" : Str) (defArgs (top 61)) (defBody (top 61)) (defScope (top 61)) [] [] f fd
  d_is_in_polygon : ∃ f fd, mg ("is_in_polygon" : Str) = some (.ref f) ∧ FunD K ("is_in_polygon" : Str) ("is_in_polygon" : Str) (defArgs (top 62)) (defBody (top 62)) (defScope (top 62)) [] [] f fd
  d_is_over : ∃ f fd, mg ("is_over" : Str) = some (.ref f) ∧ FunD K ("is_over" : Str) ("is_over" : Str) (defArgs (top 63)) (defBody (top 63)) (defScope (top 63)) [] [] f fd
  d_over_on : ∃ f fd, mg ("over_on" : Str) = some (.ref f) ∧ FunD K ("over_on" : Str) ("over_on" : Str) (defArgs (top 64)) (defBody (top 64)) (defScope (top 64)) [] [] f fd
  d_turning_part : ∃ f fd, mg ("turning_part" : Str) = some (.ref f) ∧ FunD K ("turning_part" : Str) ("turning_part" : Str) (defArgs (top 65)) (defBody (top 65)) (defScope (top 65)) [] [] f fd
  d_shut_by_pair : ∃ f fd, mg ("shut_by_pair" : Str) = some (.ref f) ∧ FunD K ("shut_by_pair" : Str) ("shut_by_pair" : Str) (defArgs (top 66)) (defBody (top 66)) (defScope (top 66)) [] [] f fd
  d_shut_by : ∃ f fd, mg ("shut_by" : Str) = some (.ref f) ∧ FunD K ("shut_by" : Str) ("shut_by" : Str) (defArgs (top 67)) (defBody (top 67)) (defScope (top 67)) [] [] f fd
  d_check_scene : ∃ f fd, mg ("check_scene" : Str) = some (.ref f) ∧ FunD K ("check_scene" : Str) ("check_scene" : Str) (defArgs (top 69)) (defBody (top 69)) (defScope (top 69)) [] [] f fd
  d_is_corner : ∃ f fd, mg ("is_corner" : Str) = some (.ref f) ∧ FunD K ("is_corner" : Str) ("is_corner" : Str) (defArgs (top 72)) (defBody (top 72)) (defScope (top 72)) [] [] f fd
  d_check_corners : ∃ f fd, mg ("check_corners" : Str) = some (.ref f) ∧ FunD K ("check_corners" : Str) ("check_corners" : Str) (defArgs (top 73)) (defBody (top 73)) (defScope (top 73)) [] [] f fd
  d_shut_place : ∃ f fd, mg ("shut_place" : Str) = some (.ref f) ∧ FunD K ("shut_place" : Str) ("shut_place" : Str) (defArgs (top 74)) (defBody (top 74)) (defScope (top 74)) [] [] f fd
  d_law_well : ∃ f fd, mg ("_law_well" : Str) = some (.ref f) ∧ FunD K ("_law_well" : Str) ("_law_well" : Str) (defArgs (top 76)) (defBody (top 76)) (defScope (top 76)) [] [] f fd
  d_law_draw : ∃ f fd, mg ("_law_draw" : Str) = some (.ref f) ∧ FunD K ("_law_draw" : Str) ("_law_draw" : Str) (defArgs (top 77)) (defBody (top 77)) (defScope (top 77)) [] [] f fd
  d_law_pick : ∃ f fd, mg ("_law_pick" : Str) = some (.ref f) ∧ FunD K ("_law_pick" : Str) ("_law_pick" : Str) (defArgs (top 78)) (defBody (top 78)) (defScope (top 78)) [] [] f fd
  d_law_low : ∃ f fd, mg ("_law_low" : Str) = some (.ref f) ∧ FunD K ("_law_low" : Str) ("_law_low" : Str) (defArgs (top 79)) (defBody (top 79)) (defScope (top 79)) [] [] f fd
  d_law_six : ∃ f fd, mg ("_law_six" : Str) = some (.ref f) ∧ FunD K ("_law_six" : Str) ("_law_six" : Str) (defArgs (top 80)) (defBody (top 80)) (defScope (top 80)) [] [] f fd
  d_law_sign : ∃ f fd, mg ("_law_sign" : Str) = some (.ref f) ∧ FunD K ("_law_sign" : Str) ("_law_sign" : Str) (defArgs (top 81)) (defBody (top 81)) (defScope (top 81)) [] [] f fd
  d_law_sign_two : ∃ f fd, mg ("_law_sign_two" : Str) = some (.ref f) ∧ FunD K ("_law_sign_two" : Str) ("_law_sign_two" : Str) (defArgs (top 82)) (defBody (top 82)) (defScope (top 82)) [] [] f fd
  d_law_sign_three : ∃ f fd, mg ("_law_sign_three" : Str) = some (.ref f) ∧ FunD K ("_law_sign_three" : Str) ("_law_sign_three" : Str) (defArgs (top 83)) (defBody (top 83)) (defScope (top 83)) [] [] f fd
  d_law_name : ∃ f fd, mg ("_law_name" : Str) = some (.ref f) ∧ FunD K ("_law_name" : Str) ("_law_name" : Str) (defArgs (top 84)) (defBody (top 84)) (defScope (top 84)) [] [] f fd
  d_law_scene : ∃ f fd, mg ("_law_scene" : Str) = some (.ref f) ∧ FunD K ("_law_scene" : Str) ("_law_scene" : Str) (defArgs (top 85)) (defBody (top 85)) (defScope (top 85)) [] [] f fd
  d_law_is_whole : ∃ f fd, mg ("_law_is_whole" : Str) = some (.ref f) ∧ FunD K ("_law_is_whole" : Str) ("_law_is_whole" : Str) (defArgs (top 87)) (defBody (top 87)) (defScope (top 87)) [] [] f fd
  d_law_is_fraction : ∃ f fd, mg ("_law_is_fraction" : Str) = some (.ref f) ∧ FunD K ("_law_is_fraction" : Str) ("_law_is_fraction" : Str) (defArgs (top 86)) (defBody (top 86)) (defScope (top 86)) [] [] f fd
  d_law_place : ∃ f fd, mg ("_law_place" : Str) = some (.ref f) ∧ FunD K ("_law_place" : Str) ("_law_place" : Str) (defArgs (top 88)) (defBody (top 88)) (defScope (top 88)) [] [] f fd
  d_law_is_within : ∃ f fd, mg ("_law_is_within" : Str) = some (.ref f) ∧ FunD K ("_law_is_within" : Str) ("_law_is_within" : Str) (defArgs (top 89)) (defBody (top 89)) (defScope (top 89)) [] [] f fd
  d_law_far : ∃ f fd, mg ("_law_far" : Str) = some (.ref f) ∧ FunD K ("_law_far" : Str) ("_law_far" : Str) (defArgs (top 90)) (defBody (top 90)) (defScope (top 90)) [] [] f fd
  d_law_is_let : ∃ f fd, mg ("_law_is_let" : Str) = some (.ref f) ∧ FunD K ("_law_is_let" : Str) ("_law_is_let" : Str) (defArgs (top 91)) (defBody (top 91)) (defScope (top 91)) [] [] f fd
  d_law_scaled : ∃ f fd, mg ("_law_scaled" : Str) = some (.ref f) ∧ FunD K ("_law_scaled" : Str) ("_law_scaled" : Str) (defArgs (top 92)) (defBody (top 92)) (defScope (top 92)) [] [] f fd
  d_law_is_place : ∃ f fd, mg ("_law_is_place" : Str) = some (.ref f) ∧ FunD K ("_law_is_place" : Str) ("_law_is_place" : Str) (defArgs (top 93)) (defBody (top 93)) (defScope (top 93)) [] [] f fd
  d_law_is_left : ∃ f fd, mg ("_law_is_left" : Str) = some (.ref f) ∧ FunD K ("_law_is_left" : Str) ("_law_is_left" : Str) (defArgs (top 94)) (defBody (top 94)) (defScope (top 94)) [] [] f fd
  d_law_is_in : ∃ f fd, mg ("_law_is_in" : Str) = some (.ref f) ∧ FunD K ("_law_is_in" : Str) ("_law_is_in" : Str) (defArgs (top 95)) (defBody (top 95)) (defScope (top 95)) [] [] f fd
  d_law_shown_corners : ∃ f fd, mg ("_law_shown_corners" : Str) = some (.ref f) ∧ FunD K ("_law_shown_corners" : Str) ("_law_shown_corners" : Str) (defArgs (top 96)) (defBody (top 96)) (defScope (top 96)) [] [] f fd
  d_law_at : ∃ f fd, mg ("_law_at" : Str) = some (.ref f) ∧ FunD K ("_law_at" : Str) ("_law_at" : Str) (defArgs (top 97)) (defBody (top 97)) (defScope (top 97)) [] [] f fd
  d_law_is_let_at : ∃ f fd, mg ("_law_is_let_at" : Str) = some (.ref f) ∧ FunD K ("_law_is_let_at" : Str) ("_law_is_let_at" : Str) (defArgs (top 98)) (defBody (top 98)) (defScope (top 98)) [] [] f fd
  d_law_cut : ∃ f fd, mg ("_law_cut" : Str) = some (.ref f) ∧ FunD K ("_law_cut" : Str) ("_law_cut" : Str) (defArgs (top 99)) (defBody (top 99)) (defScope (top 99)) [] [] f fd
  d_law_is_edge_shut : ∃ f fd, mg ("_law_is_edge_shut" : Str) = some (.ref f) ∧ FunD K ("_law_is_edge_shut" : Str) ("_law_is_edge_shut" : Str) (defArgs (top 100)) (defBody (top 100)) (defScope (top 100)) [] [] f fd
  d_law_is_pair_kept : ∃ f fd, mg ("_law_is_pair_kept" : Str) = some (.ref f) ∧ FunD K ("_law_is_pair_kept" : Str) ("_law_is_pair_kept" : Str) (defArgs (top 101)) (defBody (top 101)) (defScope (top 101)) [] [] f fd
  d_law_are_all_let : ∃ f fd, mg ("_law_are_all_let" : Str) = some (.ref f) ∧ FunD K ("_law_are_all_let" : Str) ("_law_are_all_let" : Str) (defArgs (top 102)) (defBody (top 102)) (defScope (top 102)) [] [] f fd
  d_law_inner : ∃ f fd, mg ("_law_inner" : Str) = some (.ref f) ∧ FunD K ("_law_inner" : Str) ("_law_inner" : Str) (defArgs (top 103)) (defBody (top 103)) (defScope (top 103)) [] [] f fd
  d_law_is_answer : ∃ f fd, mg ("_law_is_answer" : Str) = some (.ref f) ∧ FunD K ("_law_is_answer" : Str) ("_law_is_answer" : Str) (defArgs (top 104)) (defBody (top 104)) (defScope (top 104)) [] [] f fd
  d_law_turned : ∃ f fd, mg ("_law_turned" : Str) = some (.ref f) ∧ FunD K ("_law_turned" : Str) ("_law_turned" : Str) (defArgs (top 105)) (defBody (top 105)) (defScope (top 105)) [] [] f fd
  d_law_shape : ∃ f fd, mg ("_law_shape" : Str) = some (.ref f) ∧ FunD K ("_law_shape" : Str) ("_law_shape" : Str) (defArgs (top 106)) (defBody (top 106)) (defScope (top 106)) [] [] f fd
  d_law_sized : ∃ f fd, mg ("_law_sized" : Str) = some (.ref f) ∧ FunD K ("_law_sized" : Str) ("_law_sized" : Str) (defArgs (top 107)) (defBody (top 107)) (defScope (top 107)) [] [] f fd
  d_law_right : ∃ f fd, mg ("_law_right" : Str) = some (.ref f) ∧ FunD K ("_law_right" : Str) ("_law_right" : Str) (defArgs (top 108)) (defBody (top 108)) (defScope (top 108)) [] [] f fd
  d_law : ∃ f fd, mg ("law" : Str) = some (.ref f) ∧ FunD K ("law" : Str) ("law" : Str) (defArgs (top 109)) (defBody (top 109)) (defScope (top 109)) [] [] f fd
section
variable {P : Program} {w : World} {K : PySem.W.Frag} {mg : Str → Option Value} {base : Heap}
theorem hp_is_whole (G : Gk K mg) (D : Fs K mg) : HasP P w K mg base 1 ("is_whole" : Str) 1 (spF K 1 F_is_whole) := by
  obtain ⟨f, fd, hm, Fd⟩ := D.d_is_whole
  exact ⟨f, fd, p_is_whole, hm, Fd.kp, Fd.bindsN fun _ _ _ _ _ _ us hl => match us, hl with | [_], _ => rfl, rfl, fn_ok Fd sc_is_whole (bd_is_whole G)⟩
theorem hp_is_ratio (G : Gk K mg) (D : Fs K mg) : HasP P w K mg base 2 ("is_ratio" : Str) 1 (spF K 1 F_is_ratio) := by
  obtain ⟨f, fd, hm, Fd⟩ := D.d_is_ratio
  exact ⟨f, fd, p_is_ratio, hm, Fd.kp, Fd.bindsN fun _ _ _ _ _ _ us hl => match us, hl with | [_], _ => rfl, rfl, fn_ok Fd sc_is_ratio (bd_is_ratio G (hp_is_whole G D))⟩
theorem hp_ratio (G : Gk K mg) (D : Fs K mg) : HasP P w K mg base 1 ("ratio" : Str) 2 (spF K 2 F_ratio) := by
  obtain ⟨f, fd, hm, Fd⟩ := D.d_ratio
  exact ⟨f, fd, p_ratio, hm, Fd.kp, Fd.bindsN fun _ _ _ _ _ _ us hl => match us, hl with | [_, _], _ => rfl, rfl, fn_ok Fd sc_ratio (bd_ratio G)⟩
theorem hp_added (G : Gk K mg) (D : Fs K mg) : HasP P w K mg base 2 ("added" : Str) 2 (spF K 2 F_added) := by
  obtain ⟨f, fd, hm, Fd⟩ := D.d_added
  exact ⟨f, fd, p_added, hm, Fd.kp, Fd.bindsN fun _ _ _ _ _ _ us hl => match us, hl with | [_, _], _ => rfl, rfl, fn_ok Fd sc_added (bd_added G (hp_ratio G D))⟩
theorem hp_less_by (G : Gk K mg) (D : Fs K mg) : HasP P w K mg base 2 ("less_by" : Str) 2 (spF K 2 F_less_by) := by
  obtain ⟨f, fd, hm, Fd⟩ := D.d_less_by
  exact ⟨f, fd, p_less_by, hm, Fd.kp, Fd.bindsN fun _ _ _ _ _ _ us hl => match us, hl with | [_, _], _ => rfl, rfl, fn_ok Fd sc_less_by (bd_less_by G (hp_ratio G D))⟩
theorem hp_product (G : Gk K mg) (D : Fs K mg) : HasP P w K mg base 2 ("product" : Str) 2 (spF K 2 F_product) := by
  obtain ⟨f, fd, hm, Fd⟩ := D.d_product
  exact ⟨f, fd, p_product, hm, Fd.kp, Fd.bindsN fun _ _ _ _ _ _ us hl => match us, hl with | [_, _], _ => rfl, rfl, fn_ok Fd sc_product (bd_product G (hp_ratio G D))⟩
theorem hp_quotient (G : Gk K mg) (D : Fs K mg) : HasP P w K mg base 2 ("quotient" : Str) 2 (spF K 2 F_quotient) := by
  obtain ⟨f, fd, hm, Fd⟩ := D.d_quotient
  exact ⟨f, fd, p_quotient, hm, Fd.kp, Fd.bindsN fun _ _ _ _ _ _ us hl => match us, hl with | [_, _], _ => rfl, rfl, fn_ok Fd sc_quotient (bd_quotient G (hp_ratio G D))⟩
theorem hp_negative (G : Gk K mg) (D : Fs K mg) : HasP P w K mg base 1 ("negative" : Str) 1 (spF K 1 F_negative) := by
  obtain ⟨f, fd, hm, Fd⟩ := D.d_negative
  exact ⟨f, fd, p_negative, hm, Fd.kp, Fd.bindsN fun _ _ _ _ _ _ us hl => match us, hl with | [_], _ => rfl, rfl, fn_ok Fd sc_negative (bd_negative G)⟩
theorem hp_is_less (G : Gk K mg) (D : Fs K mg) : HasP P w K mg base 1 ("is_less" : Str) 2 (spF K 2 F_is_less) := by
  obtain ⟨f, fd, hm, Fd⟩ := D.d_is_less
  exact ⟨f, fd, p_is_less, hm, Fd.kp, Fd.bindsN fun _ _ _ _ _ _ us hl => match us, hl with | [_, _], _ => rfl, rfl, fn_ok Fd sc_is_less (bd_is_less G)⟩
theorem hp_sign_of_ratio (G : Gk K mg) (D : Fs K mg) : HasP P w K mg base 1 ("sign_of_ratio" : Str) 1 (spF K 1 F_sign_of_ratio) := by
  obtain ⟨f, fd, hm, Fd⟩ := D.d_sign_of_ratio
  exact ⟨f, fd, p_sign_of_ratio, hm, Fd.kp, Fd.bindsN fun _ _ _ _ _ _ us hl => match us, hl with | [_], _ => rfl, rfl, fn_ok Fd sc_sign_of_ratio (bd_sign_of_ratio G)⟩
theorem hp_sign_by (G : Gk K mg) (D : Fs K mg) : HasP P w K mg base 3 ("sign_by" : Str) 3 (spF K 3 F_sign_by) := by
  obtain ⟨f, fd, hm, Fd⟩ := D.d_sign_by
  exact ⟨f, fd, p_sign_by, hm, Fd.kp, Fd.bindsN fun _ _ _ _ _ _ us hl => match us, hl with | [_, _, _], _ => rfl, rfl, fn_ok Fd sc_sign_by (bd_sign_by G (hp_sign_of_ratio G D) (hp_less_by G D) (hp_product G D))⟩
theorem hp_root_times (G : Gk K mg) (D : Fs K mg) : HasP P w K mg base 3 ("root_times" : Str) 3 (spF K 3 F_root_times) := by
  obtain ⟨f, fd, hm, Fd⟩ := D.d_root_times
  exact ⟨f, fd, p_root_times, hm, Fd.kp, Fd.bindsN fun _ _ _ _ _ _ us hl => match us, hl with | [_, _, _], _ => rfl, rfl, fn_ok Fd sc_root_times (bd_root_times G (hp_added G D) (hp_product G D))⟩
theorem hp_sign_of_two (G : Gk K mg) (D : Fs K mg) : HasP P w K mg base 4 ("sign_of_two" : Str) 5 (spF K 5 F_sign_of_two) := by
  obtain ⟨f, fd, hm, Fd⟩ := D.d_sign_of_two
  exact ⟨f, fd, p_sign_of_two, hm, Fd.kp, Fd.bindsN fun _ _ _ _ _ _ us hl => match us, hl with | [_, _, _, _, _], _ => rfl, rfl, fn_ok Fd sc_sign_of_two (bd_sign_of_two G (hp_sign_of_ratio G D) (hp_sign_by G D) (hp_root_times G D) (hp_less_by G D) (hp_product G D))⟩
theorem hp_compared_by (G : Gk K mg) (D : Fs K mg) : HasP P w K mg base 5 ("compared_by" : Str) 2 (spF K 2 F_compared_by) := by
  obtain ⟨f, fd, hm, Fd⟩ := D.d_compared_by
  exact ⟨f, fd, p_compared_by, hm, Fd.kp, Fd.bindsN fun _ _ _ _ _ _ us hl => match us, hl with | [_, _], _ => rfl, rfl, fn_ok Fd sc_compared_by (bd_compared_by G (hp_sign_of_two G D) (hp_negative G D) (hp_less_by G D))⟩
theorem hp_is_sided (G : Gk K mg) (D : Fs K mg) : HasP P w K mg base 3 ("is_sided" : Str) 1 (spF K 1 F_is_sided) := by
  obtain ⟨f, fd, hm, Fd⟩ := D.d_is_sided
  exact ⟨f, fd, p_is_sided, hm, Fd.kp, Fd.bindsN fun _ _ _ _ _ _ us hl => match us, hl with | [_], _ => rfl, rfl, fn_ok Fd sc_is_sided (bd_is_sided G (hp_is_ratio G D))⟩
theorem hp_is_named (G : Gk K mg) (D : Fs K mg) : HasP P w K mg base 1 ("is_named" : Str) 1 (spF K 1 F_is_named) := by
  obtain ⟨f, fd, hm, Fd⟩ := D.d_is_named
  exact ⟨f, fd, p_is_named, hm, Fd.kp, Fd.bindsN fun _ _ _ _ _ _ us hl => match us, hl with | [_], _ => rfl, rfl, fn_ok Fd sc_is_named (bd_is_named G)⟩
theorem hp_is_row_of (G : Gk K mg) (D : Fs K mg) : HasP P w K mg base 1 ("is_row_of" : Str) 3 (spF K 3 F_is_row_of) := by
  obtain ⟨f, fd, hm, Fd⟩ := D.d_is_row_of
  exact ⟨f, fd, p_is_row_of, hm, Fd.kp, Fd.bindsN fun _ _ _ _ _ _ us hl => match us, hl with | [_, _, _], _ => rfl, rfl, fn_ok Fd sc_is_row_of (bd_is_row_of G)⟩
theorem hp_is_let_end (G : Gk K mg) (D : Fs K mg) : HasP P w K mg base 3 ("is_let_end" : Str) 1 (spF K 1 F_is_let_end) := by
  obtain ⟨f, fd, hm, Fd⟩ := D.d_is_let_end
  exact ⟨f, fd, p_is_let_end, hm, Fd.kp, Fd.bindsN fun _ _ _ _ _ _ us hl => match us, hl with | [_], _ => rfl, rfl, fn_ok Fd sc_is_let_end (bd_is_let_end G (hp_is_ratio G D))⟩
theorem hp_are_ends (G : Gk K mg) (D : Fs K mg) : HasP P w K mg base 2 ("are_ends" : Str) 2 (spF K 2 F_are_ends) := by
  obtain ⟨f, fd, hm, Fd⟩ := D.d_are_ends
  exact ⟨f, fd, p_are_ends, hm, Fd.kp, Fd.bindsN fun _ _ _ _ _ _ us hl => match us, hl with | [_, _], _ => rfl, rfl, fn_ok Fd sc_are_ends (bd_are_ends G (hp_is_less G D))⟩
theorem hp_wrong_in_station (G : Gk K mg) (D : Fs K mg) : HasP P w K mg base 3 ("wrong_in_station" : Str) 2 (spF K 2 F_wrong_in_station) := by
  obtain ⟨f, fd, hm, Fd⟩ := D.d_wrong_in_station
  exact ⟨f, fd, p_wrong_in_station, hm, Fd.kp, Fd.bindsN fun _ _ _ _ _ _ us hl => match us, hl with | [_, _], _ => rfl, rfl, fn_ok Fd sc_wrong_in_station (bd_wrong_in_station G (hp_is_row_of G D) (hp_is_named G D) (hp_is_ratio G D))⟩
theorem hp_wrong_in_reading (G : Gk K mg) (D : Fs K mg) : HasP P w K mg base 4 ("wrong_in_reading" : Str) 2 (spF K 2 F_wrong_in_reading) := by
  obtain ⟨f, fd, hm, Fd⟩ := D.d_wrong_in_reading
  exact ⟨f, fd, p_wrong_in_reading, hm, Fd.kp, Fd.bindsN fun _ _ _ _ _ _ us hl => match us, hl with | [_, _], _ => rfl, rfl, fn_ok Fd sc_wrong_in_reading (bd_wrong_in_reading G (hp_is_row_of G D) (hp_is_named G D) (hp_is_let_end G D) (hp_are_ends G D))⟩
theorem hp_wrong_in_side (G : Gk K mg) (D : Fs K mg) : HasP P w K mg base 4 ("wrong_in_side" : Str) 1 (spF K 1 F_wrong_in_side) := by
  obtain ⟨f, fd, hm, Fd⟩ := D.d_wrong_in_side
  exact ⟨f, fd, p_wrong_in_side, hm, Fd.kp, Fd.bindsN fun _ _ _ _ _ _ us hl => match us, hl with | [_], _ => rfl, rfl, fn_ok Fd sc_wrong_in_side (bd_wrong_in_side G (hp_is_row_of G D) (hp_is_ratio G D) (hp_is_sided G D))⟩
theorem hp_wrong_in_stations (G : Gk K mg) (D : Fs K mg) : HasP P w K mg base 4 ("wrong_in_stations" : Str) 1 (spF K 1 F_wrong_in_stations) := by
  obtain ⟨f, fd, hm, Fd⟩ := D.d_wrong_in_stations
  exact ⟨f, fd, p_wrong_in_stations, hm, Fd.kp, Fd.bindsN fun _ _ _ _ _ _ us hl => match us, hl with | [_], _ => rfl, rfl, fn_ok Fd sc_wrong_in_stations (bd_wrong_in_stations G (hp_is_row_of G D) (hp_wrong_in_station G D))⟩
theorem hp_wrong_in_readings (G : Gk K mg) (D : Fs K mg) : HasP P w K mg base 5 ("wrong_in_readings" : Str) 2 (spF K 2 F_wrong_in_readings) := by
  obtain ⟨f, fd, hm, Fd⟩ := D.d_wrong_in_readings
  exact ⟨f, fd, p_wrong_in_readings, hm, Fd.kp, Fd.bindsN fun _ _ _ _ _ _ us hl => match us, hl with | [_, _], _ => rfl, rfl, fn_ok Fd sc_wrong_in_readings (bd_wrong_in_readings G (hp_is_row_of G D) (hp_wrong_in_reading G D))⟩
theorem hp_wrong_in_sides (G : Gk K mg) (D : Fs K mg) : HasP P w K mg base 5 ("wrong_in_sides" : Str) 1 (spF K 1 F_wrong_in_sides) := by
  obtain ⟨f, fd, hm, Fd⟩ := D.d_wrong_in_sides
  exact ⟨f, fd, p_wrong_in_sides, hm, Fd.kp, Fd.bindsN fun _ _ _ _ _ _ us hl => match us, hl with | [_], _ => rfl, rfl, fn_ok Fd sc_wrong_in_sides (bd_wrong_in_sides G (hp_is_row_of G D) (hp_wrong_in_side G D))⟩
theorem hp_wrong_in_scene (G : Gk K mg) (D : Fs K mg) : HasP P w K mg base 6 ("wrong_in_scene" : Str) 1 (spF K 1 F_wrong_in_scene) := by
  obtain ⟨f, fd, hm, Fd⟩ := D.d_wrong_in_scene
  exact ⟨f, fd, p_wrong_in_scene, hm, Fd.kp, Fd.bindsN fun _ _ _ _ _ _ us hl => match us, hl with | [_], _ => rfl, rfl, fn_ok Fd sc_wrong_in_scene (bd_wrong_in_scene G (hp_is_row_of G D) (hp_wrong_in_stations G D) (hp_wrong_in_readings G D) (hp_wrong_in_sides G D))⟩
theorem hp_rows_by (G : Gk K mg) (D : Fs K mg) : HasP P w K mg base 1 ("rows_by" : Str) 1 (spF K 1 F_rows_by) := by
  obtain ⟨f, fd, hm, Fd⟩ := D.d_rows_by
  exact ⟨f, fd, p_rows_by, hm, Fd.kp, Fd.bindsN fun _ _ _ _ _ _ us hl => match us, hl with | [_], _ => rfl, rfl, fn_ok Fd sc_rows_by (bd_rows_by G)⟩
theorem hp_place_of (G : Gk K mg) (D : Fs K mg) : HasP P w K mg base 1 ("place_of" : Str) 2 (spF K 2 F_place_of) := by
  obtain ⟨f, fd, hm, Fd⟩ := D.d_place_of
  exact ⟨f, fd, p_place_of, hm, Fd.kp, Fd.bindsN fun _ _ _ _ _ _ us hl => match us, hl with | [_, _], _ => rfl, rfl, fn_ok Fd sc_place_of (bd_place_of G)⟩
theorem hp_told_moment (G : Gk K mg) (D : Fs K mg) : HasP P w K mg base 1 ("told_moment" : Str) 2 (spF K 2 F_told_moment) := by
  obtain ⟨f, fd, hm, Fd⟩ := D.d_told_moment
  exact ⟨f, fd, p_told_moment, hm, Fd.kp, Fd.bindsN fun _ _ _ _ _ _ us hl => match us, hl with | [_, _], _ => rfl, rfl, fn_ok Fd sc_told_moment (bd_told_moment G)⟩
theorem hp_station_of (G : Gk K mg) (D : Fs K mg) : HasP P w K mg base 2 ("station_of" : Str) 2 (spF K 2 F_station_of) := by
  obtain ⟨f, fd, hm, Fd⟩ := D.d_station_of
  exact ⟨f, fd, p_station_of, hm, Fd.kp, Fd.bindsN fun _ _ _ _ _ _ us hl => match us, hl with | [_, _], _ => rfl, rfl, fn_ok Fd sc_station_of (bd_station_of G (hp_place_of G D))⟩
theorem hp_made_row (G : Gk K mg) (D : Fs K mg) : HasP P w K mg base 3 ("made_row" : Str) 2 (spF K 2 F_made_row) := by
  obtain ⟨f, fd, hm, Fd⟩ := D.d_made_row
  exact ⟨f, fd, p_made_row, hm, Fd.kp, Fd.bindsN fun _ _ _ _ _ _ us hl => match us, hl with | [_, _], _ => rfl, rfl, fn_ok Fd sc_made_row (bd_made_row G (hp_told_moment G D) (hp_station_of G D))⟩
theorem hp_made_rows (G : Gk K mg) (D : Fs K mg) : HasP P w K mg base 4 ("made_rows" : Str) 1 (spF K 1 F_made_rows) := by
  obtain ⟨f, fd, hm, Fd⟩ := D.d_made_rows
  exact ⟨f, fd, p_made_rows, hm, Fd.kp, Fd.bindsN fun _ _ _ _ _ _ us hl => match us, hl with | [_], _ => rfl, rfl, fn_ok Fd sc_made_rows (bd_made_rows G (hp_rows_by G D) (hp_made_row G D))⟩
theorem hp_square_between (G : Gk K mg) (D : Fs K mg) : HasP P w K mg base 3 ("square_between" : Str) 2 (spF K 2 F_square_between) := by
  obtain ⟨f, fd, hm, Fd⟩ := D.d_square_between
  exact ⟨f, fd, p_square_between, hm, Fd.kp, Fd.bindsN fun _ _ _ _ _ _ us hl => match us, hl with | [_, _], _ => rfl, rfl, fn_ok Fd sc_square_between (bd_square_between G (hp_less_by G D) (hp_added G D) (hp_product G D))⟩
theorem hp_is_within (G : Gk K mg) (D : Fs K mg) : HasP P w K mg base 3 ("is_within" : Str) 2 (spF K 2 F_is_within) := by
  obtain ⟨f, fd, hm, Fd⟩ := D.d_is_within
  exact ⟨f, fd, p_is_within, hm, Fd.kp, Fd.bindsN fun _ _ _ _ _ _ us hl => match us, hl with | [_, _], _ => rfl, rfl, fn_ok Fd sc_is_within (bd_is_within G (hp_is_less G D) (hp_added G D) (hp_product G D))⟩
theorem hp_total (G : Gk K mg) (D : Fs K mg) : HasP P w K mg base 3 ("total" : Str) 1 (spF K 1 F_total) := by
  obtain ⟨f, fd, hm, Fd⟩ := D.d_total
  exact ⟨f, fd, p_total, hm, Fd.kp, Fd.bindsN fun _ _ _ _ _ _ us hl => match us, hl with | [_], _ => rfl, rfl, fn_ok Fd sc_total (bd_total G (hp_added G D))⟩
theorem hp_dotted (G : Gk K mg) (D : Fs K mg) : HasP P w K mg base 4 ("dotted" : Str) 2 (spF K 2 F_dotted) := by
  obtain ⟨f, fd, hm, Fd⟩ := D.d_dotted
  exact ⟨f, fd, p_dotted, hm, Fd.kp, Fd.bindsN fun _ _ _ _ _ _ us hl => match us, hl with | [_, _], _ => rfl, rfl, fn_ok Fd sc_dotted (bd_dotted G (hp_total G D) (hp_product G D))⟩
theorem hp_scaled_row (G : Gk K mg) (D : Fs K mg) : HasP P w K mg base 3 ("scaled_row" : Str) 2 (spF K 2 F_scaled_row) := by
  obtain ⟨f, fd, hm, Fd⟩ := D.d_scaled_row
  exact ⟨f, fd, p_scaled_row, hm, Fd.kp, Fd.bindsN fun _ _ _ _ _ _ us hl => match us, hl with | [_, _], _ => rfl, rfl, fn_ok Fd sc_scaled_row (bd_scaled_row G (hp_product G D))⟩
theorem hp_joined_row (G : Gk K mg) (D : Fs K mg) : HasP P w K mg base 3 ("joined_row" : Str) 2 (spF K 2 F_joined_row) := by
  obtain ⟨f, fd, hm, Fd⟩ := D.d_joined_row
  exact ⟨f, fd, p_joined_row, hm, Fd.kp, Fd.bindsN fun _ _ _ _ _ _ us hl => match us, hl with | [_, _], _ => rfl, rfl, fn_ok Fd sc_joined_row (bd_joined_row G (hp_added G D))⟩
theorem hp_less_row (G : Gk K mg) (D : Fs K mg) : HasP P w K mg base 3 ("less_row" : Str) 2 (spF K 2 F_less_row) := by
  obtain ⟨f, fd, hm, Fd⟩ := D.d_less_row
  exact ⟨f, fd, p_less_row, hm, Fd.kp, Fd.bindsN fun _ _ _ _ _ _ us hl => match us, hl with | [_, _], _ => rfl, rfl, fn_ok Fd sc_less_row (bd_less_row G (hp_less_by G D))⟩
theorem hp_turn_of (G : Gk K mg) (D : Fs K mg) : HasP P w K mg base 3 ("turn_of" : Str) 2 (spF K 2 F_turn_of) := by
  obtain ⟨f, fd, hm, Fd⟩ := D.d_turn_of
  exact ⟨f, fd, p_turn_of, hm, Fd.kp, Fd.bindsN fun _ _ _ _ _ _ us hl => match us, hl with | [_, _], _ => rfl, rfl, fn_ok Fd sc_turn_of (bd_turn_of G (hp_less_by G D) (hp_product G D))⟩
theorem hp_steps_of (G : Gk K mg) (D : Fs K mg) : HasP P w K mg base 4 ("steps_of" : Str) 1 (spF K 1 F_steps_of) := by
  obtain ⟨f, fd, hm, Fd⟩ := D.d_steps_of
  exact ⟨f, fd, p_steps_of, hm, Fd.kp, Fd.bindsN fun _ _ _ _ _ _ us hl => match us, hl with | [_], _ => rfl, rfl, fn_ok Fd sc_steps_of (bd_steps_of G (hp_less_row G D))⟩
theorem hp_is_upper (G : Gk K mg) (D : Fs K mg) : HasP P w K mg base 2 ("is_upper" : Str) 1 (spF K 1 F_is_upper) := by
  obtain ⟨f, fd, hm, Fd⟩ := D.d_is_upper
  exact ⟨f, fd, p_is_upper, hm, Fd.kp, Fd.bindsN fun _ _ _ _ _ _ us hl => match us, hl with | [_], _ => rfl, rfl, fn_ok Fd sc_is_upper (bd_is_upper G (hp_sign_of_ratio G D))⟩
theorem hp_is_round_by (G : Gk K mg) (D : Fs K mg) : HasP P w K mg base 5 ("is_round_by" : Str) 1 (spF K 1 F_is_round_by) := by
  obtain ⟨f, fd, hm, Fd⟩ := D.d_is_round_by
  exact ⟨f, fd, p_is_round_by, hm, Fd.kp, Fd.bindsN fun _ _ _ _ _ _ us hl => match us, hl with | [_], _ => rfl, rfl, fn_ok Fd sc_is_round_by (bd_is_round_by G (hp_steps_of G D) (hp_sign_of_ratio G D) (hp_turn_of G D) (hp_is_upper G D))⟩
theorem hp_is_in_polygon (G : Gk K mg) (D : Fs K mg) : HasP P w K mg base 5 ("is_in_polygon" : Str) 2 (spF K 2 F_is_in_polygon) := by
  obtain ⟨f, fd, hm, Fd⟩ := D.d_is_in_polygon
  exact ⟨f, fd, p_is_in_polygon, hm, Fd.kp, Fd.bindsN fun _ _ _ _ _ _ us hl => match us, hl with | [_, _], _ => rfl, rfl, fn_ok Fd sc_is_in_polygon (bd_is_in_polygon G (hp_steps_of G D) (hp_sign_of_ratio G D) (hp_turn_of G D) (hp_less_row G D))⟩
theorem hp_is_over (G : Gk K mg) (D : Fs K mg) : HasP P w K mg base 6 ("is_over" : Str) 3 (spF K 3 F_is_over) := by
  obtain ⟨f, fd, hm, Fd⟩ := D.d_is_over
  exact ⟨f, fd, p_is_over, hm, Fd.kp, Fd.bindsN fun _ _ _ _ _ _ us hl => match us, hl with | [_, _, _], _ => rfl, rfl, fn_ok Fd sc_is_over (bd_is_over G (hp_less_by G D) (hp_square_between G D) (hp_compared_by G D) (hp_negative G D))⟩
theorem hp_over_on (G : Gk K mg) (D : Fs K mg) : HasP P w K mg base 7 ("over_on" : Str) 5 (spF K 5 F_over_on) := by
  obtain ⟨f, fd, hm, Fd⟩ := D.d_over_on
  exact ⟨f, fd, p_over_on, hm, Fd.kp, Fd.bindsN fun _ _ _ _ _ _ us hl => match us, hl with | [_, _, _, _, _], _ => rfl, rfl, fn_ok Fd sc_over_on (bd_over_on G (hp_joined_row G D) (hp_scaled_row G D) (hp_is_over G D))⟩
theorem hp_turning_part (G : Gk K mg) (D : Fs K mg) : HasP P w K mg base 5 ("turning_part" : Str) 4 (spF K 4 F_turning_part) := by
  obtain ⟨f, fd, hm, Fd⟩ := D.d_turning_part
  exact ⟨f, fd, p_turning_part, hm, Fd.kp, Fd.bindsN fun _ _ _ _ _ _ us hl => match us, hl with | [_, _, _, _], _ => rfl, rfl, fn_ok Fd sc_turning_part (bd_turning_part G (hp_less_by G D) (hp_product G D) (hp_square_between G D) (hp_dotted G D) (hp_less_row G D) (hp_sign_of_ratio G D) (hp_negative G D) (hp_quotient G D) (hp_is_less G D))⟩
theorem hp_shut_by_pair (G : Gk K mg) (D : Fs K mg) : HasP P w K mg base 8 ("shut_by_pair" : Str) 3 (spF K 3 F_shut_by_pair) := by
  obtain ⟨f, fd, hm, Fd⟩ := D.d_shut_by_pair
  exact ⟨f, fd, p_shut_by_pair, hm, Fd.kp, Fd.bindsN fun _ _ _ _ _ _ us hl => match us, hl with | [_, _, _], _ => rfl, rfl, fn_ok Fd sc_shut_by_pair (bd_shut_by_pair G (hp_is_over G D) (hp_is_less G D) (hp_is_in_polygon G D) (hp_steps_of G D) (hp_turning_part G D) (hp_over_on G D))⟩
theorem hp_shut_by (G : Gk K mg) (D : Fs K mg) : HasP P w K mg base 9 ("shut_by" : Str) 2 (spF K 2 F_shut_by) := by
  obtain ⟨f, fd, hm, Fd⟩ := D.d_shut_by
  exact ⟨f, fd, p_shut_by, hm, Fd.kp, Fd.bindsN fun _ _ _ _ _ _ us hl => match us, hl with | [_, _], _ => rfl, rfl, fn_ok Fd sc_shut_by (bd_shut_by G (hp_made_rows G D) (hp_is_within G D) (hp_shut_by_pair G D))⟩
theorem hp_check_scene (G : Gk K mg) (D : Fs K mg) : HasP P w K mg base 7 ("check_scene" : Str) 1 (spF K 1 F_check_scene) := by
  obtain ⟨f, fd, hm, Fd⟩ := D.d_check_scene
  exact ⟨f, fd, p_check_scene, hm, Fd.kp, Fd.bindsN fun _ _ _ _ _ _ us hl => match us, hl with | [_], _ => rfl, rfl, fn_ok Fd sc_check_scene (bd_check_scene G (hp_wrong_in_scene G D))⟩
theorem hp_is_corner (G : Gk K mg) (D : Fs K mg) : HasP P w K mg base 3 ("is_corner" : Str) 1 (spF K 1 F_is_corner) := by
  obtain ⟨f, fd, hm, Fd⟩ := D.d_is_corner
  exact ⟨f, fd, p_is_corner, hm, Fd.kp, Fd.bindsN fun _ _ _ _ _ _ us hl => match us, hl with | [_], _ => rfl, rfl, fn_ok Fd sc_is_corner (bd_is_corner G (hp_is_ratio G D))⟩
theorem hp_check_corners (G : Gk K mg) (D : Fs K mg) : HasP P w K mg base 6 ("check_corners" : Str) 1 (spF K 1 F_check_corners) := by
  obtain ⟨f, fd, hm, Fd⟩ := D.d_check_corners
  exact ⟨f, fd, p_check_corners, hm, Fd.kp, Fd.bindsN fun _ _ _ _ _ _ us hl => match us, hl with | [_], _ => rfl, rfl, fn_ok Fd sc_check_corners (bd_check_corners G (hp_is_corner G D) (hp_is_round_by G D))⟩
theorem hp_shut_place (G : Gk K mg) (D : Fs K mg) : HasP P w K mg base 10 ("shut_place" : Str) 2 (spF K 2 F_shut_place) := by
  obtain ⟨f, fd, hm, Fd⟩ := D.d_shut_place
  exact ⟨f, fd, p_shut_place, hm, Fd.kp, Fd.bindsN fun _ _ _ _ _ _ us hl => match us, hl with | [_, _], _ => rfl, rfl, fn_ok Fd sc_shut_place (bd_shut_place G (hp_check_scene G D) (hp_check_corners G D) (hp_shut_by G D))⟩
theorem hp_law_well (G : Gk K mg) (D : Fs K mg) : HasP P w K mg base 1 ("_law_well" : Str) 2 (spW K W_law_well) := by
  obtain ⟨f, fd, hm, Fd⟩ := D.d_law_well
  exact ⟨f, fd, p_law_well, hm, Fd.kp, Fd.bindsN fun _ _ _ _ _ _ us hl => match us, hl with | [_, _], _ => rfl, rfl, fn_okW Fd sc_law_well rfl (by decide) (bd_law_well G) jar_runs⟩
theorem hp_law_draw (G : Gk K mg) (D : Fs K mg) : HasP P w K mg base 1 ("_law_draw" : Str) 2 (spJ K 2 J_law_draw) := by
  obtain ⟨f, fd, hm, Fd⟩ := D.d_law_draw
  exact ⟨f, fd, p_law_draw, hm, Fd.kp, Fd.bindsN fun _ _ _ _ _ _ us hl => match us, hl with | [_, _], _ => rfl, rfl, fn_okJ Fd sc_law_draw (by decide) (bd_law_draw G)⟩
theorem hp_law_pick (G : Gk K mg) (D : Fs K mg) : HasP P w K mg base 2 ("_law_pick" : Str) 2 (spJ K 2 J_law_pick) := by
  obtain ⟨f, fd, hm, Fd⟩ := D.d_law_pick
  exact ⟨f, fd, p_law_pick, hm, Fd.kp, Fd.bindsN fun _ _ _ _ _ _ us hl => match us, hl with | [_, _], _ => rfl, rfl, fn_okJ Fd sc_law_pick (by decide) (bd_law_pick G (hp_law_draw G D))⟩
theorem hp_law_low (G : Gk K mg) (D : Fs K mg) : HasP P w K mg base 1 ("_law_low" : Str) 2 (spF K 2 F_law_low) := by
  obtain ⟨f, fd, hm, Fd⟩ := D.d_law_low
  exact ⟨f, fd, p_law_low, hm, Fd.kp, Fd.bindsN fun _ _ _ _ _ _ us hl => match us, hl with | [_, _], _ => rfl, rfl, fn_ok Fd sc_law_low (bd_law_low G)⟩
theorem hp_law_six (G : Gk K mg) (D : Fs K mg) : HasP P w K mg base 2 ("_law_six" : Str) 1 (spF K 1 F_law_six) := by
  obtain ⟨f, fd, hm, Fd⟩ := D.d_law_six
  exact ⟨f, fd, p_law_six, hm, Fd.kp, Fd.bindsN fun _ _ _ _ _ _ us hl => match us, hl with | [_], _ => rfl, rfl, fn_ok Fd sc_law_six (bd_law_six G (hp_law_low G D))⟩
theorem hp_law_sign (G : Gk K mg) (D : Fs K mg) : HasP P w K mg base 1 ("_law_sign" : Str) 1 (spF K 1 F_law_sign) := by
  obtain ⟨f, fd, hm, Fd⟩ := D.d_law_sign
  exact ⟨f, fd, p_law_sign, hm, Fd.kp, Fd.bindsN fun _ _ _ _ _ _ us hl => match us, hl with | [_], _ => rfl, rfl, fn_ok Fd sc_law_sign (bd_law_sign G)⟩
theorem hp_law_sign_two (G : Gk K mg) (D : Fs K mg) : HasP P w K mg base 2 ("_law_sign_two" : Str) 3 (spF K 3 F_law_sign_two) := by
  obtain ⟨f, fd, hm, Fd⟩ := D.d_law_sign_two
  exact ⟨f, fd, p_law_sign_two, hm, Fd.kp, Fd.bindsN fun _ _ _ _ _ _ us hl => match us, hl with | [_, _, _], _ => rfl, rfl, fn_ok Fd sc_law_sign_two (bd_law_sign_two G (hp_law_sign G D))⟩
theorem hp_law_sign_three (G : Gk K mg) (D : Fs K mg) : HasP P w K mg base 3 ("_law_sign_three" : Str) 5 (spF K 5 F_law_sign_three) := by
  obtain ⟨f, fd, hm, Fd⟩ := D.d_law_sign_three
  exact ⟨f, fd, p_law_sign_three, hm, Fd.kp, Fd.bindsN fun _ _ _ _ _ _ us hl => match us, hl with | [_, _, _, _, _], _ => rfl, rfl, fn_ok Fd sc_law_sign_three (bd_law_sign_three G (hp_law_sign G D) (hp_law_sign_two G D))⟩
theorem hp_law_name (G : Gk K mg) (D : Fs K mg) : HasP P w K mg base 1 ("_law_name" : Str) 1 (spF K 1 F_law_name) := by
  obtain ⟨f, fd, hm, Fd⟩ := D.d_law_name
  exact ⟨f, fd, p_law_name, hm, Fd.kp, Fd.bindsN fun _ _ _ _ _ _ us hl => match us, hl with | [_], _ => rfl, rfl, fn_ok Fd sc_law_name (bd_law_name G)⟩
theorem hp_law_scene (G : Gk K mg) (D : Fs K mg) : HasP P w K mg base 3 ("_law_scene" : Str) 1 (spF K 1 F_law_scene) := by
  obtain ⟨f, fd, hm, Fd⟩ := D.d_law_scene
  exact ⟨f, fd, p_law_scene, hm, Fd.kp, Fd.bindsN fun _ _ _ _ _ _ us hl => match us, hl with | [_], _ => rfl, rfl, fn_ok Fd sc_law_scene (bd_law_scene G (hp_law_six G D) (hp_law_name G D))⟩
theorem hp_law_is_whole (G : Gk K mg) (D : Fs K mg) : HasP P w K mg base 1 ("_law_is_whole" : Str) 1 (spF K 1 F_law_is_whole) := by
  obtain ⟨f, fd, hm, Fd⟩ := D.d_law_is_whole
  exact ⟨f, fd, p_law_is_whole, hm, Fd.kp, Fd.bindsN fun _ _ _ _ _ _ us hl => match us, hl with | [_], _ => rfl, rfl, fn_ok Fd sc_law_is_whole (bd_law_is_whole G)⟩
theorem hp_law_is_fraction (G : Gk K mg) (D : Fs K mg) : HasP P w K mg base 2 ("_law_is_fraction" : Str) 1 (spF K 1 F_law_is_fraction) := by
  obtain ⟨f, fd, hm, Fd⟩ := D.d_law_is_fraction
  exact ⟨f, fd, p_law_is_fraction, hm, Fd.kp, Fd.bindsN fun _ _ _ _ _ _ us hl => match us, hl with | [_], _ => rfl, rfl, fn_ok Fd sc_law_is_fraction (bd_law_is_fraction G (hp_law_is_whole G D) (hp_law_low G D))⟩
theorem hp_law_place (G : Gk K mg) (D : Fs K mg) : HasP P w K mg base 3 ("_law_place" : Str) 2 (spF K 2 F_law_place) := by
  obtain ⟨f, fd, hm, Fd⟩ := D.d_law_place
  exact ⟨f, fd, p_law_place, hm, Fd.kp, Fd.bindsN fun _ _ _ _ _ _ us hl => match us, hl with | [_, _], _ => rfl, rfl, fn_ok Fd sc_law_place (bd_law_place G (hp_law_six G D))⟩
theorem hp_law_is_within (G : Gk K mg) (D : Fs K mg) : HasP P w K mg base 1 ("_law_is_within" : Str) 3 (spF K 3 F_law_is_within) := by
  obtain ⟨f, fd, hm, Fd⟩ := D.d_law_is_within
  exact ⟨f, fd, p_law_is_within, hm, Fd.kp, Fd.bindsN fun _ _ _ _ _ _ us hl => match us, hl with | [_, _, _], _ => rfl, rfl, fn_ok Fd sc_law_is_within (bd_law_is_within G)⟩
theorem hp_law_far (G : Gk K mg) (D : Fs K mg) : HasP P w K mg base 1 ("_law_far" : Str) 3 (spF K 3 F_law_far) := by
  obtain ⟨f, fd, hm, Fd⟩ := D.d_law_far
  exact ⟨f, fd, p_law_far, hm, Fd.kp, Fd.bindsN fun _ _ _ _ _ _ us hl => match us, hl with | [_, _, _], _ => rfl, rfl, fn_ok Fd sc_law_far (bd_law_far G)⟩
theorem hp_law_is_let (G : Gk K mg) (D : Fs K mg) : HasP P w K mg base 4 ("_law_is_let" : Str) 3 (spF K 3 F_law_is_let) := by
  obtain ⟨f, fd, hm, Fd⟩ := D.d_law_is_let
  exact ⟨f, fd, p_law_is_let, hm, Fd.kp, Fd.bindsN fun _ _ _ _ _ _ us hl => match us, hl with | [_, _, _], _ => rfl, rfl, fn_ok Fd sc_law_is_let (bd_law_is_let G (hp_law_is_within G D) (hp_law_far G D) (hp_law_sign_three G D))⟩
theorem hp_law_scaled (G : Gk K mg) (D : Fs K mg) : HasP P w K mg base 1 ("_law_scaled" : Str) 2 (spF K 2 F_law_scaled) := by
  obtain ⟨f, fd, hm, Fd⟩ := D.d_law_scaled
  exact ⟨f, fd, p_law_scaled, hm, Fd.kp, Fd.bindsN fun _ _ _ _ _ _ us hl => match us, hl with | [_, _], _ => rfl, rfl, fn_ok Fd sc_law_scaled (bd_law_scaled G)⟩
theorem hp_law_is_place (G : Gk K mg) (D : Fs K mg) : HasP P w K mg base 3 ("_law_is_place" : Str) 1 (spF K 1 F_law_is_place) := by
  obtain ⟨f, fd, hm, Fd⟩ := D.d_law_is_place
  exact ⟨f, fd, p_law_is_place, hm, Fd.kp, Fd.bindsN fun _ _ _ _ _ _ us hl => match us, hl with | [_], _ => rfl, rfl, fn_ok Fd sc_law_is_place (bd_law_is_place G (hp_law_is_fraction G D))⟩
theorem hp_law_is_left (G : Gk K mg) (D : Fs K mg) : HasP P w K mg base 1 ("_law_is_left" : Str) 3 (spF K 3 F_law_is_left) := by
  obtain ⟨f, fd, hm, Fd⟩ := D.d_law_is_left
  exact ⟨f, fd, p_law_is_left, hm, Fd.kp, Fd.bindsN fun _ _ _ _ _ _ us hl => match us, hl with | [_, _, _], _ => rfl, rfl, fn_ok Fd sc_law_is_left (bd_law_is_left G)⟩
theorem hp_law_is_in (G : Gk K mg) (D : Fs K mg) : HasP P w K mg base 2 ("_law_is_in" : Str) 2 (spF K 2 F_law_is_in) := by
  obtain ⟨f, fd, hm, Fd⟩ := D.d_law_is_in
  exact ⟨f, fd, p_law_is_in, hm, Fd.kp, Fd.bindsN fun _ _ _ _ _ _ us hl => match us, hl with | [_, _], _ => rfl, rfl, fn_ok Fd sc_law_is_in (bd_law_is_in G (hp_law_is_left G D))⟩
theorem hp_law_shown_corners (G : Gk K mg) (D : Fs K mg) : HasP P w K mg base 4 ("_law_shown_corners" : Str) 1 (spF K 1 F_law_shown_corners) := by
  obtain ⟨f, fd, hm, Fd⟩ := D.d_law_shown_corners
  exact ⟨f, fd, p_law_shown_corners, hm, Fd.kp, Fd.bindsN fun _ _ _ _ _ _ us hl => match us, hl with | [_], _ => rfl, rfl, fn_ok Fd sc_law_shown_corners (bd_law_shown_corners G (hp_law_place G D))⟩
theorem hp_law_at (G : Gk K mg) (D : Fs K mg) : HasP P w K mg base 1 ("_law_at" : Str) 1 (spF K 1 F_law_at) := by
  obtain ⟨f, fd, hm, Fd⟩ := D.d_law_at
  exact ⟨f, fd, p_law_at, hm, Fd.kp, Fd.bindsN fun _ _ _ _ _ _ us hl => match us, hl with | [_], _ => rfl, rfl, fn_ok Fd sc_law_at (bd_law_at G)⟩
theorem hp_law_is_let_at (G : Gk K mg) (D : Fs K mg) : HasP P w K mg base 5 ("_law_is_let_at" : Str) 2 (spF K 2 F_law_is_let_at) := by
  obtain ⟨f, fd, hm, Fd⟩ := D.d_law_is_let_at
  exact ⟨f, fd, p_law_is_let_at, hm, Fd.kp, Fd.bindsN fun _ _ _ _ _ _ us hl => match us, hl with | [_, _], _ => rfl, rfl, fn_ok Fd sc_law_is_let_at (bd_law_is_let_at G (hp_law_is_let G D) (hp_law_scaled G D))⟩
theorem hp_law_cut (G : Gk K mg) (D : Fs K mg) : HasP P w K mg base 1 ("_law_cut" : Str) 5 (spF K 5 F_law_cut) := by
  obtain ⟨f, fd, hm, Fd⟩ := D.d_law_cut
  exact ⟨f, fd, p_law_cut, hm, Fd.kp, Fd.bindsN fun _ _ _ _ _ _ us hl => match us, hl with | [_, _, _, _, _], _ => rfl, rfl, fn_ok Fd sc_law_cut (bd_law_cut G)⟩
theorem hp_law_is_edge_shut (G : Gk K mg) (D : Fs K mg) : HasP P w K mg base 2 ("_law_is_edge_shut" : Str) 5 (spF K 5 F_law_is_edge_shut) := by
  obtain ⟨f, fd, hm, Fd⟩ := D.d_law_is_edge_shut
  exact ⟨f, fd, p_law_is_edge_shut, hm, Fd.kp, Fd.bindsN fun _ _ _ _ _ _ us hl => match us, hl with | [_, _, _, _, _], _ => rfl, rfl, fn_ok Fd sc_law_is_edge_shut (bd_law_is_edge_shut G (hp_law_cut G D) (hp_law_sign G D))⟩
theorem hp_law_is_pair_kept (G : Gk K mg) (D : Fs K mg) : HasP P w K mg base 4 ("_law_is_pair_kept" : Str) 4 (spF K 4 F_law_is_pair_kept) := by
  obtain ⟨f, fd, hm, Fd⟩ := D.d_law_is_pair_kept
  exact ⟨f, fd, p_law_is_pair_kept, hm, Fd.kp, Fd.bindsN fun _ _ _ _ _ _ us hl => match us, hl with | [_, _, _, _], _ => rfl, rfl, fn_ok Fd sc_law_is_pair_kept (bd_law_is_pair_kept G (hp_law_far G D) (hp_law_sign_three G D) (hp_law_is_in G D) (hp_law_is_edge_shut G D))⟩
theorem hp_law_are_all_let (G : Gk K mg) (D : Fs K mg) : HasP P w K mg base 5 ("_law_are_all_let" : Str) 2 (spF K 2 F_law_are_all_let) := by
  obtain ⟨f, fd, hm, Fd⟩ := D.d_law_are_all_let
  exact ⟨f, fd, p_law_are_all_let, hm, Fd.kp, Fd.bindsN fun _ _ _ _ _ _ us hl => match us, hl with | [_, _], _ => rfl, rfl, fn_ok Fd sc_law_are_all_let (bd_law_are_all_let G (hp_law_is_within G D) (hp_law_is_pair_kept G D))⟩
theorem hp_law_inner (G : Gk K mg) (D : Fs K mg) : HasP P w K mg base 3 ("_law_inner" : Str) 2 (spJ K 2 J_law_inner) := by
  obtain ⟨f, fd, hm, Fd⟩ := D.d_law_inner
  exact ⟨f, fd, p_law_inner, hm, Fd.kp, Fd.bindsN fun _ _ _ _ _ _ us hl => match us, hl with | [_, _], _ => rfl, rfl, fn_okJ Fd sc_law_inner (by decide) (bd_law_inner G (hp_law_pick G D))⟩
theorem hp_law_is_answer (G : Gk K mg) (D : Fs K mg) : HasP P w K mg base 6 ("_law_is_answer" : Str) 3 (spF K 3 F_law_is_answer) := by
  obtain ⟨f, fd, hm, Fd⟩ := D.d_law_is_answer
  exact ⟨f, fd, p_law_is_answer, hm, Fd.kp, Fd.bindsN fun _ _ _ _ _ _ us hl => match us, hl with | [_, _, _], _ => rfl, rfl, fn_ok Fd sc_law_is_answer (bd_law_is_answer G (hp_law_are_all_let G D) (hp_law_is_place G D) (hp_law_at G D) (hp_law_is_in G D) (hp_law_is_let_at G D))⟩
theorem hp_law_turned (G : Gk K mg) (D : Fs K mg) : HasP P w K mg base 1 ("_law_turned" : Str) 2 (spF K 2 F_law_turned) := by
  obtain ⟨f, fd, hm, Fd⟩ := D.d_law_turned
  exact ⟨f, fd, p_law_turned, hm, Fd.kp, Fd.bindsN fun _ _ _ _ _ _ us hl => match us, hl with | [_, _], _ => rfl, rfl, fn_ok Fd sc_law_turned (bd_law_turned G)⟩
theorem hp_law_shape (G : Gk K mg) (D : Fs K mg) : HasP P w K mg base 3 ("_law_shape" : Str) 4 (spJ K 4 J_law_shape) := by
  obtain ⟨f, fd, hm, Fd⟩ := D.d_law_shape
  exact ⟨f, fd, p_law_shape, hm, Fd.kp, Fd.bindsN fun _ _ _ _ _ _ us hl => match us, hl with | [_, _, _, _], _ => rfl, rfl, fn_okJ Fd sc_law_shape (by decide) (bd_law_shape G (hp_law_pick G D))⟩
theorem hp_law_sized (G : Gk K mg) (D : Fs K mg) : HasP P w K mg base 1 ("_law_sized" : Str) 2 (spF K 2 F_law_sized) := by
  obtain ⟨f, fd, hm, Fd⟩ := D.d_law_sized
  exact ⟨f, fd, p_law_sized, hm, Fd.kp, Fd.bindsN fun _ _ _ _ _ _ us hl => match us, hl with | [_, _], _ => rfl, rfl, fn_ok Fd sc_law_sized (bd_law_sized G)⟩
theorem hp_law_right (G : Gk K mg) (D : Fs K mg) : HasP P w K mg base 11 ("_law_right" : Str) 1 (spJ K 1 J_law_right) := by
  obtain ⟨f, fd, hm, Fd⟩ := D.d_law_right
  exact ⟨f, fd, p_law_right, hm, Fd.kp, Fd.bindsN fun _ _ _ _ _ _ us hl => match us, hl with | [_], _ => rfl, rfl, fn_okJ Fd sc_law_right (by decide) (bd_law_right G (hp_law_pick G D) (hp_law_draw G D) (hp_law_sized G D) (hp_law_shape G D) (hp_law_turned G D) (hp_law_shown_corners G D) (hp_shut_place G D) (hp_law_scene G D) (hp_law_is_answer G D) (hp_law_is_let_at G D) (hp_law_inner G D))⟩
end
end K29
end
section
set_option Elab.async false
set_option linter.all false
set_option autoImplicit false
set_option maxRecDepth 100000
set_option maxHeartbeats 0
namespace K29
open PySem PySem.Spec PyProof.Rows L2 Ev
def dfn (x : String) (i : Nat) : He.DefD := ⟨(x, none), x, x, defArgs (top i), defBody (top i), defScope (top i), [], []⟩
def fn0 : List He.DefD := [dfn "is_whole" 6, dfn "is_ratio" 9, dfn "ratio" 10, dfn "added" 11, dfn "less_by" 12, dfn "product" 13, dfn "quotient" 14, dfn "negative" 15, dfn "is_less" 16, dfn "sign_of_ratio" 17, dfn "sign_by" 19, dfn "root_times" 20, dfn "sign_of_two" 21, dfn "compared_by" 22, dfn "is_sided" 24, dfn "is_named" 32, dfn "is_row_of" 33, dfn "is_let_end" 34, dfn "are_ends" 35, dfn "wrong_in_station" 36, dfn "wrong_in_reading" 37, dfn "wrong_in_side" 38, dfn "wrong_in_stations" 39, dfn "wrong_in_readings" 40, dfn "wrong_in_sides" 41, dfn "wrong_in_scene" 42, dfn "rows_by" 43, dfn "place_of" 44, dfn "told_moment" 45, dfn "station_of" 46]
def fn1 : List He.DefD := [dfn "made_row" 47, dfn "made_rows" 48, dfn "square_between" 49, dfn "is_within" 50, dfn "total" 52, dfn "dotted" 53, dfn "scaled_row" 54, dfn "joined_row" 55, dfn "less_row" 56, dfn "turn_of" 58, dfn "steps_of" 59, dfn "is_upper" 60, dfn "is_round_by" 61, dfn "is_in_polygon" 62, dfn "is_over" 63, dfn "over_on" 64, dfn "turning_part" 65, dfn "shut_by_pair" 66, dfn "shut_by" 67, dfn "check_scene" 69, dfn "is_corner" 72, dfn "check_corners" 73, dfn "shut_place" 74, dfn "_law_well" 76, dfn "_law_draw" 77, dfn "_law_pick" 78, dfn "_law_low" 79, dfn "_law_six" 80, dfn "_law_sign" 81, dfn "_law_sign_two" 82]
def fn2 : List He.DefD := [dfn "_law_sign_three" 83, dfn "_law_name" 84, dfn "_law_scene" 85, dfn "_law_is_whole" 87, dfn "_law_is_fraction" 86, dfn "_law_place" 88, dfn "_law_is_within" 89, dfn "_law_far" 90, dfn "_law_is_let" 91, dfn "_law_scaled" 92, dfn "_law_is_place" 93, dfn "_law_is_left" 94, dfn "_law_is_in" 95, dfn "_law_shown_corners" 96, dfn "_law_at" 97, dfn "_law_is_let_at" 98, dfn "_law_cut" 99, dfn "_law_is_edge_shut" 100, dfn "_law_is_pair_kept" 101, dfn "_law_are_all_let" 102, dfn "_law_inner" 103, dfn "_law_is_answer" 104, dfn "_law_turned" 105, dfn "_law_shape" 106, dfn "_law_sized" 107, dfn "_law_right" 108, dfn "law" 109]
def fns : List He.DefD := fn0 ++ fn1 ++ fn2
def fa0 : List He.Fa := [.glo "is_whole", .glo "is_ratio", .glo "ratio", .glo "added", .glo "less_by", .glo "product", .glo "quotient", .glo "negative", .glo "is_less", .glo "sign_of_ratio", .glo "sign_by", .glo "root_times", .glo "sign_of_two", .glo "compared_by", .glo "is_sided", .glo "is_named", .glo "is_row_of", .glo "is_let_end", .glo "are_ends", .glo "wrong_in_station", .glo "wrong_in_reading", .glo "wrong_in_side", .glo "wrong_in_stations", .glo "wrong_in_readings", .glo "wrong_in_sides", .glo "wrong_in_scene", .glo "rows_by", .glo "place_of", .glo "told_moment", .glo "station_of"]
def fa1 : List He.Fa := [.glo "made_row", .glo "made_rows", .glo "square_between", .glo "is_within", .glo "total", .glo "dotted", .glo "scaled_row", .glo "joined_row", .glo "less_row", .glo "turn_of", .glo "steps_of", .glo "is_upper", .glo "is_round_by", .glo "is_in_polygon", .glo "is_over", .glo "over_on", .glo "turning_part", .glo "shut_by_pair", .glo "shut_by", .glo "check_scene", .glo "is_corner", .glo "check_corners", .glo "shut_place", .glo "_law_well", .glo "_law_draw", .glo "_law_pick", .glo "_law_low", .glo "_law_six", .glo "_law_sign", .glo "_law_sign_two"]
def fa2 : List He.Fa := [.glo "_law_sign_three", .glo "_law_name", .glo "_law_scene", .glo "_law_is_whole", .glo "_law_is_fraction", .glo "_law_place", .glo "_law_is_within", .glo "_law_far", .glo "_law_is_let", .glo "_law_scaled", .glo "_law_is_place", .glo "_law_is_left", .glo "_law_is_in", .glo "_law_shown_corners", .glo "_law_at", .glo "_law_is_let_at", .glo "_law_cut", .glo "_law_is_edge_shut", .glo "_law_is_pair_kept", .glo "_law_are_all_let", .glo "_law_inner", .glo "_law_is_answer", .glo "_law_turned", .glo "_law_shape", .glo "_law_sized", .glo "_law_right", .glo "law", .free "abs", .free "all", .free "bool"]
def fa3 : List He.Fa := [.free "divmod", .free "enumerate", .free "int", .free "isinstance", .free "len", .free "max", .free "min", .free "range", .free "str", .free "sum", .free "tuple", .free "zip", .int "FEWEST" 3, .str "LETTERS" ("abcdefghijklmnopqrstuvwxyz" : Str), .int "MOST_LETTERS" 12, .int "MOST_READINGS" 12, .int "MOST_SIDES" 8, .int "MOST_STATIONS" 12, .glo "WORDS", .glo "ZERO"]
def fas : List He.Fa := fa0 ++ fa1 ++ fa2 ++ fa3
def lo0 : List Str := [("ShakeError" : Str), ("InvalidScene" : Str), ("InvalidCorners" : Str), ("is_whole" : Str), ("ZERO" : Str), ("is_ratio" : Str), ("ratio" : Str), ("added" : Str), ("less_by" : Str), ("product" : Str), ("quotient" : Str), ("negative" : Str), ("is_less" : Str), ("sign_of_ratio" : Str), ("sign_by" : Str), ("root_times" : Str), ("sign_of_two" : Str), ("compared_by" : Str), ("is_sided" : Str), ("LETTERS" : Str), ("MOST_LETTERS" : Str), ("WORDS" : Str), ("MOST_STATIONS" : Str), ("MOST_READINGS" : Str), ("MOST_SIDES" : Str), ("is_named" : Str), ("is_row_of" : Str), ("is_let_end" : Str), ("are_ends" : Str), ("wrong_in_station" : Str)]
def lo1 : List Str := [("wrong_in_reading" : Str), ("wrong_in_side" : Str), ("wrong_in_stations" : Str), ("wrong_in_readings" : Str), ("wrong_in_sides" : Str), ("wrong_in_scene" : Str), ("rows_by" : Str), ("place_of" : Str), ("told_moment" : Str), ("station_of" : Str), ("made_row" : Str), ("made_rows" : Str), ("square_between" : Str), ("is_within" : Str), ("total" : Str), ("dotted" : Str), ("scaled_row" : Str), ("joined_row" : Str), ("less_row" : Str), ("turn_of" : Str), ("steps_of" : Str), ("is_upper" : Str), ("is_round_by" : Str), ("is_in_polygon" : Str), ("is_over" : Str), ("over_on" : Str), ("turning_part" : Str), ("shut_by_pair" : Str), ("shut_by" : Str), ("check_scene" : Str)]
def lo2 : List Str := [("FEWEST" : Str), ("is_corner" : Str), ("check_corners" : Str), ("shut_place" : Str), ("_law_well" : Str), ("_law_draw" : Str), ("_law_pick" : Str), ("_law_low" : Str), ("_law_six" : Str), ("_law_sign" : Str), ("_law_sign_two" : Str), ("_law_sign_three" : Str), ("_law_name" : Str), ("_law_scene" : Str), ("_law_is_fraction" : Str), ("_law_is_whole" : Str), ("_law_place" : Str), ("_law_is_within" : Str), ("_law_far" : Str), ("_law_is_let" : Str), ("_law_scaled" : Str), ("_law_is_place" : Str), ("_law_is_left" : Str), ("_law_is_in" : Str), ("_law_shown_corners" : Str), ("_law_at" : Str), ("_law_is_let_at" : Str), ("_law_cut" : Str), ("_law_is_edge_shut" : Str), ("_law_is_pair_kept" : Str)]
def lo3 : List Str := [("_law_are_all_let" : Str), ("_law_inner" : Str), ("_law_is_answer" : Str), ("_law_turned" : Str), ("_law_shape" : Str), ("_law_sized" : Str), ("_law_right" : Str)]
def loose : List Str := lo0 ++ lo1 ++ lo2 ++ lo3
def ex (K : PySem.W.Frag) : Bool := (binB K "gcd" "math.gcd" && (He.tupB K "WORDS" [.str ("station" : Str), .str ("at" : Str), .str ("heard" : Str), .str ("from" : Str), .str ("to" : Str), .str ("side" : Str), .str ("up" : Str)] && (He.tupB K "ZERO" [.int 0, .int 1] && true)))
abbrev RO : PySem.W.OpenRow := PySem.W.OpenLaw.row PySem.Challenge.rw_latestshake_k29_whole_polygons_beside_br
abbrev hk : PySem.W.Hook := hookE 2 fas fns ex
def ob (s : PySem.W.SharedT) : AlE := obsE 2 fas fns ex (HandSHeadRun.getT s)
theorem ob_eq (s : PySem.W.SharedT) : ob s = hk.obs s.abs := obsE_eq (HandSHeadRun.getT_eq s)
abbrev vw : Program := PySem.W.view RO.prog [0, 109]
noncomputable def wh (w : World) := HandSHeadRun.wholeF (fun p => HandSHeadRun.stepQ (HandSHeadRun.denQ HandSHeadRun.tabQ) p w) HandSHeadRun.fenceQ 20000 RO.prog
theorem runA (w : World) : (wh w).map (fun x => HandSHeadRun.looksF RO.prog x.1.heap x.2.abs) = some true := by kernel_rfl
theorem runB (w : World) : (wh w).map (fun x => HandSHeadRun.seenQ vw loose (importedModules RO.prog.main.body) (fun s => PySem.W.xlAt vw [] s && PySem.W.recOk RO.toRowW.records s) x.2.abs) = some (PySem.W.openGood vw loose) := by kernel_rfl
theorem runC (w : World) : (wh w).map (fun x => ob x.2) = some (hk.val w) := by kernel_rfl
theorem run (w : World) : HandSHeadRun.RunEqI RO vw hk ob 20000 loose w := by
  have h := three (runA w) (runB w) (runC w)
  unfold wh at h
  unfold HandSHeadRun.RunEqI
  exact h
end K29
end
section
set_option Elab.async false
set_option linter.all false
set_option autoImplicit false
set_option maxRecDepth 100000
set_option maxHeartbeats 0
namespace K29
open PySem PySem.Spec PyProof.Rows L2 Ev
section
variable {K : PySem.W.Frag} {h : Heap} {mg : Str → Option Value}
theorem exs_ok (e : ex K = true) : binB K "gcd" "math.gcd" = true ∧ He.tupB K "WORDS" [.str ("station" : Str), .str ("at" : Str), .str ("heard" : Str), .str ("from" : Str), .str ("to" : Str), .str ("side" : Str), .str ("up" : Str)] = true ∧ He.tupB K "ZERO" [.int 0, .int 1] = true := by
  unfold ex at e
  simp only [Bool.and_eq_true] at e
  obtain ⟨e0, e1, e2, _⟩ := e
  exact ⟨e0, e1, e2⟩
theorem gk (X : K.In h) (G : h.Ns mainGlobals mg) (c : He.SaysD fas fns K) (e : ex K = true) : Gk K mg := by
  obtain ⟨e0, e1, e2⟩ := exs_ok e
  exact {
    b_abs := He.free_ok X G (c.fact 87 (f := .free "abs") rfl),
    b_all := He.free_ok X G (c.fact 88 (f := .free "all") rfl),
    b_bool := He.free_ok X G (c.fact 89 (f := .free "bool") rfl),
    b_divmod := He.free_ok X G (c.fact 90 (f := .free "divmod") rfl),
    b_enumerate := He.free_ok X G (c.fact 91 (f := .free "enumerate") rfl),
    g_gcd := bin_ok X G e0,
    b_int := He.free_ok X G (c.fact 92 (f := .free "int") rfl),
    b_isinstance := He.free_ok X G (c.fact 93 (f := .free "isinstance") rfl),
    b_len := He.free_ok X G (c.fact 94 (f := .free "len") rfl),
    b_max := He.free_ok X G (c.fact 95 (f := .free "max") rfl),
    b_min := He.free_ok X G (c.fact 96 (f := .free "min") rfl),
    b_range := He.free_ok X G (c.fact 97 (f := .free "range") rfl),
    b_str := He.free_ok X G (c.fact 98 (f := .free "str") rfl),
    b_sum := He.free_ok X G (c.fact 99 (f := .free "sum") rfl),
    b_tuple := He.free_ok X G (c.fact 100 (f := .free "tuple") rfl),
    b_zip := He.free_ok X G (c.fact 101 (f := .free "zip") rfl),
    c_FEWEST := gm_int X G (c.fact 102 (f := .int "FEWEST" 3) rfl),
    c_LETTERS := gm_str X G (c.fact 103 (f := .str "LETTERS" ("abcdefghijklmnopqrstuvwxyz" : Str)) rfl),
    c_MOST_LETTERS := gm_int X G (c.fact 104 (f := .int "MOST_LETTERS" 12) rfl),
    c_MOST_READINGS := gm_int X G (c.fact 105 (f := .int "MOST_READINGS" 12) rfl),
    c_MOST_SIDES := gm_int X G (c.fact 106 (f := .int "MOST_SIDES" 8) rfl),
    c_MOST_STATIONS := gm_int X G (c.fact 107 (f := .int "MOST_STATIONS" 12) rfl),
    c_WORDS := gm_tup X G (c.fact 108 (f := .glo "WORDS") rfl) e1 (fun _ => (.cons (.str _ (by decide +kernel) (by decide +kernel)) (.cons (.str _ (by decide +kernel) (by decide +kernel)) (.cons (.str _ (by decide +kernel) (by decide +kernel)) (.cons (.str _ (by decide +kernel) (by decide +kernel)) (.cons (.str _ (by decide +kernel) (by decide +kernel)) (.cons (.str _ (by decide +kernel) (by decide +kernel)) (.cons (.str _ (by decide +kernel) (by decide +kernel)) .nil)))))))),
    c_ZERO := gm_tup X G (c.fact 109 (f := .glo "ZERO") rfl) e2 (fun _ => (.cons (.int _) (.cons (.int _) .nil))) }
theorem fs (X : K.In h) (G : h.Ns mainGlobals mg) (c : He.SaysD fas fns K) : Fs K mg := by
  exact {
    d_is_whole := let ⟨fd, F⟩ := c.def_ 0 (d := dfn "is_whole" 6) rfl; ⟨_, fd, He.glo_ok X G (c.fact 0 (f := .glo "is_whole") rfl), F⟩,
    d_is_ratio := let ⟨fd, F⟩ := c.def_ 1 (d := dfn "is_ratio" 9) rfl; ⟨_, fd, He.glo_ok X G (c.fact 1 (f := .glo "is_ratio") rfl), F⟩,
    d_ratio := let ⟨fd, F⟩ := c.def_ 2 (d := dfn "ratio" 10) rfl; ⟨_, fd, He.glo_ok X G (c.fact 2 (f := .glo "ratio") rfl), F⟩,
    d_added := let ⟨fd, F⟩ := c.def_ 3 (d := dfn "added" 11) rfl; ⟨_, fd, He.glo_ok X G (c.fact 3 (f := .glo "added") rfl), F⟩,
    d_less_by := let ⟨fd, F⟩ := c.def_ 4 (d := dfn "less_by" 12) rfl; ⟨_, fd, He.glo_ok X G (c.fact 4 (f := .glo "less_by") rfl), F⟩,
    d_product := let ⟨fd, F⟩ := c.def_ 5 (d := dfn "product" 13) rfl; ⟨_, fd, He.glo_ok X G (c.fact 5 (f := .glo "product") rfl), F⟩,
    d_quotient := let ⟨fd, F⟩ := c.def_ 6 (d := dfn "quotient" 14) rfl; ⟨_, fd, He.glo_ok X G (c.fact 6 (f := .glo "quotient") rfl), F⟩,
    d_negative := let ⟨fd, F⟩ := c.def_ 7 (d := dfn "negative" 15) rfl; ⟨_, fd, He.glo_ok X G (c.fact 7 (f := .glo "negative") rfl), F⟩,
    d_is_less := let ⟨fd, F⟩ := c.def_ 8 (d := dfn "is_less" 16) rfl; ⟨_, fd, He.glo_ok X G (c.fact 8 (f := .glo "is_less") rfl), F⟩,
    d_sign_of_ratio := let ⟨fd, F⟩ := c.def_ 9 (d := dfn "sign_of_ratio" 17) rfl; ⟨_, fd, He.glo_ok X G (c.fact 9 (f := .glo "sign_of_ratio") rfl), F⟩,
    d_sign_by := let ⟨fd, F⟩ := c.def_ 10 (d := dfn "sign_by" 19) rfl; ⟨_, fd, He.glo_ok X G (c.fact 10 (f := .glo "sign_by") rfl), F⟩,
    d_root_times := let ⟨fd, F⟩ := c.def_ 11 (d := dfn "root_times" 20) rfl; ⟨_, fd, He.glo_ok X G (c.fact 11 (f := .glo "root_times") rfl), F⟩,
    d_sign_of_two := let ⟨fd, F⟩ := c.def_ 12 (d := dfn "sign_of_two" 21) rfl; ⟨_, fd, He.glo_ok X G (c.fact 12 (f := .glo "sign_of_two") rfl), F⟩,
    d_compared_by := let ⟨fd, F⟩ := c.def_ 13 (d := dfn "compared_by" 22) rfl; ⟨_, fd, He.glo_ok X G (c.fact 13 (f := .glo "compared_by") rfl), F⟩,
    d_is_sided := let ⟨fd, F⟩ := c.def_ 14 (d := dfn "is_sided" 24) rfl; ⟨_, fd, He.glo_ok X G (c.fact 14 (f := .glo "is_sided") rfl), F⟩,
    d_is_named := let ⟨fd, F⟩ := c.def_ 15 (d := dfn "is_named" 32) rfl; ⟨_, fd, He.glo_ok X G (c.fact 15 (f := .glo "is_named") rfl), F⟩,
    d_is_row_of := let ⟨fd, F⟩ := c.def_ 16 (d := dfn "is_row_of" 33) rfl; ⟨_, fd, He.glo_ok X G (c.fact 16 (f := .glo "is_row_of") rfl), F⟩,
    d_is_let_end := let ⟨fd, F⟩ := c.def_ 17 (d := dfn "is_let_end" 34) rfl; ⟨_, fd, He.glo_ok X G (c.fact 17 (f := .glo "is_let_end") rfl), F⟩,
    d_are_ends := let ⟨fd, F⟩ := c.def_ 18 (d := dfn "are_ends" 35) rfl; ⟨_, fd, He.glo_ok X G (c.fact 18 (f := .glo "are_ends") rfl), F⟩,
    d_wrong_in_station := let ⟨fd, F⟩ := c.def_ 19 (d := dfn "wrong_in_station" 36) rfl; ⟨_, fd, He.glo_ok X G (c.fact 19 (f := .glo "wrong_in_station") rfl), F⟩,
    d_wrong_in_reading := let ⟨fd, F⟩ := c.def_ 20 (d := dfn "wrong_in_reading" 37) rfl; ⟨_, fd, He.glo_ok X G (c.fact 20 (f := .glo "wrong_in_reading") rfl), F⟩,
    d_wrong_in_side := let ⟨fd, F⟩ := c.def_ 21 (d := dfn "wrong_in_side" 38) rfl; ⟨_, fd, He.glo_ok X G (c.fact 21 (f := .glo "wrong_in_side") rfl), F⟩,
    d_wrong_in_stations := let ⟨fd, F⟩ := c.def_ 22 (d := dfn "wrong_in_stations" 39) rfl; ⟨_, fd, He.glo_ok X G (c.fact 22 (f := .glo "wrong_in_stations") rfl), F⟩,
    d_wrong_in_readings := let ⟨fd, F⟩ := c.def_ 23 (d := dfn "wrong_in_readings" 40) rfl; ⟨_, fd, He.glo_ok X G (c.fact 23 (f := .glo "wrong_in_readings") rfl), F⟩,
    d_wrong_in_sides := let ⟨fd, F⟩ := c.def_ 24 (d := dfn "wrong_in_sides" 41) rfl; ⟨_, fd, He.glo_ok X G (c.fact 24 (f := .glo "wrong_in_sides") rfl), F⟩,
    d_wrong_in_scene := let ⟨fd, F⟩ := c.def_ 25 (d := dfn "wrong_in_scene" 42) rfl; ⟨_, fd, He.glo_ok X G (c.fact 25 (f := .glo "wrong_in_scene") rfl), F⟩,
    d_rows_by := let ⟨fd, F⟩ := c.def_ 26 (d := dfn "rows_by" 43) rfl; ⟨_, fd, He.glo_ok X G (c.fact 26 (f := .glo "rows_by") rfl), F⟩,
    d_place_of := let ⟨fd, F⟩ := c.def_ 27 (d := dfn "place_of" 44) rfl; ⟨_, fd, He.glo_ok X G (c.fact 27 (f := .glo "place_of") rfl), F⟩,
    d_told_moment := let ⟨fd, F⟩ := c.def_ 28 (d := dfn "told_moment" 45) rfl; ⟨_, fd, He.glo_ok X G (c.fact 28 (f := .glo "told_moment") rfl), F⟩,
    d_station_of := let ⟨fd, F⟩ := c.def_ 29 (d := dfn "station_of" 46) rfl; ⟨_, fd, He.glo_ok X G (c.fact 29 (f := .glo "station_of") rfl), F⟩,
    d_made_row := let ⟨fd, F⟩ := c.def_ 30 (d := dfn "made_row" 47) rfl; ⟨_, fd, He.glo_ok X G (c.fact 30 (f := .glo "made_row") rfl), F⟩,
    d_made_rows := let ⟨fd, F⟩ := c.def_ 31 (d := dfn "made_rows" 48) rfl; ⟨_, fd, He.glo_ok X G (c.fact 31 (f := .glo "made_rows") rfl), F⟩,
    d_square_between := let ⟨fd, F⟩ := c.def_ 32 (d := dfn "square_between" 49) rfl; ⟨_, fd, He.glo_ok X G (c.fact 32 (f := .glo "square_between") rfl), F⟩,
    d_is_within := let ⟨fd, F⟩ := c.def_ 33 (d := dfn "is_within" 50) rfl; ⟨_, fd, He.glo_ok X G (c.fact 33 (f := .glo "is_within") rfl), F⟩,
    d_total := let ⟨fd, F⟩ := c.def_ 34 (d := dfn "total" 52) rfl; ⟨_, fd, He.glo_ok X G (c.fact 34 (f := .glo "total") rfl), F⟩,
    d_dotted := let ⟨fd, F⟩ := c.def_ 35 (d := dfn "dotted" 53) rfl; ⟨_, fd, He.glo_ok X G (c.fact 35 (f := .glo "dotted") rfl), F⟩,
    d_scaled_row := let ⟨fd, F⟩ := c.def_ 36 (d := dfn "scaled_row" 54) rfl; ⟨_, fd, He.glo_ok X G (c.fact 36 (f := .glo "scaled_row") rfl), F⟩,
    d_joined_row := let ⟨fd, F⟩ := c.def_ 37 (d := dfn "joined_row" 55) rfl; ⟨_, fd, He.glo_ok X G (c.fact 37 (f := .glo "joined_row") rfl), F⟩,
    d_less_row := let ⟨fd, F⟩ := c.def_ 38 (d := dfn "less_row" 56) rfl; ⟨_, fd, He.glo_ok X G (c.fact 38 (f := .glo "less_row") rfl), F⟩,
    d_turn_of := let ⟨fd, F⟩ := c.def_ 39 (d := dfn "turn_of" 58) rfl; ⟨_, fd, He.glo_ok X G (c.fact 39 (f := .glo "turn_of") rfl), F⟩,
    d_steps_of := let ⟨fd, F⟩ := c.def_ 40 (d := dfn "steps_of" 59) rfl; ⟨_, fd, He.glo_ok X G (c.fact 40 (f := .glo "steps_of") rfl), F⟩,
    d_is_upper := let ⟨fd, F⟩ := c.def_ 41 (d := dfn "is_upper" 60) rfl; ⟨_, fd, He.glo_ok X G (c.fact 41 (f := .glo "is_upper") rfl), F⟩,
    d_is_round_by := let ⟨fd, F⟩ := c.def_ 42 (d := dfn "is_round_by" 61) rfl; ⟨_, fd, He.glo_ok X G (c.fact 42 (f := .glo "is_round_by") rfl), F⟩,
    d_is_in_polygon := let ⟨fd, F⟩ := c.def_ 43 (d := dfn "is_in_polygon" 62) rfl; ⟨_, fd, He.glo_ok X G (c.fact 43 (f := .glo "is_in_polygon") rfl), F⟩,
    d_is_over := let ⟨fd, F⟩ := c.def_ 44 (d := dfn "is_over" 63) rfl; ⟨_, fd, He.glo_ok X G (c.fact 44 (f := .glo "is_over") rfl), F⟩,
    d_over_on := let ⟨fd, F⟩ := c.def_ 45 (d := dfn "over_on" 64) rfl; ⟨_, fd, He.glo_ok X G (c.fact 45 (f := .glo "over_on") rfl), F⟩,
    d_turning_part := let ⟨fd, F⟩ := c.def_ 46 (d := dfn "turning_part" 65) rfl; ⟨_, fd, He.glo_ok X G (c.fact 46 (f := .glo "turning_part") rfl), F⟩,
    d_shut_by_pair := let ⟨fd, F⟩ := c.def_ 47 (d := dfn "shut_by_pair" 66) rfl; ⟨_, fd, He.glo_ok X G (c.fact 47 (f := .glo "shut_by_pair") rfl), F⟩,
    d_shut_by := let ⟨fd, F⟩ := c.def_ 48 (d := dfn "shut_by" 67) rfl; ⟨_, fd, He.glo_ok X G (c.fact 48 (f := .glo "shut_by") rfl), F⟩,
    d_check_scene := let ⟨fd, F⟩ := c.def_ 49 (d := dfn "check_scene" 69) rfl; ⟨_, fd, He.glo_ok X G (c.fact 49 (f := .glo "check_scene") rfl), F⟩,
    d_is_corner := let ⟨fd, F⟩ := c.def_ 50 (d := dfn "is_corner" 72) rfl; ⟨_, fd, He.glo_ok X G (c.fact 50 (f := .glo "is_corner") rfl), F⟩,
    d_check_corners := let ⟨fd, F⟩ := c.def_ 51 (d := dfn "check_corners" 73) rfl; ⟨_, fd, He.glo_ok X G (c.fact 51 (f := .glo "check_corners") rfl), F⟩,
    d_shut_place := let ⟨fd, F⟩ := c.def_ 52 (d := dfn "shut_place" 74) rfl; ⟨_, fd, He.glo_ok X G (c.fact 52 (f := .glo "shut_place") rfl), F⟩,
    d_law_well := let ⟨fd, F⟩ := c.def_ 53 (d := dfn "_law_well" 76) rfl; ⟨_, fd, He.glo_ok X G (c.fact 53 (f := .glo "_law_well") rfl), F⟩,
    d_law_draw := let ⟨fd, F⟩ := c.def_ 54 (d := dfn "_law_draw" 77) rfl; ⟨_, fd, He.glo_ok X G (c.fact 54 (f := .glo "_law_draw") rfl), F⟩,
    d_law_pick := let ⟨fd, F⟩ := c.def_ 55 (d := dfn "_law_pick" 78) rfl; ⟨_, fd, He.glo_ok X G (c.fact 55 (f := .glo "_law_pick") rfl), F⟩,
    d_law_low := let ⟨fd, F⟩ := c.def_ 56 (d := dfn "_law_low" 79) rfl; ⟨_, fd, He.glo_ok X G (c.fact 56 (f := .glo "_law_low") rfl), F⟩,
    d_law_six := let ⟨fd, F⟩ := c.def_ 57 (d := dfn "_law_six" 80) rfl; ⟨_, fd, He.glo_ok X G (c.fact 57 (f := .glo "_law_six") rfl), F⟩,
    d_law_sign := let ⟨fd, F⟩ := c.def_ 58 (d := dfn "_law_sign" 81) rfl; ⟨_, fd, He.glo_ok X G (c.fact 58 (f := .glo "_law_sign") rfl), F⟩,
    d_law_sign_two := let ⟨fd, F⟩ := c.def_ 59 (d := dfn "_law_sign_two" 82) rfl; ⟨_, fd, He.glo_ok X G (c.fact 59 (f := .glo "_law_sign_two") rfl), F⟩,
    d_law_sign_three := let ⟨fd, F⟩ := c.def_ 60 (d := dfn "_law_sign_three" 83) rfl; ⟨_, fd, He.glo_ok X G (c.fact 60 (f := .glo "_law_sign_three") rfl), F⟩,
    d_law_name := let ⟨fd, F⟩ := c.def_ 61 (d := dfn "_law_name" 84) rfl; ⟨_, fd, He.glo_ok X G (c.fact 61 (f := .glo "_law_name") rfl), F⟩,
    d_law_scene := let ⟨fd, F⟩ := c.def_ 62 (d := dfn "_law_scene" 85) rfl; ⟨_, fd, He.glo_ok X G (c.fact 62 (f := .glo "_law_scene") rfl), F⟩,
    d_law_is_whole := let ⟨fd, F⟩ := c.def_ 63 (d := dfn "_law_is_whole" 87) rfl; ⟨_, fd, He.glo_ok X G (c.fact 63 (f := .glo "_law_is_whole") rfl), F⟩,
    d_law_is_fraction := let ⟨fd, F⟩ := c.def_ 64 (d := dfn "_law_is_fraction" 86) rfl; ⟨_, fd, He.glo_ok X G (c.fact 64 (f := .glo "_law_is_fraction") rfl), F⟩,
    d_law_place := let ⟨fd, F⟩ := c.def_ 65 (d := dfn "_law_place" 88) rfl; ⟨_, fd, He.glo_ok X G (c.fact 65 (f := .glo "_law_place") rfl), F⟩,
    d_law_is_within := let ⟨fd, F⟩ := c.def_ 66 (d := dfn "_law_is_within" 89) rfl; ⟨_, fd, He.glo_ok X G (c.fact 66 (f := .glo "_law_is_within") rfl), F⟩,
    d_law_far := let ⟨fd, F⟩ := c.def_ 67 (d := dfn "_law_far" 90) rfl; ⟨_, fd, He.glo_ok X G (c.fact 67 (f := .glo "_law_far") rfl), F⟩,
    d_law_is_let := let ⟨fd, F⟩ := c.def_ 68 (d := dfn "_law_is_let" 91) rfl; ⟨_, fd, He.glo_ok X G (c.fact 68 (f := .glo "_law_is_let") rfl), F⟩,
    d_law_scaled := let ⟨fd, F⟩ := c.def_ 69 (d := dfn "_law_scaled" 92) rfl; ⟨_, fd, He.glo_ok X G (c.fact 69 (f := .glo "_law_scaled") rfl), F⟩,
    d_law_is_place := let ⟨fd, F⟩ := c.def_ 70 (d := dfn "_law_is_place" 93) rfl; ⟨_, fd, He.glo_ok X G (c.fact 70 (f := .glo "_law_is_place") rfl), F⟩,
    d_law_is_left := let ⟨fd, F⟩ := c.def_ 71 (d := dfn "_law_is_left" 94) rfl; ⟨_, fd, He.glo_ok X G (c.fact 71 (f := .glo "_law_is_left") rfl), F⟩,
    d_law_is_in := let ⟨fd, F⟩ := c.def_ 72 (d := dfn "_law_is_in" 95) rfl; ⟨_, fd, He.glo_ok X G (c.fact 72 (f := .glo "_law_is_in") rfl), F⟩,
    d_law_shown_corners := let ⟨fd, F⟩ := c.def_ 73 (d := dfn "_law_shown_corners" 96) rfl; ⟨_, fd, He.glo_ok X G (c.fact 73 (f := .glo "_law_shown_corners") rfl), F⟩,
    d_law_at := let ⟨fd, F⟩ := c.def_ 74 (d := dfn "_law_at" 97) rfl; ⟨_, fd, He.glo_ok X G (c.fact 74 (f := .glo "_law_at") rfl), F⟩,
    d_law_is_let_at := let ⟨fd, F⟩ := c.def_ 75 (d := dfn "_law_is_let_at" 98) rfl; ⟨_, fd, He.glo_ok X G (c.fact 75 (f := .glo "_law_is_let_at") rfl), F⟩,
    d_law_cut := let ⟨fd, F⟩ := c.def_ 76 (d := dfn "_law_cut" 99) rfl; ⟨_, fd, He.glo_ok X G (c.fact 76 (f := .glo "_law_cut") rfl), F⟩,
    d_law_is_edge_shut := let ⟨fd, F⟩ := c.def_ 77 (d := dfn "_law_is_edge_shut" 100) rfl; ⟨_, fd, He.glo_ok X G (c.fact 77 (f := .glo "_law_is_edge_shut") rfl), F⟩,
    d_law_is_pair_kept := let ⟨fd, F⟩ := c.def_ 78 (d := dfn "_law_is_pair_kept" 101) rfl; ⟨_, fd, He.glo_ok X G (c.fact 78 (f := .glo "_law_is_pair_kept") rfl), F⟩,
    d_law_are_all_let := let ⟨fd, F⟩ := c.def_ 79 (d := dfn "_law_are_all_let" 102) rfl; ⟨_, fd, He.glo_ok X G (c.fact 79 (f := .glo "_law_are_all_let") rfl), F⟩,
    d_law_inner := let ⟨fd, F⟩ := c.def_ 80 (d := dfn "_law_inner" 103) rfl; ⟨_, fd, He.glo_ok X G (c.fact 80 (f := .glo "_law_inner") rfl), F⟩,
    d_law_is_answer := let ⟨fd, F⟩ := c.def_ 81 (d := dfn "_law_is_answer" 104) rfl; ⟨_, fd, He.glo_ok X G (c.fact 81 (f := .glo "_law_is_answer") rfl), F⟩,
    d_law_turned := let ⟨fd, F⟩ := c.def_ 82 (d := dfn "_law_turned" 105) rfl; ⟨_, fd, He.glo_ok X G (c.fact 82 (f := .glo "_law_turned") rfl), F⟩,
    d_law_shape := let ⟨fd, F⟩ := c.def_ 83 (d := dfn "_law_shape" 106) rfl; ⟨_, fd, He.glo_ok X G (c.fact 83 (f := .glo "_law_shape") rfl), F⟩,
    d_law_sized := let ⟨fd, F⟩ := c.def_ 84 (d := dfn "_law_sized" 107) rfl; ⟨_, fd, He.glo_ok X G (c.fact 84 (f := .glo "_law_sized") rfl), F⟩,
    d_law_right := let ⟨fd, F⟩ := c.def_ 85 (d := dfn "_law_right" 108) rfl; ⟨_, fd, He.glo_ok X G (c.fact 85 (f := .glo "_law_right") rfl), F⟩,
    d_law := let ⟨fd, F⟩ := c.def_ 86 (d := dfn "law" 109) rfl; ⟨_, fd, He.glo_ok X G (c.fact 86 (f := .glo "law") rfl), F⟩ }
theorem law_fn {P : Program} {w : World} {fa : Addr} (G : Gk K mg) (D : Fs K mg) (hfa : mg "law" = some (.ref fa)) (hmain : ∀ ns : List Int, ns.length ≤ 63 → L_law ns = some (.bool true)) :
    ∃ fd, (∀ (s : Shared) (v : Value), BindsTo s fd ⟨[v], []⟩ [(("_law_script" : Str), v)]) ∧ ∀ base : Heap, FnOk P w K mg base CX0 12 fa fd p_law (spL K 63) := by
  obtain ⟨f, fd, hm, Fd⟩ := D.d_law
  rw [hfa] at hm
  cases hm
  exact ⟨fd, fun s v => Fd.bindsA (ps := p_law) (fun _ _ _ _ _ _ us hl => match us, hl with | [_], _ => rfl) s [v] rfl, fun base => fn_okL Fd sc_law rfl (by decide) (by rw [sizeLine_eq]; decide) (bd_law G (hp_law_well G D) (hp_law_right G D)) hmain⟩
end
end K29
open PySem PySem.W PySem.Calls PyProof.Rows
theorem K29.holds_of (hmain : ∀ ns : List Int, ns.length ≤ 63 → K29.L_law ns = some (.bool true)) : PySem.Challenge.rw_latestshake_k29_whole_polygons_beside_br.Holds := by
  w_on; o_law
  refine HandSHeadRun.head_imp (r := OpenLaw.row PySem.Challenge.rw_latestshake_k29_whole_polygons_beside_br) (q := K29.vw) (H := K29.hk) (ob := K29.ob) (M := 20000) (loose := K29.loose) (d := HandSHeadRun.topDef (OpenLaw.row PySem.Challenge.rw_latestshake_k29_whole_polygons_beside_br).prog 109) (kwd := []) K29.ob_eq
    K29.run (by kernel_rfl) (by kernel_rfl) (by kernel_rfl) (by rfl) (by first | assumption | decide +kernel) (by decide +kernel) ⟨rfl, rfl, rfl, rfl, rfl, by decide +kernel⟩ ?hw ?hc
  case hw => w_witness2
  case hc =>
    refine L2.walk_ofE (l := PySem.Challenge.rw_latestshake_k29_whole_polygons_beside_br) (n := 63) (k := 12) (x := "_law_script") (CX := L2.CX0) rfl (by decide) (by kernel_rfl) ⟨rfl, by decide, by decide⟩ ?F (fun _ _ _ _ z => z)
    intro w mg fa h Y G hmg0
    obtain ⟨K, KX, c, e⟩ := Y
    have hmg : mg ("law" : PySem.Str) = some (.ref fa) := by
      have en : (HandSHeadRun.topDef (OpenLaw.row PySem.Challenge.rw_latestshake_k29_whole_polygons_beside_br).prog 109).name = ("law" : PySem.Str) := by kernel_rfl
      rw [← en]
      exact hmg0
    have Gk := K29.gk KX G c e
    have D := K29.fs KX G c
    obtain ⟨fd, hb, F⟩ := K29.law_fn (P := (PySem.Challenge.rw_latestshake_k29_whole_polygons_beside_br).prog) (w := w) Gk D hmg hmain
    exact ⟨K, fd, Ev.spL K 63, KX, hb, fun H a ns hl _ hS => ⟨a, ns, rfl, hS, hl, fun _ => rfl⟩, fun base _ _ => F base⟩
end
section
set_option Elab.async false
set_option linter.all false
set_option autoImplicit false
set_option maxRecDepth 100000
/-! Plain arithmetic: fractions as pairs, and how long they are. -/
namespace Ar
/-- both parts below 2 ^ n -/
def Sz (n : Nat) (q : Rat) : Prop := q.num.natAbs < 2 ^ n ∧ q.den < 2 ^ n
theorem Sz.mono {m n : Nat} {q : Rat} (h : Sz m q) (le : m ≤ n) : Sz n q := ⟨Nat.lt_of_lt_of_le h.1 (Nat.pow_le_pow_right (by decide) le), Nat.lt_of_lt_of_le h.2 (Nat.pow_le_pow_right (by decide) le)⟩
theorem den_pos (q : Rat) : 0 < q.den := Nat.pos_of_ne_zero q.den_nz
/-- a fraction of two numbers has parts that divide them -/
theorem divInt_num (a b : Int) (hb : b ≠ 0) : (Rat.divInt a b).num.natAbs ≤ a.natAbs ∧ (Rat.divInt a b).den ≤ b.natAbs := by
  rw [Rat.num_divInt, Rat.den_divInt, if_neg hb]
  constructor
  · rw [Int.natAbs_ediv_of_dvd]
    · rw [Int.natAbs_mul]
      refine Nat.le_trans (Nat.div_le_self _ _) ?_
      have : b.sign.natAbs ≤ 1 := by
        rcases Int.lt_trichotomy b 0 with h | h | h
        · rw [Int.sign_eq_neg_one_of_neg h]; decide
        · exact absurd h hb
        · rw [Int.sign_eq_one_of_pos h]; decide
      calc b.sign.natAbs * a.natAbs ≤ 1 * a.natAbs := Nat.mul_le_mul_right _ this
        _ = a.natAbs := Nat.one_mul _
    · exact Int.dvd_mul_of_dvd_right (Int.gcd_dvd_right ..)
  · exact Nat.div_le_self _ _
theorem sz_divInt {n : Nat} {a b : Int} (hb : b ≠ 0) (ha' : a.natAbs < 2 ^ n) (hb' : b.natAbs < 2 ^ n) : Sz n (Rat.divInt a b) :=
  ⟨Nat.lt_of_le_of_lt (divInt_num a b hb).1 ha', Nat.lt_of_le_of_lt (divInt_num a b hb).2 hb'⟩
theorem pow2 {a b m n : Nat} (ha : a < 2 ^ m) (hb : b < 2 ^ n) : a * b < 2 ^ (m + n) := by
  rw [Nat.pow_add]
  exact Nat.mul_lt_mul'' ha hb
theorem add_eq (p q : Rat) : p + q = Rat.divInt (p.num * q.den + q.num * p.den) (p.den * q.den) := by
  conv => lhs; rw [← Rat.num_divInt_den p, ← Rat.num_divInt_den q]
  rw [Rat.divInt_add_divInt _ _ (by have := den_pos p; omega) (by have := den_pos q; omega)]
theorem sub_eq (p q : Rat) : p - q = Rat.divInt (p.num * q.den - q.num * p.den) (p.den * q.den) := by
  conv => lhs; rw [← Rat.num_divInt_den p, ← Rat.num_divInt_den q]
  rw [Rat.divInt_sub_divInt _ _ (by have := den_pos p; omega) (by have := den_pos q; omega)]
theorem mul_eq (p q : Rat) : p * q = Rat.divInt (p.num * q.num) (p.den * q.den) := by
  conv => lhs; rw [← Rat.num_divInt_den p, ← Rat.num_divInt_den q]
  rw [Rat.divInt_mul_divInt]
theorem dens_ne (p q : Rat) : ((p.den : Int) * q.den) ≠ 0 := Int.mul_ne_zero (by have := den_pos p; omega) (by have := den_pos q; omega)
theorem Sz.mul {m n : Nat} {p q : Rat} (hp : Sz m p) (hq : Sz n q) : Sz (m + n) (p * q) := by
  rw [mul_eq]
  refine sz_divInt (dens_ne p q) ?_ ?_
  · rw [Int.natAbs_mul]
    exact pow2 hp.1 hq.1
  · rw [Int.natAbs_mul]
    exact pow2 hp.2 hq.2
theorem two_pow_succ_le {a b m n : Nat} (ha : a < 2 ^ (m + n)) (hb : b < 2 ^ (m + n)) : a + b < 2 ^ (m + n + 1) := by
  rw [Nat.pow_succ]
  omega
theorem natAbs_add_lt (a b : Int) : (a + b).natAbs ≤ a.natAbs + b.natAbs := Int.natAbs_add_le ..
theorem Sz.add {m n : Nat} {p q : Rat} (hp : Sz m p) (hq : Sz n q) : Sz (m + n + 1) (p + q) := by
  rw [add_eq]
  refine sz_divInt (dens_ne p q) (Nat.lt_of_le_of_lt (natAbs_add_lt _ _) ?_) ?_
  · rw [Int.natAbs_mul, Int.natAbs_mul]
    exact two_pow_succ_le (pow2 hp.1 hq.2) (by rw [Nat.add_comm m n]; exact pow2 hq.1 hp.2)
  · rw [Int.natAbs_mul]
    exact Nat.lt_of_lt_of_le (pow2 hp.2 hq.2) (Nat.pow_le_pow_right (by decide) (by omega))
theorem Sz.neg {m : Nat} {p : Rat} (hp : Sz m p) : Sz m (-p) := ⟨by rw [Rat.neg_num, Int.natAbs_neg]; exact hp.1, by rw [Rat.neg_den]; exact hp.2⟩
theorem Sz.sub {m n : Nat} {p q : Rat} (hp : Sz m p) (hq : Sz n q) : Sz (m + n + 1) (p - q) := by
  rw [Rat.sub_eq_add_neg]
  exact hp.add hq.neg
theorem sz_int {n : Nat} {i : Int} (h : i.natAbs < 2 ^ n) (hn : 1 ≤ n) : Sz n (i : Rat) := by
  refine ⟨?_, ?_⟩
  · rw [Rat.num_intCast]
    exact h
  · rw [Rat.den_intCast]
    exact Nat.lt_of_lt_of_le (by decide : 1 < 2 ^ 1) (Nat.pow_le_pow_right (by decide) hn)
theorem sz_div {n : Nat} {a b : Int} (hb : b ≠ 0) (ha' : a.natAbs < 2 ^ n) (hb' : b.natAbs < 2 ^ n) : Sz n ((a : Rat) / (b : Rat)) := by
  rw [← Rat.divInt_eq_div]
  exact sz_divInt hb ha' hb'
/-- what ratio gives -/
theorem ratio_parts {a b : Int} (hb : b ≠ 0) :
    a.fdiv (if 0 < b then ((Nat.gcd a.natAbs b.natAbs : Nat) : Int) else -((Nat.gcd a.natAbs b.natAbs : Nat) : Int)) = (Rat.divInt a b).num ∧
    b.fdiv (if 0 < b then ((Nat.gcd a.natAbs b.natAbs : Nat) : Int) else -((Nat.gcd a.natAbs b.natAbs : Nat) : Int)) = ((Rat.divInt a b).den : Int) := by
  have hg : 0 < Nat.gcd a.natAbs b.natAbs := Nat.gcd_pos_of_pos_right _ (Int.natAbs_pos.mpr hb)
  have d1 : ((Nat.gcd a.natAbs b.natAbs : Nat) : Int) ∣ a := Int.ofNat_dvd_left.mpr (Nat.gcd_dvd_left _ _)
  have d2 : ((Nat.gcd a.natAbs b.natAbs : Nat) : Int) ∣ b := Int.ofNat_dvd_left.mpr (Nat.gcd_dvd_right _ _)
  have eg : ((b.gcd a : Nat) : Int) = ((Nat.gcd a.natAbs b.natAbs : Nat) : Int) := by
    show ((Nat.gcd b.natAbs a.natAbs : Nat) : Int) = _; rw [Nat.gcd_comm]
  rw [Rat.num_divInt, Rat.den_divInt, if_neg hb, eg]
  by_cases h : 0 < b
  · rw [if_pos h, Int.fdiv_eq_ediv_of_dvd d1, Int.fdiv_eq_ediv_of_dvd d2, Int.sign_eq_one_of_pos h, Int.one_mul]
    refine ⟨rfl, ?_⟩
    rw [Int.natCast_ediv, show b.gcd a = Nat.gcd a.natAbs b.natAbs from Nat.gcd_comm _ _, Int.natAbs_of_nonneg (by omega)]
  · have hn : b < 0 := by omega
    rw [if_neg h, Int.fdiv_eq_ediv_of_dvd (Int.neg_dvd.mpr d1), Int.fdiv_eq_ediv_of_dvd (Int.neg_dvd.mpr d2), Int.sign_eq_neg_one_of_neg hn, Int.ediv_neg, Int.ediv_neg]
    refine ⟨by rw [Int.neg_mul, Int.one_mul, Int.neg_ediv_of_dvd d1], ?_⟩
    rw [Int.natCast_ediv, show b.gcd a = Nat.gcd a.natAbs b.natAbs from Nat.gcd_comm _ _, ← Int.neg_ediv_of_dvd d2]
    congr 1
    omega
end Ar
end
section
set_option Elab.async false
set_option linter.all false
set_option autoImplicit false
set_option maxRecDepth 100000
/-! Plain law: signs of p + √r - √s, and who is over. -/
namespace Ar
theorem mul_neg' {a b : Rat} (ha : a < 0) (hb : b < 0) : 0 < a * b := by
  have := Rat.mul_pos (a := -a) (b := -b) (by grind) (by grind)
  grind
theorem tri (a b : Rat) : a < b ∨ a = b ∨ b < a := by grind
theorem sq_nn (a : Rat) : 0 ≤ a * a := by
  rcases (Rat.le_total (a := 0) (b := a)) with h | h
  · exact Rat.mul_nonneg h h
  · have := Rat.mul_nonneg (a := -a) (b := -a) (by grind) (by grind)
    grind
theorem sq_pos {a : Rat} (h : a ≠ 0) : 0 < a * a := by
  rcases (Rat.le_total (a := 0) (b := a)) with q | q
  · exact Rat.mul_pos (by grind) (by grind)
  · exact mul_neg' (by grind) (by grind)
def sg (q : Rat) : Int := if 0 < q then 1 else if q < 0 then -1 else 0
theorem sg_pos {q : Rat} (h : 0 < q) : sg q = 1 := if_pos h
theorem sg_neg {q : Rat} (h : q < 0) : sg q = -1 := by
  unfold sg
  rw [if_neg (by grind), if_pos h]
theorem sg_zero {q : Rat} (h : q = 0) : sg q = 0 := by
  subst h
  rfl
theorem sg_gt {q : Rat} : 0 < sg q ↔ 0 < q := by
  unfold sg
  split
  · simp [*]
  · split
    · simp [*]
    · simp [*]
def sgBy (f s u : Rat) : Int :=
  let one := sg f
  let two := if u ≠ 0 then sg s else 0
  if 0 ≤ one * two then (if one ≠ 0 then one else two) else one * sg (f * f - s * s * u)
def sgTwo (f s u t b : Rat) : Int :=
  let one := sgBy f s u
  let two := if b ≠ 0 then sg t else 0
  if 0 ≤ one * two then (if one ≠ 0 then one else two) else one * sgBy ((f * f + s * s * u) - t * t * b) (f * s + s * f) u
/-- |x - s'| - |x - s| > k, by the squares f of the one and n of the other -/
def Ov (k f n : Rat) : Prop := (0 ≤ k ∧ 0 < f - n - k * k ∧ 4 * (k * k) * n < (f - n - k * k) * (f - n - k * k)) ∨ (k < 0 ∧ (n - f - k * k < 0 ∨ (n - f - k * k) * (n - f - k * k) < 4 * (k * k) * f))
theorem sgBy_pos {f u : Rat} (hf : 0 < f) : sgBy f 1 u = 1 := by
  unfold sgBy
  rw [sg_pos hf, sg_pos (by decide : (0 : Rat) < 1)]
  by_cases h : u = 0 <;> simp [h]
theorem sgBy_zero {u : Rat} : sgBy 0 1 u = if u ≠ 0 then 1 else 0 := by
  unfold sgBy
  rw [sg_zero rfl, sg_pos (by decide : (0 : Rat) < 1)]
  by_cases h : u = 0 <;> simp [h]
theorem sgBy_neg {f u : Rat} (hf : f < 0) (hu : 0 ≤ u) : sgBy f 1 u = sg (u - f * f) := by
  unfold sgBy
  rw [sg_neg hf, sg_pos (by decide : (0 : Rat) < 1)]
  have q := mul_neg' hf hf
  by_cases h : u = 0
  · rw [sg_neg (q := u - f * f) (by grind)]
    simp [h]
  · simp only [h, ne_eq, not_false_eq_true, if_true]
    rw [if_neg (by decide)]
    rcases tri (u - f * f) 0 with z | z | z
    · rw [sg_neg z, sg_pos (by grind)]
      rfl
    · rw [sg_zero z, sg_zero (by grind)]
      rfl
    · rw [sg_pos z, sg_neg (by grind)]
      rfl
theorem sgBy_big {g p u : Rat} (hg : 0 < g) (hp : 0 < p) : sgBy g p u = 1 := by
  unfold sgBy
  rw [sg_pos hg, sg_pos hp]
  by_cases h : u = 0 <;> simp [h]
theorem sgBy_up {g p u : Rat} (hp : 0 < p) (hu : 0 ≤ u) : 0 < sgBy g p u ↔ 0 < g ∨ g * g < p * p * u := by
  unfold sgBy
  rw [sg_pos hp]
  rcases tri g 0 with z | z | z
  · rw [sg_neg z]
    by_cases h : u = 0
    · subst h
      have := sq_nn g
      simp
      grind
    · simp only [h, ne_eq, not_false_eq_true, if_true]
      rw [if_neg (by decide)]
      rcases tri (g * g - p * p * u) 0 with y | y | y
      · rw [sg_neg y]
        simp
        grind
      · rw [sg_zero y]
        simp
        grind
      · rw [sg_pos y]
        simp
        grind
  · subst z
    rw [sg_zero rfl]
    have pp := Rat.mul_pos hp hp
    by_cases h : u = 0
    · subst h
      simp
    · have := Rat.mul_pos pp (show 0 < u by grind)
      simp [h]
      grind
  · rw [sg_pos z]
    by_cases h : u = 0 <;> simp [h, z]
theorem sgBy_down {g p u : Rat} (hp : p < 0) (hu : 0 < u) : 0 < sgBy g p u ↔ 0 < g ∧ p * p * u < g * g := by
  unfold sgBy
  rw [sg_neg hp]
  have h : u ≠ 0 := by grind
  simp only [h, ne_eq, not_false_eq_true, if_true]
  rcases tri g 0 with z | z | z
  · rw [sg_neg z]
    simp
    grind
  · rw [sg_zero z]
    simp
    grind
  · rw [sg_pos z, if_neg (by decide)]
    rcases tri (g * g - p * p * u) 0 with y | y | y
    · rw [sg_neg y]
      simp
      grind
    · rw [sg_zero y]
      simp
      grind
    · rw [sg_pos y]
      simp
      grind
/-- the two ways to say it -/
theorem heron {k u b : Rat} (hk : 0 < k) (hb : 0 < b) (h : k * k < u) : (0 < k * k + u - b ∧ (2 * k) * (2 * k) * u < (k * k + u - b) * (k * k + u - b)) ↔ (0 < u - b - k * k ∧ 4 * (k * k) * b < (u - b - k * k) * (u - b - k * k)) := by
  have kk := Rat.mul_pos hk hk
  constructor
  · rintro ⟨h1, h2⟩
    refine ⟨?_, by grind⟩
    false_or_by_contra
    rename_i hn
    -- w = k² + b - u lies between 0 and 2k², and below b
    have w0 : 0 ≤ k * k + b - u := by grind
    have wb : k * k + b - u < b := by grind
    have wk : k * k + b - u < 2 * (k * k) := by grind
    have e1 := Rat.mul_nonneg w0 (show 0 ≤ 2 * (k * k) - (k * k + b - u) by grind)
    have e2 := Rat.mul_pos kk (show 0 < b - (k * k + b - u) by grind)
    have e3 := Rat.mul_nonneg (Rat.le_of_lt kk) w0
    grind
  · rintro ⟨h1, h2⟩
    exact ⟨by grind, by grind⟩
theorem sgTwo_over {k u b : Rat} (hu : 0 ≤ u) (hb : 0 ≤ b) : 0 < sgTwo (-k) 1 u (-1) b ↔ Ov k u b := by
  unfold sgTwo
  rw [sg_neg (by decide : (-1 : Rat) < 0)]
  rcases tri k 0 with hk | hk | hk
  · rw [sgBy_pos (by grind)]
    have kk := mul_neg' hk hk
    by_cases h : b = 0
    · subst h
      simp
      exact .inr ⟨hk, .inl (by grind)⟩
    · simp only [h, ne_eq, not_false_eq_true, if_true]
      rw [if_neg (by decide), Int.one_mul, sgBy_up (by grind) hu]
      unfold Ov
      constructor
      · rintro (q | q)
        · exact .inr ⟨hk, .inl (by grind)⟩
        · exact .inr ⟨hk, .inr (by grind)⟩
      · rintro (⟨q, _⟩ | ⟨_, q | q⟩)
        · grind
        · exact .inl (by grind)
        · exact .inr (by grind)
  · subst hk
    have e0 : (-0 : Rat) = 0 := by grind
    rw [e0, sgBy_zero]
    unfold Ov
    by_cases h : b = 0
    · subst h
      by_cases h2 : u = 0
      · subst h2
        simp
        grind
      · have up : 0 < u := by grind
        have := Rat.mul_pos up up
        simp [h2]
        grind
    · have bp : 0 < b := by grind
      by_cases h2 : u = 0
      · subst h2
        simp [h]
        grind
      · have up : 0 < u := by grind
        simp only [h, h2, ne_eq, not_false_eq_true, if_true]
        rw [if_neg (by decide), Int.one_mul]
        have e : sgBy (0 * 0 + 1 * 1 * u - -1 * -1 * b) (0 * 1 + 1 * 0) u = sg (u - b) := by
          have e1 : (0 * 0 + 1 * 1 * u - -1 * -1 * b : Rat) = u - b := by grind
          have e2 : (0 * 1 + 1 * 0 : Rat) = 0 := by grind
          rw [e1, e2]
          unfold sgBy
          rw [sg_zero (q := 0) rfl]
          by_cases z : sg (u - b) = 0 <;> simp [z]
        rw [e, sg_gt]
        constructor
        · intro q
          have := Rat.mul_pos q q
          exact .inl ⟨by grind, by grind, by grind⟩
        · rintro (⟨_, q, _⟩ | ⟨q, _⟩)
          · grind
          · grind
  · have kk := Rat.mul_pos hk hk
    rw [sgBy_neg (by grind) hu]
    have ekk : u - -k * -k = u - k * k := by grind
    rw [ekk]
    unfold Ov
    by_cases h : b = 0
    · subst h
      simp only [ne_eq, not_true_eq_false, if_false, Int.mul_zero, Int.le_refl, if_true]
      have e : (if ¬ sg (u - k * k) = 0 then sg (u - k * k) else 0) = sg (u - k * k) := by
        by_cases z : sg (u - k * k) = 0 <;> simp [z]
      rw [e, sg_gt]
      constructor
      · intro q
        have := Rat.mul_pos q q
        exact .inl ⟨by grind, by grind, by grind⟩
      · rintro (⟨_, q, _⟩ | ⟨q, _⟩)
        · grind
        · grind
    · have bp : 0 < b := by grind
      simp only [h, ne_eq, not_false_eq_true, if_true]
      rcases tri (u - k * k) 0 with z | z | z
      · rw [sg_neg z]
        simp
        grind
      · rw [sg_zero z]
        simp
        grind
      · rw [sg_pos z, if_neg (by decide), Int.one_mul, sgBy_down (by grind) (by grind)]
        have hr := heron hk bp (u := u) (by grind)
        have e1 : -k * -k + 1 * 1 * u - -1 * -1 * b = k * k + u - b := by grind
        have e2 : (-k * 1 + 1 * -k) * (-k * 1 + 1 * -k) = (2 * k) * (2 * k) := by grind
        rw [e1, e2, hr]
        constructor
        · rintro ⟨a1, a2⟩
          exact .inl ⟨Rat.le_of_lt hk, a1, a2⟩
        · rintro (⟨_, q⟩ | ⟨q, _⟩)
          · exact q
          · grind
end Ar
end
section
set_option Elab.async false
set_option linter.all false
set_option autoImplicit false
set_option maxRecDepth 100000
/-! Plain law: where points are over. -/
namespace Ar
/-- the square of the way from (x, y) to (u, v) -/
def d2 (x y u v : Rat) : Rat := (x - u) * (x - u) + (y - v) * (y - v)
theorem d2_nn (x y u v : Rat) : 0 ≤ d2 x y u v := Rat.add_nonneg (sq_nn _) (sq_nn _)
/-- (x, y) is over: s near, z far -/
def Over (k sx sy zx zy x y : Rat) : Prop := Ov k (d2 x y zx zy) (d2 x y sx sy)
theorem cs (a b c d : Rat) : (a * c + b * d) * (a * c + b * d) ≤ (a * a + b * b) * (c * c + d * d) := by
  have := sq_nn (a * d - b * c)
  grind
/-- a ≤ b from squares -/
theorem abs_le_of_sq {a b : Rat} (hb : 0 ≤ b) (h : a * a ≤ b * b) : a ≤ b := by
  false_or_by_contra
  rename_i n
  have h1 : b < a := by grind
  have := Rat.mul_pos (show 0 < a - b by grind) (show 0 < a + b by grind)
  grind
/-- k ≥ the way between s and z: nobody is over -/
theorem never {k sx sy zx zy x y : Rat} (hk : 0 ≤ k) (h : d2 sx sy zx zy ≤ k * k) : ¬ Over k sx sy zx zy x y := by
  unfold Over Ov
  rintro (⟨_, h1, h2⟩ | ⟨q, _⟩)
  · unfold d2 at *
    have c := cs (x - sx) (y - sy) (sx - zx) (sy - zy)
    have e : (x - zx) * (x - zx) + (y - zy) * (y - zy) = ((x - sx) * (x - sx) + (y - sy) * (y - sy)) + 2 * ((x - sx) * (sx - zx) + (y - sy) * (sy - zy)) + ((sx - zx) * (sx - zx) + (sy - zy) * (sy - zy)) := by grind
    generalize hn : (x - sx) * (x - sx) + (y - sy) * (y - sy) = n at *
    generalize hf : (x - zx) * (x - zx) + (y - zy) * (y - zy) = f at *
    generalize hw : (sx - zx) * (sx - zx) + (sy - zy) * (sy - zy) = w at *
    generalize hv : (x - sx) * (sx - zx) + (y - sy) * (sy - zy) = v at *
    have n0 : 0 ≤ n := by
      rw [← hn]
      exact Rat.add_nonneg (sq_nn _) (sq_nn _)
    have a1 : f - n - k * k ≤ 2 * v := by grind
    have a2 : (f - n - k * k) * (f - n - k * k) ≤ (2 * v) * (2 * v) := by
      have := Rat.mul_nonneg (show 0 ≤ 2 * v - (f - n - k * k) by grind) (show 0 ≤ 2 * v + (f - n - k * k) by grind)
      grind
    have a3 := Rat.mul_nonneg n0 (show 0 ≤ k * k - w by grind)
    grind
  · grind
/-- .. from s outward it ends once -/
theorem star {k sx sy zx zy x y l : Rat} (hk : 0 ≤ k) (h : k * k < d2 sx sy zx zy) (l0 : 0 ≤ l) (l1 : l ≤ 1) (o : Over k sx sy zx zy x y) : Over k sx sy zx zy (sx + l * (x - sx)) (sy + l * (y - sy)) := by
  unfold Over Ov at *
  rcases o with ⟨_, h1, h2⟩ | ⟨q, _⟩
  · refine .inl ⟨hk, ?_⟩
    unfold d2 at *
    have en : (sx + l * (x - sx) - sx) * (sx + l * (x - sx) - sx) + (sy + l * (y - sy) - sy) * (sy + l * (y - sy) - sy) = l * l * ((x - sx) * (x - sx) + (y - sy) * (y - sy)) := by grind
    have ea : (sx + l * (x - sx) - zx) * (sx + l * (x - sx) - zx) + (sy + l * (y - sy) - zy) * (sy + l * (y - sy) - zy) - l * l * ((x - sx) * (x - sx) + (y - sy) * (y - sy)) - k * k =
        (1 - l) * ((sx - zx) * (sx - zx) + (sy - zy) * (sy - zy) - k * k) + l * ((x - zx) * (x - zx) + (y - zy) * (y - zy) - ((x - sx) * (x - sx) + (y - sy) * (y - sy)) - k * k) := by grind
    rw [en, ea]
    generalize (x - sx) * (x - sx) + (y - sy) * (y - sy) = n at *
    generalize (x - zx) * (x - zx) + (y - zy) * (y - zy) - n - k * k = a at *
    generalize hB : (sx - zx) * (sx - zx) + (sy - zy) * (sy - zy) - k * k = b at *
    have b0 : 0 < b := by grind
    have p1 := Rat.mul_nonneg (show 0 ≤ 1 - l by grind) (Rat.le_of_lt b0)
    have p2 := Rat.mul_nonneg l0 (Rat.le_of_lt h1)
    by_cases hl : l = 0
    · subst hl
      have := Rat.mul_pos b0 b0
      constructor <;> grind
    · have lp : 0 < l := by grind
      have p3 := Rat.mul_pos lp h1
      refine ⟨by grind, ?_⟩
      have p4 := Rat.mul_pos (Rat.mul_pos lp lp) (show 0 < a * a - 4 * (k * k) * n by grind)
      have p5 := Rat.mul_nonneg p1 p2
      have p6 := Rat.mul_nonneg p1 p1
      grind
  · grind
/-- what is not over, k < 0: a cone -/
def Cone (m b u v : Rat) : Prop := 0 ≤ b ∧ m * (u * u + v * v) ≤ b * b
theorem Cone.add {m b u v b' u' v' : Rat} (hm : 0 ≤ m) (h : Cone m b u v) (h' : Cone m b' u' v') : Cone m (b + b') (u + u') (v + v') := by
  obtain ⟨h1, h2⟩ := h
  obtain ⟨h3, h4⟩ := h'
  refine ⟨Rat.add_nonneg h1 h3, ?_⟩
  have key : m * (u * u' + v * v') ≤ b * b' := by
    refine abs_le_of_sq (Rat.mul_nonneg h1 h3) ?_
    have c := cs u v u' v'
    have n1 : 0 ≤ u * u + v * v := Rat.add_nonneg (sq_nn _) (sq_nn _)
    have n2 : 0 ≤ u' * u' + v' * v' := Rat.add_nonneg (sq_nn _) (sq_nn _)
    have q1 := Rat.mul_nonneg (Rat.mul_nonneg hm hm) (show 0 ≤ (u * u + v * v) * (u' * u' + v' * v') - (u * u' + v * v') * (u * u' + v * v') by grind)
    have q2 := Rat.mul_nonneg (show 0 ≤ b * b - m * (u * u + v * v) by grind) (Rat.mul_nonneg h3 h3)
    have q3 := Rat.mul_nonneg (Rat.mul_nonneg hm n1) (show 0 ≤ b' * b' - m * (u' * u' + v' * v') by grind)
    grind
  grind
theorem Cone.smul {m b u v c : Rat} (hc : 0 ≤ c) (h : Cone m b u v) : Cone m (c * b) (c * u) (c * v) := by
  obtain ⟨h1, h2⟩ := h
  refine ⟨Rat.mul_nonneg hc h1, ?_⟩
  have := Rat.mul_nonneg (Rat.mul_nonneg hc hc) (show 0 ≤ b * b - m * (u * u + v * v) by grind)
  grind
theorem cone_iff {k sx sy zx zy x y : Rat} (hk : k < 0) : ¬ Over k sx sy zx zy x y ↔ Cone (4 * (k * k)) (d2 x y sx sy - d2 x y zx zy - k * k) (x - zx) (y - zy) := by
  unfold Over Ov Cone
  have e : (x - zx) * (x - zx) + (y - zy) * (y - zy) = d2 x y zx zy := rfl
  rw [e]
  constructor
  · intro h
    exact ⟨by grind, by grind⟩
  · rintro ⟨h1, h2⟩ (⟨q, _⟩ | ⟨_, q | q⟩) <;> grind
/-! ### along an edge -/
/-- a + b t > 0 and c0 + c1 t + c2 t t > 0 -/
def At (a b c0 c1 c2 t : Rat) : Prop := 0 < a + b * t ∧ 0 < c0 + c1 * t + c2 * (t * t)
/-- where a + b t = 0 the other is not above -/
theorem edge {a b c0 c1 c2 t : Rat} (hz : ∀ z, a + b * z = 0 → c0 + c1 * z + c2 * (z * z) ≤ 0) (t0 : 0 ≤ t) (t1 : t ≤ 1) (h : At a b c0 c1 c2 t) (n0 : ¬ At a b c0 c1 c2 0) (n1 : ¬ At a b c0 c1 c2 1) :
    c2 ≠ 0 ∧ 0 < -c1 / (2 * c2) ∧ -c1 / (2 * c2) < 1 ∧ At a b c0 c1 c2 (-c1 / (2 * c2)) := by
  obtain ⟨h1, h2⟩ := h
  -- an end l below t, an end r above t, where the square is not above
  have lend : ∃ l, 0 ≤ l ∧ l < t ∧ 0 ≤ a + b * l ∧ c0 + c1 * l + c2 * (l * l) ≤ 0 := by
    by_cases ha : 0 < a
    · have q : ¬ (0 < c0) := fun q => n0 ⟨by grind, by grind⟩
      refine ⟨0, by grind, ?_, by grind, by grind⟩
      false_or_by_contra
      have e : t = 0 := by grind
      subst e
      grind
    · have tb : 0 < b * t := by grind
      have tp : 0 < t := by
        false_or_by_contra
        have e : t = 0 := by grind
        subst e
        grind
      have bp : 0 < b := by
        false_or_by_contra
        have := Rat.mul_nonneg (show 0 ≤ -b by grind) t0
        grind
      have bz : a + b * (-a / b) = 0 := by grind
      refine ⟨-a / b, ?_, ?_, by grind, hz _ bz⟩
      · false_or_by_contra
        have := Rat.mul_pos bp (show 0 < -(-a / b) by grind)
        grind
      · false_or_by_contra
        have := Rat.mul_nonneg (Rat.le_of_lt bp) (show 0 ≤ -a / b - t by grind)
        grind
  have rend : ∃ r, t < r ∧ r ≤ 1 ∧ 0 ≤ a + b * r ∧ c0 + c1 * r + c2 * (r * r) ≤ 0 := by
    by_cases ha : 0 < a + b
    · have q : ¬ (0 < c0 + c1 + c2) := fun q => n1 ⟨by grind, by grind⟩
      refine ⟨1, ?_, by grind, by grind, by grind⟩
      false_or_by_contra
      have e : t = 1 := by grind
      subst e
      grind
    · have tb : b * (1 - t) < 0 := by grind
      have bn : b < 0 := by
        false_or_by_contra
        have := Rat.mul_nonneg (show 0 ≤ b by grind) (show 0 ≤ 1 - t by grind)
        grind
      have bz : a + b * (-a / b) = 0 := by grind
      refine ⟨-a / b, ?_, ?_, by grind, hz _ bz⟩
      · false_or_by_contra
        have := Rat.mul_nonneg (show 0 ≤ -b by grind) (show 0 ≤ t - -a / b by grind)
        grind
      · false_or_by_contra
        have := Rat.mul_pos (show 0 < -b by grind) (show 0 < -a / b - 1 by grind)
        grind
  obtain ⟨l, l0, lt, al, fl⟩ := lend
  obtain ⟨r, tr, r1, ar, fr⟩ := rend
  have g1 : 0 < c1 + c2 * (t + l) := by
    false_or_by_contra
    have := Rat.mul_nonneg (show 0 ≤ t - l by grind) (show 0 ≤ -(c1 + c2 * (t + l)) by grind)
    grind
  have g2 : c1 + c2 * (r + t) < 0 := by
    false_or_by_contra
    have := Rat.mul_nonneg (show 0 ≤ r - t by grind) (show 0 ≤ c1 + c2 * (r + t) by grind)
    grind
  have cn : c2 < 0 := by
    false_or_by_contra
    have := Rat.mul_nonneg (show 0 ≤ c2 by grind) (show 0 ≤ r - l by grind)
    grind
  have eT : c1 + 2 * c2 * (-c1 / (2 * c2)) = 0 := by grind
  generalize -c1 / (2 * c2) = T at *
  have lT : l < T := by
    have q := Rat.mul_pos (show 0 < -c2 by grind) (show 0 < t - l by grind)
    false_or_by_contra
    have := Rat.mul_nonneg (show 0 ≤ -c2 by grind) (show 0 ≤ l - T by grind)
    grind
  have Tr : T < r := by
    have q := Rat.mul_pos (show 0 < -c2 by grind) (show 0 < r - t by grind)
    false_or_by_contra
    have := Rat.mul_nonneg (show 0 ≤ -c2 by grind) (show 0 ≤ T - r by grind)
    grind
  refine ⟨by grind, by grind, by grind, ?_, ?_⟩
  · have e1 : (r - l) * (a + b * T) = (r - T) * (a + b * l) + (T - l) * (a + b * r) := by grind
    have e2 : (r - l) * (a + b * t) = (r - t) * (a + b * l) + (t - l) * (a + b * r) := by grind
    have p0 := Rat.mul_pos (show 0 < r - l by grind) h1
    have p : 0 < (r - l) * (a + b * T) := by
      by_cases z : 0 < a + b * l
      · have q1 := Rat.mul_pos (show 0 < r - T by grind) z
        have q2 := Rat.mul_nonneg (show 0 ≤ T - l by grind) ar
        grind
      · have zl : a + b * l = 0 := by grind
        have zr : 0 < a + b * r := by
          false_or_by_contra
          have : a + b * r = 0 := by grind
          grind
        have q1 := Rat.mul_pos (show 0 < T - l by grind) zr
        rw [e1, zl, Rat.mul_zero, Rat.zero_add]
        exact q1
    false_or_by_contra
    have := Rat.mul_nonneg (show 0 ≤ r - l by grind) (show 0 ≤ -(a + b * T) by grind)
    grind
  · have q := Rat.mul_nonneg (show 0 ≤ -c2 by grind) (sq_nn (t - T))
    have e3 : (T - t) * (c1 + 2 * c2 * T) = 0 := by rw [eT, Rat.mul_zero]
    clear hz n0 n1
    grind
end Ar
end
section
set_option Elab.async false
set_option linter.all false
set_option autoImplicit false
set_option maxRecDepth 100000
/-! Plain law: polygons. -/
namespace Ar
abbrev Pt := Rat × Rat
/-- the turn from p's step to q's -/
def cr (p q : Pt) : Rat := p.1 * q.2 - p.2 * q.1
def sub (p q : Pt) : Pt := (p.1 - q.1, p.2 - q.2)
/-- how far x lies to the left of the edge e -/
def hh (e : Pt × Pt) (x : Pt) : Rat := cr (sub e.2 e.1) (sub x e.1)
def stp (e : Pt × Pt) : Pt := sub e.2 e.1
structure Valid (E : List (Pt × Pt)) : Prop where
  pre : ∀ e ∈ E, ∃ d ∈ E, d.2 = e.1 ∧ 0 < cr (stp d) (stp e)
  post : ∀ e ∈ E, ∃ d ∈ E, d.1 = e.2 ∧ 0 < cr (stp e) (stp d)
def Inside (E : List (Pt × Pt)) (x : Pt) : Prop := ∀ e ∈ E, 0 ≤ hh e x
/-- the point at l from s to x -/
def mid (s x : Pt) (l : Rat) : Pt := (s.1 + l * (x.1 - s.1), s.2 + l * (x.2 - s.2))
theorem hh_mid (e : Pt × Pt) (s x : Pt) (l : Rat) : hh e (mid s x l) = hh e s + l * (hh e x - hh e s) := by
  unfold hh mid cr sub
  grind
theorem ways {s x : Pt} : ∀ {E : List (Pt × Pt)}, (∀ e ∈ E, 0 ≤ hh e x) → ∃ l, 0 ≤ l ∧ l ≤ 1 ∧ (∀ e ∈ E, 0 ≤ hh e (mid s x l)) ∧ ((l = 0 ∧ ∀ e ∈ E, 0 ≤ hh e s) ∨ ∃ e ∈ E, hh e (mid s x l) = 0)
  | [], _ => ⟨0, by decide, by decide, (fun e h => nomatch h), Or.inl ⟨rfl, fun e h => nomatch h⟩⟩
  | d :: E, hx => by
    obtain ⟨l, l0, l1, ha, hb⟩ := ways (s := s) (x := x) (E := E) fun e h => hx e (List.mem_cons_of_mem _ h)
    have hd := hx d List.mem_cons_self
    by_cases q : 0 ≤ hh d (mid s x l)
    · refine ⟨l, l0, l1, fun e h => ?_, ?_⟩
      · rcases List.mem_cons.mp h with rfl | h
        · exact q
        · exact ha e h
      · rcases hb with ⟨rfl, hb⟩ | ⟨e, h, z⟩
        · refine .inl ⟨rfl, fun e h => ?_⟩
          rcases List.mem_cons.mp h with rfl | h
          · rw [hh_mid] at q
            grind
          · exact hb e h
        · exact .inr ⟨e, List.mem_cons_of_mem _ h, z⟩
    · rw [hh_mid] at q
      have as : hh d s < 0 := by
        false_or_by_contra
        have := Rat.mul_nonneg l0 hd
        have := Rat.mul_nonneg (show 0 ≤ 1 - l by grind) (show 0 ≤ hh d s by grind)
        grind
      have dp : 0 < hh d x - hh d s := by grind
      have ez : hh d s + (-hh d s / (hh d x - hh d s)) * (hh d x - hh d s) = 0 := by grind
      generalize -hh d s / (hh d x - hh d s) = m at *
      have lm : l < m := by
        false_or_by_contra
        have := Rat.mul_nonneg (show 0 ≤ l - m by grind) (Rat.le_of_lt dp)
        grind
      have m1 : m ≤ 1 := by
        false_or_by_contra
        have := Rat.mul_pos (show 0 < m - 1 by grind) dp
        grind
      refine ⟨m, by grind, m1, fun e h => ?_, .inr ⟨d, List.mem_cons_self, by rw [hh_mid]; exact ez⟩⟩
      rcases List.mem_cons.mp h with rfl | h
      · rw [hh_mid]
        grind
      · have h1 := ha e h
        have h2 := hx e (List.mem_cons_of_mem _ h)
        rw [hh_mid] at h1 ⊢
        -- between l and 1
        have p1 := Rat.mul_nonneg (show 0 ≤ 1 - m by grind) h1
        have p2 := Rat.mul_nonneg (show 0 ≤ m - l by grind) h2
        have id : (1 - l) * (hh e s + m * (hh e x - hh e s)) = (1 - m) * (hh e s + l * (hh e x - hh e s)) + (m - l) * hh e x := by grind
        false_or_by_contra
        have := Rat.mul_pos (show 0 < 1 - l by grind) (show 0 < -(hh e s + m * (hh e x - hh e s)) by grind)
        grind
/-- a point on an edge's line, left of the edges beside it, lies on the edge -/
theorem on_edge {E : List (Pt × Pt)} (V : Valid E) {e : Pt × Pt} (he : e ∈ E) {x : Pt} (hx : Inside E x) (z : hh e x = 0) : ∃ l, 0 ≤ l ∧ l ≤ 1 ∧ x = mid e.1 e.2 l := by
  obtain ⟨d, hd, d2, dt⟩ := V.pre e he
  obtain ⟨g, hg, g1, gt⟩ := V.post e he
  have hxd := hx d hd
  have hxg := hx g hg
  obtain ⟨⟨p1, p2⟩, ⟨q1, q2⟩⟩ := e
  obtain ⟨⟨r1, r2⟩, ⟨r3, r4⟩⟩ := d
  obtain ⟨⟨u1, u2⟩, ⟨u3, u4⟩⟩ := g
  obtain ⟨x1, x2⟩ := x
  simp only [Prod.mk.injEq] at d2 g1
  obtain ⟨rfl, rfl⟩ := d2
  obtain ⟨rfl, rfl⟩ := g1
  unfold hh stp cr sub at *
  simp only at *
  generalize hD : (r3 - r1) * (u2 - r4) - (r4 - r2) * (u1 - r3) = D at *
  have e1 : D * (x1 - r3) = ((r3 - r1) * (x2 - r4) - (r4 - r2) * (x1 - r3)) * (u1 - r3) := by grind
  have e2 : D * (x2 - r4) = ((r3 - r1) * (x2 - r4) - (r4 - r2) * (x1 - r3)) * (u2 - r4) := by grind
  generalize hC : (r3 - r1) * (x2 - r4) - (r4 - r2) * (x1 - r3) = C at *
  have hC0 : 0 ≤ C := by
    have : (r3 - r1) * (x2 - r2) - (r4 - r2) * (x1 - r1) = C := by grind
    grind
  have ez : D * (C / D) = C := by grind
  generalize hl : C / D = l at *
  have f1 : x1 - r3 = l * (u1 - r3) := by
    have : D * (x1 - r3 - l * (u1 - r3)) = 0 := by grind
    rcases Rat.mul_eq_zero.mp this with h | h
    · grind
    · grind
  have f2 : x2 - r4 = l * (u2 - r4) := by
    have : D * (x2 - r4 - l * (u2 - r4)) = 0 := by grind
    rcases Rat.mul_eq_zero.mp this with h | h
    · grind
    · grind
  refine ⟨l, ?_, ?_, ?_⟩
  · false_or_by_contra
    have := Rat.mul_pos dt (show 0 < -l by grind)
    grind
  · have f3 : x1 - u1 = (l - 1) * (u1 - r3) := by grind
    have f4 : x2 - u2 = (l - 1) * (u2 - r4) := by grind
    rw [f3, f4] at hxg
    false_or_by_contra
    have := Rat.mul_pos gt (show 0 < l - 1 by grind)
    clear hl hC hD e1 e2 f1 f2 f3 f4 z
    grind
  · unfold mid
    simp only [Prod.mk.injEq]
    constructor <;> grind
end Ar
end
section
set_option Elab.async false
set_option linter.all false
set_option autoImplicit false
set_option maxRecDepth 100000
/-! Plain law: nobody in the polygon is over. -/
namespace Ar
def ea (k : Rat) (s z : Pt) (e : Pt × Pt) : Rat := d2 e.1.1 e.1.2 z.1 z.2 - d2 e.1.1 e.1.2 s.1 s.2 - k * k
def eb (s z : Pt) (e : Pt × Pt) : Rat := 2 * ((e.2.1 - e.1.1) * (s.1 - z.1) + (e.2.2 - e.1.2) * (s.2 - z.2))
def en1 (s : Pt) (e : Pt × Pt) : Rat := 2 * ((e.1.1 - s.1) * (e.2.1 - e.1.1) + (e.1.2 - s.2) * (e.2.2 - e.1.2))
def en2 (e : Pt × Pt) : Rat := (e.2.1 - e.1.1) * (e.2.1 - e.1.1) + (e.2.2 - e.1.2) * (e.2.2 - e.1.2)
def e0 (k : Rat) (s z : Pt) (e : Pt × Pt) : Rat := ea k s z e * ea k s z e - 4 * (k * k) * d2 e.1.1 e.1.2 s.1 s.2
def e1 (k : Rat) (s z : Pt) (e : Pt × Pt) : Rat := 2 * (ea k s z e * eb s z e) - 4 * (k * k) * en1 s e
def e2 (k : Rat) (s z : Pt) (e : Pt × Pt) : Rat := eb s z e * eb s z e - 4 * (k * k) * en2 e
def OverP (k : Rat) (s z x : Pt) : Prop := Over k s.1 s.2 z.1 z.2 x.1 x.2
theorem over_mid {k : Rat} (hk : 0 ≤ k) (s z : Pt) (e : Pt × Pt) (t : Rat) : OverP k s z (mid e.1 e.2 t) ↔ At (ea k s z e) (eb s z e) (e0 k s z e) (e1 k s z e) (e2 k s z e) t := by
  obtain ⟨⟨p1, p2⟩, ⟨q1, q2⟩⟩ := e
  obtain ⟨s1, s2⟩ := s
  obtain ⟨z1, z2⟩ := z
  have ha : ea k (s1, s2) (z1, z2) ((p1, p2), q1, q2) + eb (s1, s2) (z1, z2) ((p1, p2), q1, q2) * t = d2 (p1 + t * (q1 - p1)) (p2 + t * (q2 - p2)) z1 z2 - d2 (p1 + t * (q1 - p1)) (p2 + t * (q2 - p2)) s1 s2 - k * k := by
    unfold ea eb d2
    grind
  have hn : d2 p1 p2 s1 s2 + en1 (s1, s2) ((p1, p2), q1, q2) * t + en2 ((p1, p2), q1, q2) * (t * t) = d2 (p1 + t * (q1 - p1)) (p2 + t * (q2 - p2)) s1 s2 := by
    unfold en1 en2 d2
    grind
  unfold OverP Over Ov At e0 e1 e2 mid
  simp only
  rw [← hn] at ha
  rw [← hn]
  constructor
  · rintro (⟨_, h1, h2⟩ | ⟨q, _⟩)
    · rw [← ha] at h1 h2
      refine ⟨h1, ?_⟩
      grind
    · grind
  · rintro ⟨h1, h2⟩
    refine .inl ⟨hk, ?_⟩
    rw [← ha]
    refine ⟨h1, ?_⟩
    grind
theorem mid0 (p q : Pt) : mid p q 0 = p := by
  unfold mid
  ext <;> simp <;> grind
theorem mid1 (p q : Pt) : mid p q 1 = q := by
  unfold mid
  ext <;> simp <;> grind
theorem let_inside {E : List (Pt × Pt)} (V : Valid E) {k : Rat} {s z : Pt} (hk : 0 ≤ k) (hc : ∀ e ∈ E, ¬ OverP k s z e.1 ∧ ¬ OverP k s z e.2) (hs : d2 s.1 s.2 z.1 z.2 ≤ k * k ∨ ¬ Inside E s)
    (ht : ∀ e ∈ E, e2 k s z e ≠ 0 → 0 < -e1 k s z e / (2 * e2 k s z e) → -e1 k s z e / (2 * e2 k s z e) < 1 → ¬ OverP k s z (mid e.1 e.2 (-e1 k s z e / (2 * e2 k s z e)))) {x : Pt} (hx : Inside E x) : ¬ OverP k s z x := by
  intro o
  by_cases hw : d2 s.1 s.2 z.1 z.2 ≤ k * k
  · exact never hk hw o
  · have hs' := hs.resolve_left hw
    obtain ⟨l, l0, l1, hin, ⟨rfl, h⟩ | ⟨e, he, hz⟩⟩ := ways (s := s) (x := x) hx
    · exact hs' h
    · have om : OverP k s z (mid s x l) := star hk (by grind) l0 l1 o
      obtain ⟨t, t0, t1, et⟩ := on_edge V he hin hz
      rw [et, over_mid hk] at om
      have n0 := (hc e he).1
      have n1 := (hc e he).2
      rw [← mid0 e.1 e.2, over_mid hk] at n0
      rw [← mid1 e.1 e.2, over_mid hk] at n1
      have hzz : ∀ y, ea k s z e + eb s z e * y = 0 → e0 k s z e + e1 k s z e * y + e2 k s z e * (y * y) ≤ 0 := fun y hy => by
        have nn : 0 ≤ d2 e.1.1 e.1.2 s.1 s.2 + en1 s e * y + en2 e * (y * y) := by
          have q := d2_nn (e.1.1 + y * (e.2.1 - e.1.1)) (e.1.2 + y * (e.2.2 - e.1.2)) s.1 s.2
          have : d2 e.1.1 e.1.2 s.1 s.2 + en1 s e * y + en2 e * (y * y) = d2 (e.1.1 + y * (e.2.1 - e.1.1)) (e.1.2 + y * (e.2.2 - e.1.2)) s.1 s.2 := by
            unfold en1 en2 d2
            grind
          rw [this]
          exact q
        have p := Rat.mul_nonneg (sq_nn k) nn
        unfold e0 e1 e2
        have sqz : (ea k s z e + eb s z e * y) * (ea k s z e + eb s z e * y) = 0 := by rw [hy, Rat.mul_zero]
        grind
      obtain ⟨c2, T0, T1, aT⟩ := edge hzz t0 t1 om n0 n1
      exact ht e he c2 T0 T1 ((over_mid hk ..).mpr aT)
/-! ### points between -/
def sW : List (Rat × Pt) → Rat
  | [] => 0
  | a :: r => a.1 + sW r
def sX : List (Rat × Pt) → Rat
  | [] => 0
  | a :: r => a.1 * a.2.1 + sX r
def sY : List (Rat × Pt) → Rat
  | [] => 0
  | a :: r => a.1 * a.2.2 + sY r
theorem hh_sum (e : Pt × Pt) : ∀ L : List (Rat × Pt), (∀ a ∈ L, 0 ≤ a.1 ∧ 0 ≤ hh e a.2) → 0 ≤ (e.2.1 - e.1.1) * (sY L - sW L * e.1.2) - (e.2.2 - e.1.2) * (sX L - sW L * e.1.1)
  | [], _ => by
    unfold sW sX sY
    grind
  | a :: r, h => by
    have ih := hh_sum e r fun b hb => h b (List.mem_cons_of_mem _ hb)
    obtain ⟨h1, h2⟩ := h a List.mem_cons_self
    have := Rat.mul_nonneg h1 h2
    unfold hh cr sub at this
    simp only at this
    simp only [sW, sX, sY]
    grind
theorem inside_comb {E : List (Pt × Pt)} {L : List (Rat × Pt)} {x : Pt} (h : ∀ a ∈ L, 0 ≤ a.1 ∧ Inside E a.2) (w : 0 < sW L) (hx : sW L * x.1 = sX L) (hy : sW L * x.2 = sY L) : Inside E x := by
  intro e he
  have q := hh_sum e L fun a ha => ⟨(h a ha).1, (h a ha).2 e he⟩
  rw [← hx, ← hy] at q
  have id : (e.2.1 - e.1.1) * (sW L * x.2 - sW L * e.1.2) - (e.2.2 - e.1.2) * (sW L * x.1 - sW L * e.1.1) = sW L * hh e x := by
    unfold hh cr sub
    grind
  rw [id] at q
  false_or_by_contra
  have := Rat.mul_pos w (show 0 < -hh e x by grind)
  grind
theorem cone_sum {k : Rat} {s z : Pt} (hk : k < 0) : ∀ L : List (Rat × Pt), (∀ a ∈ L, 0 ≤ a.1 ∧ ¬ OverP k s z a.2) →
    Cone (4 * (k * k)) (sW L * (s.1 * s.1 + s.2 * s.2 - z.1 * z.1 - z.2 * z.2 - k * k) - 2 * (sX L * (s.1 - z.1) + sY L * (s.2 - z.2))) (sX L - sW L * z.1) (sY L - sW L * z.2)
  | [], _ => by
    unfold Cone sW sX sY
    constructor <;> grind
  | a :: r, h => by
    have ih := cone_sum hk r fun b hb => h b (List.mem_cons_of_mem _ hb)
    obtain ⟨h1, h2⟩ := h a List.mem_cons_self
    have c := Cone.smul h1 ((cone_iff hk).mp h2)
    have m0 := sq_nn k
    have q := Cone.add (show 0 ≤ 4 * (k * k) by grind) c ih
    have f1 : a.1 * (d2 a.2.1 a.2.2 s.1 s.2 - d2 a.2.1 a.2.2 z.1 z.2 - k * k) + (sW r * (s.1 * s.1 + s.2 * s.2 - z.1 * z.1 - z.2 * z.2 - k * k) - 2 * (sX r * (s.1 - z.1) + sY r * (s.2 - z.2))) =
        sW (a :: r) * (s.1 * s.1 + s.2 * s.2 - z.1 * z.1 - z.2 * z.2 - k * k) - 2 * (sX (a :: r) * (s.1 - z.1) + sY (a :: r) * (s.2 - z.2)) := by
      unfold d2
      simp only [sW, sX, sY]
      grind
    have f2 : a.1 * (a.2.1 - z.1) + (sX r - sW r * z.1) = sX (a :: r) - sW (a :: r) * z.1 := by
      simp only [sW, sX]
      grind
    have f3 : a.1 * (a.2.2 - z.2) + (sY r - sW r * z.2) = sY (a :: r) - sW (a :: r) * z.2 := by
      simp only [sW, sY]
      grind
    rw [f1, f2, f3] at q
    exact q
theorem let_comb {k : Rat} {s z : Pt} (hk : k < 0) {L : List (Rat × Pt)} {x : Pt} (h : ∀ a ∈ L, 0 ≤ a.1 ∧ ¬ OverP k s z a.2) (w : 0 < sW L) (hx : sW L * x.1 = sX L) (hy : sW L * x.2 = sY L) : ¬ OverP k s z x := by
  have c := cone_sum hk L h
  have iw : 0 ≤ (sW L)⁻¹ := by
    false_or_by_contra
    have := Rat.mul_pos w (show 0 < -(sW L)⁻¹ by grind)
    grind
  have q := Cone.smul iw c
  rw [← hx, ← hy] at q
  refine (cone_iff hk).mpr ?_
  have f1 : (sW L)⁻¹ * (sW L * (s.1 * s.1 + s.2 * s.2 - z.1 * z.1 - z.2 * z.2 - k * k) - 2 * (sW L * x.1 * (s.1 - z.1) + sW L * x.2 * (s.2 - z.2))) = d2 x.1 x.2 s.1 s.2 - d2 x.1 x.2 z.1 z.2 - k * k := by
    unfold d2
    grind
  have f2 : (sW L)⁻¹ * (sW L * x.1 - sW L * z.1) = x.1 - z.1 := by grind
  have f3 : (sW L)⁻¹ * (sW L * x.2 - sW L * z.2) = x.2 - z.2 := by grind
  rw [f1, f2, f3] at q
  exact q
end Ar
end
section
set_option Elab.async false
set_option linter.all false
set_option autoImplicit false
set_option maxRecDepth 100000
namespace K29
open PySem PySem.Spec PyProof.Rows L2 Ev Ar
def rD (q : Rat) : Dt := .tuple [.int q.num, .int q.den]
theorem mul_ok {a b : Int} {m n : Nat} (ha : a.natAbs < 2 ^ m) (hb : b.natAbs < 2 ^ n) (h : m + n < 100000000) : mulOk a b = true := by
  have l2 : ∀ (x : Int) (m : Nat), x.natAbs < 2 ^ m → x.natAbs.log2 ≤ m := fun x m h => by
    by_cases hx : x.natAbs = 0
    · rw [hx]
      simp
    · have := (Nat.log2_lt hx).mpr h
      omega
  unfold mulOk
  rw [decide_eq_true_eq]
  have := l2 a m ha
  have := l2 b n hb
  exact .inr (.inr (by omega))
theorem div_ok {b : Int} {m : Nat} (h0 : b ≠ 0) (hb : b.natAbs < 2 ^ m) (hm : m ≤ 9000) : divOk b = true := by
  unfold divOk
  rw [decide_eq_true_eq]
  refine ⟨h0, ?_⟩
  have hx : b.natAbs ≠ 0 := Int.natAbs_ne_zero.mpr h0
  have := (Nat.log2_lt hx).mpr hb
  omega
theorem fMul_ok {a b : Int} (h : mulOk a b = true) : fMul (.int a) (.int b) = some (.int (a * b)) := if_pos h
theorem fDiv_ok {a b : Int} (h : divOk b = true) : fDiv (.int a) (.int b) = some (.int (a.fdiv b)) := if_pos h
theorem fMod_ok {a b : Int} (h : b ≠ 0) : fMod (.int a) (.int b) = some (.int (a.fmod b)) := if_pos h
theorem ix0 (a b : Dt) : fIx (.tuple [a, b]) (.int 0) = some a := rfl
theorem ix1 (a b : Dt) : fIx (.tuple [a, b]) (.int 1) = some b := rfl
theorem rx0 (p : Rat) : fIx (rD p) (.int 0) = some (.int p.num) := rfl
theorem rx1 (p : Rat) : fIx (rD p) (.int 1) = some (.int p.den) := rfl
theorem jx0 (a b c : Dt) : fIx (.tuple [a, b, c]) (.int 0) = some a := rfl
theorem jx1 (a b c : Dt) : fIx (.tuple [a, b, c]) (.int 1) = some b := rfl
theorem jx2 (a b c : Dt) : fIx (.tuple [a, b, c]) (.int 2) = some c := rfl
/-- small factors -/
theorem mul_sm {a b : Int} (h : a.natAbs < 18446744073709551616) : mulOk a b = true := decide_eq_true (.inl h)
theorem mul_sm2 {a b : Int} (h : b.natAbs < 18446744073709551616) : mulOk a b = true := decide_eq_true (.inr (.inl h))
theorem F_ratio_eq {a b : Int} {m : Nat} (hb : b ≠ 0) (sz : b.natAbs < 2 ^ m) (hm : m ≤ 8999) : F_ratio [.int a, .int b] = some (rD (Rat.divInt a b)) := by
  have hg : 0 < Nat.gcd a.natAbs b.natAbs := Nat.gcd_pos_of_pos_right _ (Int.natAbs_pos.mpr hb)
  have hgl : Nat.gcd a.natAbs b.natAbs < 2 ^ m := Nat.lt_of_le_of_lt (Nat.gcd_le_right _ (Int.natAbs_pos.mpr hb)) sz
  have hr := ratio_parts (a := a) hb
  unfold F_ratio g_ratio
  by_cases h : 0 < b
  · rw [if_pos h] at hr
    have hd : divOk ((Nat.gcd a.natAbs b.natAbs : Nat) : Int) = true := div_ok (m := m) (by omega) (by simpa using hgl) (by omega)
    simp only [runF, runJ, r0, outD, sSeq, sNil, sRet, sRetN, sPass, sIf, sSet, sOwn, sPar, sAsg, sApp, sExt, sEx, sFor, sFrz, sSetI, loopS, putR, Cv.sl, pNil, pD, pO, mVar, mOwn, mC, mBin, mUn, mTst, asB, mIf, mNot, mAnd, mOr, mAndV, mOrV, mNotV, mNil, mCons, mTup, mLst, mCh, mIsN, mNotN, isN, mL, mDisp, mCall, mSl, mOn, mOs, slD, mRow, rowD, sqD, mZip, mEnum, mLc, lcS, wipeR, mYes, mLc2E, lc2E, gNm, gTp, gsCons, gsNil, gTuple, gList, gAll, bools, fAdd, fSub, fCmp, fNeg, List.map, List.set, Option.bind_some, Option.map_some, Option.bind_none, Option.map_none, List.getElem?_cons_zero, List.getElem?_cons_succ, List.length_cons, List.length_nil, List.length_map, List.append_eq, List.nil_append, List.cons_append, List.replicate, Nat.reduceSub, Nat.reduceAdd, Nat.reduceLeDiff, Nat.reduceLT, lineN, Nat.zero_le, Nat.zero_add, reduceIte, if_true, if_false, Bool.false_eq_true, Bool.not_true, Bool.not_false, List.zipWith, List.zipIdx, List.zipIdx_cons, List.zipIdx_nil, gGcd, h, decide_true, if_true, fDiv_ok hd, hr.1, hr.2]
    rfl
  · rw [if_neg h] at hr
    have hd : divOk (-((Nat.gcd a.natAbs b.natAbs : Nat) : Int)) = true := div_ok (m := m) (by omega) (by simpa using hgl) (by omega)
    simp only [runF, runJ, r0, outD, sSeq, sNil, sRet, sRetN, sPass, sIf, sSet, sOwn, sPar, sAsg, sApp, sExt, sEx, sFor, sFrz, sSetI, loopS, putR, Cv.sl, pNil, pD, pO, mVar, mOwn, mC, mBin, mUn, mTst, asB, mIf, mNot, mAnd, mOr, mAndV, mOrV, mNotV, mNil, mCons, mTup, mLst, mCh, mIsN, mNotN, isN, mL, mDisp, mCall, mSl, mOn, mOs, slD, mRow, rowD, sqD, mZip, mEnum, mLc, lcS, wipeR, mYes, mLc2E, lc2E, gNm, gTp, gsCons, gsNil, gTuple, gList, gAll, bools, fAdd, fSub, fCmp, fNeg, List.map, List.set, Option.bind_some, Option.map_some, Option.bind_none, Option.map_none, List.getElem?_cons_zero, List.getElem?_cons_succ, List.length_cons, List.length_nil, List.length_map, List.append_eq, List.nil_append, List.cons_append, List.replicate, Nat.reduceSub, Nat.reduceAdd, Nat.reduceLeDiff, Nat.reduceLT, lineN, Nat.zero_le, Nat.zero_add, reduceIte, if_true, if_false, Bool.false_eq_true, Bool.not_true, Bool.not_false, List.zipWith, List.zipIdx, List.zipIdx_cons, List.zipIdx_nil, gGcd, h, decide_false, Bool.false_eq_true, if_false, fDiv_ok hd, hr.1, hr.2]
    rfl
section
variable {p q : Rat} {m n : Nat}
theorem dn {n : Nat} {p : Rat} (h : Sz n p) : (p.den : Int).natAbs < 2 ^ n := by simpa using h.2
theorem den_sz (hp : Sz m p) (hq : Sz n q) : ((p.den : Int) * q.den).natAbs < 2 ^ (m + n) := by
  rw [Int.natAbs_mul]
  exact pow2 (dn hp) (dn hq)
theorem F_added_eq (hp : Sz m p) (hq : Sz n q) (h : m + n ≤ 8999) : F_added [rD p, rD q] = some (rD (p + q)) := by
  have m1 := mul_ok hp.1 (dn hq) (by omega)
  have m2 := mul_ok hq.1 (dn hp) (by omega)
  have m3 := mul_ok (dn hp) (dn hq) (by omega)
  have hr := F_ratio_eq (a := p.num * q.den + q.num * p.den) (dens_ne p q) (den_sz hp hq) h
  unfold F_added g_added
  simp only [runF, runJ, r0, outD, sSeq, sNil, sRet, sRetN, sPass, sIf, sSet, sOwn, sPar, sAsg, sApp, sExt, sEx, sFor, sFrz, sSetI, loopS, putR, Cv.sl, pNil, pD, pO, mVar, mOwn, mC, mBin, mUn, mTst, asB, mIf, mNot, mAnd, mOr, mAndV, mOrV, mNotV, mNil, mCons, mTup, mLst, mCh, mIsN, mNotN, isN, mL, mDisp, mCall, mSl, mOn, mOs, slD, mRow, rowD, sqD, mZip, mEnum, mLc, lcS, wipeR, mYes, mLc2E, lc2E, gNm, gTp, gsCons, gsNil, gTuple, gList, gAll, bools, fAdd, fSub, fCmp, fNeg, List.map, List.set, Option.bind_some, Option.map_some, Option.bind_none, Option.map_none, List.getElem?_cons_zero, List.getElem?_cons_succ, List.length_cons, List.length_nil, List.length_map, List.append_eq, List.nil_append, List.cons_append, List.replicate, Nat.reduceSub, Nat.reduceAdd, Nat.reduceLeDiff, Nat.reduceLT, lineN, Nat.zero_le, Nat.zero_add, reduceIte, if_true, if_false, Bool.false_eq_true, Bool.not_true, Bool.not_false, List.zipWith, List.zipIdx, List.zipIdx_cons, List.zipIdx_nil, rx0, rx1, fMul_ok m1, fMul_ok m2, fMul_ok m3, hr, add_eq p q]
theorem F_less_by_eq (hp : Sz m p) (hq : Sz n q) (h : m + n ≤ 8999) : F_less_by [rD p, rD q] = some (rD (p - q)) := by
  have m1 := mul_ok hp.1 (dn hq) (by omega)
  have m2 := mul_ok hq.1 (dn hp) (by omega)
  have m3 := mul_ok (dn hp) (dn hq) (by omega)
  have hr := F_ratio_eq (a := p.num * q.den - q.num * p.den) (dens_ne p q) (den_sz hp hq) h
  unfold F_less_by g_less_by
  simp only [runF, runJ, r0, outD, sSeq, sNil, sRet, sRetN, sPass, sIf, sSet, sOwn, sPar, sAsg, sApp, sExt, sEx, sFor, sFrz, sSetI, loopS, putR, Cv.sl, pNil, pD, pO, mVar, mOwn, mC, mBin, mUn, mTst, asB, mIf, mNot, mAnd, mOr, mAndV, mOrV, mNotV, mNil, mCons, mTup, mLst, mCh, mIsN, mNotN, isN, mL, mDisp, mCall, mSl, mOn, mOs, slD, mRow, rowD, sqD, mZip, mEnum, mLc, lcS, wipeR, mYes, mLc2E, lc2E, gNm, gTp, gsCons, gsNil, gTuple, gList, gAll, bools, fAdd, fSub, fCmp, fNeg, List.map, List.set, Option.bind_some, Option.map_some, Option.bind_none, Option.map_none, List.getElem?_cons_zero, List.getElem?_cons_succ, List.length_cons, List.length_nil, List.length_map, List.append_eq, List.nil_append, List.cons_append, List.replicate, Nat.reduceSub, Nat.reduceAdd, Nat.reduceLeDiff, Nat.reduceLT, lineN, Nat.zero_le, Nat.zero_add, reduceIte, if_true, if_false, Bool.false_eq_true, Bool.not_true, Bool.not_false, List.zipWith, List.zipIdx, List.zipIdx_cons, List.zipIdx_nil, rx0, rx1, fMul_ok m1, fMul_ok m2, fMul_ok m3, hr, sub_eq p q]
theorem F_product_eq (hp : Sz m p) (hq : Sz n q) (h : m + n ≤ 8999) : F_product [rD p, rD q] = some (rD (p * q)) := by
  have m1 := mul_ok hp.1 hq.1 (by omega)
  have m3 := mul_ok (dn hp) (dn hq) (by omega)
  have hr := F_ratio_eq (a := p.num * q.num) (dens_ne p q) (den_sz hp hq) h
  unfold F_product g_product
  simp only [runF, runJ, r0, outD, sSeq, sNil, sRet, sRetN, sPass, sIf, sSet, sOwn, sPar, sAsg, sApp, sExt, sEx, sFor, sFrz, sSetI, loopS, putR, Cv.sl, pNil, pD, pO, mVar, mOwn, mC, mBin, mUn, mTst, asB, mIf, mNot, mAnd, mOr, mAndV, mOrV, mNotV, mNil, mCons, mTup, mLst, mCh, mIsN, mNotN, isN, mL, mDisp, mCall, mSl, mOn, mOs, slD, mRow, rowD, sqD, mZip, mEnum, mLc, lcS, wipeR, mYes, mLc2E, lc2E, gNm, gTp, gsCons, gsNil, gTuple, gList, gAll, bools, fAdd, fSub, fCmp, fNeg, List.map, List.set, Option.bind_some, Option.map_some, Option.bind_none, Option.map_none, List.getElem?_cons_zero, List.getElem?_cons_succ, List.length_cons, List.length_nil, List.length_map, List.append_eq, List.nil_append, List.cons_append, List.replicate, Nat.reduceSub, Nat.reduceAdd, Nat.reduceLeDiff, Nat.reduceLT, lineN, Nat.zero_le, Nat.zero_add, reduceIte, if_true, if_false, Bool.false_eq_true, Bool.not_true, Bool.not_false, List.zipWith, List.zipIdx, List.zipIdx_cons, List.zipIdx_nil, rx0, rx1, fMul_ok m1, fMul_ok m3, hr, mul_eq p q]
theorem F_quotient_eq (hp : Sz m p) (hq : Sz n q) (h0 : q ≠ 0) (h : m + n ≤ 8999) : F_quotient [rD p, rD q] = some (rD (p / q)) := by
  have m1 := mul_ok hp.1 (dn hq) (by omega)
  have m3 := mul_ok (dn hp) hq.1 (by omega)
  have qn : q.num ≠ 0 := fun e => h0 (Rat.num_eq_zero.mp e)
  have dz : (p.den : Int) * q.num ≠ 0 := Int.mul_ne_zero (by have := den_pos p; omega) qn
  have hr := F_ratio_eq (m := m + n) (a := p.num * q.den) dz (by
    rw [Int.natAbs_mul]
    exact pow2 (dn hp) hq.1) h
  have eq : Rat.divInt (p.num * q.den) (p.den * q.num) = p / q := by
    rw [← Rat.divInt_mul_divInt, Rat.num_divInt_den, Rat.div_def, Rat.inv_def]
  rw [eq] at hr
  unfold F_quotient g_quotient
  simp only [runF, runJ, r0, outD, sSeq, sNil, sRet, sRetN, sPass, sIf, sSet, sOwn, sPar, sAsg, sApp, sExt, sEx, sFor, sFrz, sSetI, loopS, putR, Cv.sl, pNil, pD, pO, mVar, mOwn, mC, mBin, mUn, mTst, asB, mIf, mNot, mAnd, mOr, mAndV, mOrV, mNotV, mNil, mCons, mTup, mLst, mCh, mIsN, mNotN, isN, mL, mDisp, mCall, mSl, mOn, mOs, slD, mRow, rowD, sqD, mZip, mEnum, mLc, lcS, wipeR, mYes, mLc2E, lc2E, gNm, gTp, gsCons, gsNil, gTuple, gList, gAll, bools, fAdd, fSub, fCmp, fNeg, List.map, List.set, Option.bind_some, Option.map_some, Option.bind_none, Option.map_none, List.getElem?_cons_zero, List.getElem?_cons_succ, List.length_cons, List.length_nil, List.length_map, List.append_eq, List.nil_append, List.cons_append, List.replicate, Nat.reduceSub, Nat.reduceAdd, Nat.reduceLeDiff, Nat.reduceLT, lineN, Nat.zero_le, Nat.zero_add, reduceIte, if_true, if_false, Bool.false_eq_true, Bool.not_true, Bool.not_false, List.zipWith, List.zipIdx, List.zipIdx_cons, List.zipIdx_nil, rx0, rx1, fMul_ok m1, fMul_ok m3]
  rw [hr]
  rfl
theorem F_negative_eq : F_negative [rD p] = some (rD (-p)) := by
  unfold F_negative g_negative
  simp only [runF, runJ, r0, outD, sSeq, sNil, sRet, sRetN, sPass, sIf, sSet, sOwn, sPar, sAsg, sApp, sExt, sEx, sFor, sFrz, sSetI, loopS, putR, Cv.sl, pNil, pD, pO, mVar, mOwn, mC, mBin, mUn, mTst, asB, mIf, mNot, mAnd, mOr, mAndV, mOrV, mNotV, mNil, mCons, mTup, mLst, mCh, mIsN, mNotN, isN, mL, mDisp, mCall, mSl, mOn, mOs, slD, mRow, rowD, sqD, mZip, mEnum, mLc, lcS, wipeR, mYes, mLc2E, lc2E, gNm, gTp, gsCons, gsNil, gTuple, gList, gAll, bools, fAdd, fSub, fCmp, fNeg, List.map, List.set, Option.bind_some, Option.map_some, Option.bind_none, Option.map_none, List.getElem?_cons_zero, List.getElem?_cons_succ, List.length_cons, List.length_nil, List.length_map, List.append_eq, List.nil_append, List.cons_append, List.replicate, Nat.reduceSub, Nat.reduceAdd, Nat.reduceLeDiff, Nat.reduceLT, lineN, Nat.zero_le, Nat.zero_add, reduceIte, if_true, if_false, Bool.false_eq_true, Bool.not_true, Bool.not_false, List.zipWith, List.zipIdx, List.zipIdx_cons, List.zipIdx_nil, rx0, rx1, Rat.neg_num, Rat.neg_den]
  rfl
theorem F_is_less_eq (hp : Sz m p) (hq : Sz n q) (h : m + n ≤ 8999) : F_is_less [rD p, rD q] = some (.bool (decide (p < q))) := by
  have m1 := mul_ok hp.1 (dn hq) (by omega)
  have m2 := mul_ok hq.1 (dn hp) (by omega)
  unfold F_is_less g_is_less
  simp only [runF, runJ, r0, outD, sSeq, sNil, sRet, sRetN, sPass, sIf, sSet, sOwn, sPar, sAsg, sApp, sExt, sEx, sFor, sFrz, sSetI, loopS, putR, Cv.sl, pNil, pD, pO, mVar, mOwn, mC, mBin, mUn, mTst, asB, mIf, mNot, mAnd, mOr, mAndV, mOrV, mNotV, mNil, mCons, mTup, mLst, mCh, mIsN, mNotN, isN, mL, mDisp, mCall, mSl, mOn, mOs, slD, mRow, rowD, sqD, mZip, mEnum, mLc, lcS, wipeR, mYes, mLc2E, lc2E, gNm, gTp, gsCons, gsNil, gTuple, gList, gAll, bools, fAdd, fSub, fCmp, fNeg, List.map, List.set, Option.bind_some, Option.map_some, Option.bind_none, Option.map_none, List.getElem?_cons_zero, List.getElem?_cons_succ, List.length_cons, List.length_nil, List.length_map, List.append_eq, List.nil_append, List.cons_append, List.replicate, Nat.reduceSub, Nat.reduceAdd, Nat.reduceLeDiff, Nat.reduceLT, lineN, Nat.zero_le, Nat.zero_add, reduceIte, if_true, if_false, Bool.false_eq_true, Bool.not_true, Bool.not_false, List.zipWith, List.zipIdx, List.zipIdx_cons, List.zipIdx_nil, rx0, rx1, fMul_ok m1, fMul_ok m2, Rat.lt_iff]
theorem num_sign : (0 < p.num ↔ 0 < p) ∧ (p.num < 0 ↔ p < 0) := by
  have h1 : 0 ≤ p.num ↔ 0 ≤ p := Rat.num_nonneg
  have h2 : p.num = 0 ↔ p = 0 := Rat.num_eq_zero
  constructor
  · constructor
    · intro h
      have := h1.mp (by omega)
      have n : p ≠ 0 := fun e => by have := h2.mpr e; omega
      grind
    · intro h
      have := h1.mpr (by grind)
      have n : p.num ≠ 0 := fun e => by have := h2.mp e; grind
      omega
  · constructor
    · intro h
      false_or_by_contra
      have := h1.mpr (by grind)
      omega
    · intro h
      false_or_by_contra
      have := h1.mp (by omega)
      grind
theorem F_sign_of_ratio_eq : F_sign_of_ratio [rD p] = some (.int (sg p)) := by
  have hs := num_sign (p := p)
  unfold F_sign_of_ratio g_sign_of_ratio
  simp only [runF, runJ, r0, outD, sSeq, sNil, sRet, sRetN, sPass, sIf, sSet, sOwn, sPar, sAsg, sApp, sExt, sEx, sFor, sFrz, sSetI, loopS, putR, Cv.sl, pNil, pD, pO, mVar, mOwn, mC, mBin, mUn, mTst, asB, mIf, mNot, mAnd, mOr, mAndV, mOrV, mNotV, mNil, mCons, mTup, mLst, mCh, mIsN, mNotN, isN, mL, mDisp, mCall, mSl, mOn, mOs, slD, mRow, rowD, sqD, mZip, mEnum, mLc, lcS, wipeR, mYes, mLc2E, lc2E, gNm, gTp, gsCons, gsNil, gTuple, gList, gAll, bools, fAdd, fSub, fCmp, fNeg, List.map, List.set, Option.bind_some, Option.map_some, Option.bind_none, Option.map_none, List.getElem?_cons_zero, List.getElem?_cons_succ, List.length_cons, List.length_nil, List.length_map, List.append_eq, List.nil_append, List.cons_append, List.replicate, Nat.reduceSub, Nat.reduceAdd, Nat.reduceLeDiff, Nat.reduceLT, lineN, Nat.zero_le, Nat.zero_add, reduceIte, if_true, if_false, Bool.false_eq_true, Bool.not_true, Bool.not_false, List.zipWith, List.zipIdx, List.zipIdx_cons, List.zipIdx_nil, rx0, b2, hs.1, hs.2]
  unfold sg
  by_cases h : 0 < p
  · have : ¬ p < 0 := by grind
    simp [h, this]
  · by_cases h2 : p < 0 <;> simp [h, h2]
theorem eqv_rD (p q : Rat) : PyData.eqv (rD p) (rD q) = decide (p = q) := by
  have e : PyData.eqv (rD p) (rD q) = (p.num == q.num && ((p.den : Int) == (q.den : Int) && true)) := rfl
  rw [e]
  rw [Bool.eq_iff_iff]
  simp only [Bool.and_true, Bool.and_eq_true, beq_iff_eq, decide_eq_true_eq]
  constructor
  · rintro ⟨h1, h2⟩
    exact Rat.ext h1 (by omega)
  · rintro rfl
    exact ⟨rfl, rfl⟩
theorem zeroD : (PyData.tuple [.int 0, .int 1] : Dt) = rD 0 := rfl
theorem oneD : (PyData.tuple [.int 1, .int 1] : Dt) = rD 1 := rfl
theorem fNe_rD (p q : Rat) : fNe (rD p) (rD q) = some (.bool (!decide (p = q))) := by
  have e : min (rD p).depth (rD q).depth ≤ 64 := (by decide : (1 : Nat) ≤ 64)
  unfold fNe
  rw [if_pos e, eqv_rD]
theorem fEq_rD (p q : Rat) : fEq (rD p) (rD q) = some (.bool (decide (p = q))) := by
  have e : min (rD p).depth (rD q).depth ≤ 64 := (by decide : (1 : Nat) ≤ 64)
  unfold fEq
  rw [if_pos e, eqv_rD]
theorem fNe_int (a b : Int) : fNe (.int a) (.int b) = some (.bool (!decide (a = b))) := rfl
theorem fEq_int (a b : Int) : fEq (.int a) (.int b) = some (.bool (decide (a = b))) := rfl
theorem sg_small (p : Rat) : (sg p).natAbs < 18446744073709551616 := by
  unfold sg
  split
  · decide
  · split <;> decide
theorem F_sign_by_eq {f s u : Rat} {a b c : Nat} (hf : Sz a f) (hs : Sz b s) (hu : Sz c u) (h : 2 * a + 2 * b + c ≤ 8999) : F_sign_by [rD f, rD s, rD u] = some (.int (sgBy f s u)) := by
  have p1 := F_product_eq hf hf (by omega)
  have p2 := F_product_eq hs hs (by omega)
  have p3 := F_product_eq (hs.mul hs) hu (by omega)
  have p4 := F_less_by_eq (hf.mul hf) ((hs.mul hs).mul hu) (by omega)
  unfold F_sign_by g_sign_by sgBy
  by_cases hz : u = 0
  · simp only [runF, runJ, r0, outD, sSeq, sNil, sRet, sRetN, sPass, sIf, sSet, sOwn, sPar, sAsg, sApp, sExt, sEx, sFor, sFrz, sSetI, loopS, putR, Cv.sl, pNil, pD, pO, mVar, mOwn, mC, mBin, mUn, mTst, asB, mIf, mNot, mAnd, mOr, mAndV, mOrV, mNotV, mNil, mCons, mTup, mLst, mCh, mIsN, mNotN, isN, mL, mDisp, mCall, mSl, mOn, mOs, slD, mRow, rowD, sqD, mZip, mEnum, mLc, lcS, wipeR, mYes, mLc2E, lc2E, gNm, gTp, gsCons, gsNil, gTuple, gList, gAll, bools, fAdd, fSub, fCmp, fNeg, List.map, List.set, Option.bind_some, Option.map_some, Option.bind_none, Option.map_none, List.getElem?_cons_zero, List.getElem?_cons_succ, List.length_cons, List.length_nil, List.length_map, List.append_eq, List.nil_append, List.cons_append, List.replicate, Nat.reduceSub, Nat.reduceAdd, Nat.reduceLeDiff, Nat.reduceLT, lineN, Nat.zero_le, Nat.zero_add, reduceIte, if_true, if_false, Bool.false_eq_true, Bool.not_true, Bool.not_false, List.zipWith, List.zipIdx, List.zipIdx_cons, List.zipIdx_nil, zeroD, F_sign_of_ratio_eq, fNe_rD, hz, decide_true, Bool.not_true, Bool.false_eq_true, if_false, fMul_ok (mul_sm (sg_small f)), Int.mul_zero, ne_eq, not_true_eq_false, Int.le_refl, if_true, fNe_int]
    by_cases h1 : sg f = 0 <;> simp [h1]
  · simp only [runF, runJ, r0, outD, sSeq, sNil, sRet, sRetN, sPass, sIf, sSet, sOwn, sPar, sAsg, sApp, sExt, sEx, sFor, sFrz, sSetI, loopS, putR, Cv.sl, pNil, pD, pO, mVar, mOwn, mC, mBin, mUn, mTst, asB, mIf, mNot, mAnd, mOr, mAndV, mOrV, mNotV, mNil, mCons, mTup, mLst, mCh, mIsN, mNotN, isN, mL, mDisp, mCall, mSl, mOn, mOs, slD, mRow, rowD, sqD, mZip, mEnum, mLc, lcS, wipeR, mYes, mLc2E, lc2E, gNm, gTp, gsCons, gsNil, gTuple, gList, gAll, bools, fAdd, fSub, fCmp, fNeg, List.map, List.set, Option.bind_some, Option.map_some, Option.bind_none, Option.map_none, List.getElem?_cons_zero, List.getElem?_cons_succ, List.length_cons, List.length_nil, List.length_map, List.append_eq, List.nil_append, List.cons_append, List.replicate, Nat.reduceSub, Nat.reduceAdd, Nat.reduceLeDiff, Nat.reduceLT, lineN, Nat.zero_le, Nat.zero_add, reduceIte, if_true, if_false, Bool.false_eq_true, Bool.not_true, Bool.not_false, List.zipWith, List.zipIdx, List.zipIdx_cons, List.zipIdx_nil, zeroD, F_sign_of_ratio_eq, fNe_rD, hz, decide_false, Bool.not_false, if_true, fMul_ok (mul_sm (sg_small f)), ne_eq, not_false_eq_true, fNe_int, p1, p2, p3, p4]
    by_cases h0 : 0 ≤ sg f * sg s
    · by_cases h1 : sg f = 0 <;> simp [h0, h1]
    · simp only [h0, decide_false, Bool.false_eq_true, if_false, runF, runJ, r0, outD, sSeq, sNil, sRet, sRetN, sPass, sIf, sSet, sOwn, sPar, sAsg, sApp, sExt, sEx, sFor, sFrz, sSetI, loopS, putR, Cv.sl, pNil, pD, pO, mVar, mOwn, mC, mBin, mUn, mTst, asB, mIf, mNot, mAnd, mOr, mAndV, mOrV, mNotV, mNil, mCons, mTup, mLst, mCh, mIsN, mNotN, isN, mL, mDisp, mCall, mSl, mOn, mOs, slD, mRow, rowD, sqD, mZip, mEnum, mLc, lcS, wipeR, mYes, mLc2E, lc2E, gNm, gTp, gsCons, gsNil, gTuple, gList, gAll, bools, fAdd, fSub, fCmp, fNeg, List.map, List.set, Option.bind_some, Option.map_some, Option.bind_none, Option.map_none, List.getElem?_cons_zero, List.getElem?_cons_succ, List.length_cons, List.length_nil, List.length_map, List.append_eq, List.nil_append, List.cons_append, List.replicate, Nat.reduceSub, Nat.reduceAdd, Nat.reduceLeDiff, Nat.reduceLT, lineN, Nat.zero_le, Nat.zero_add, reduceIte, if_true, if_false, Bool.false_eq_true, Bool.not_true, Bool.not_false, List.zipWith, List.zipIdx, List.zipIdx_cons, List.zipIdx_nil, p1, p2, p3, p4, F_sign_of_ratio_eq, fMul_ok (mul_sm (sg_small f))]
/-- the sizes of what the signs are taken of -/
theorem sgBy_small {f s u : Rat} : (sgBy f s u).natAbs < 18446744073709551616 := by
  have a : ∀ p : Rat, (sg p).natAbs ≤ 1 := fun p => by
    unfold sg
    split
    · decide
    · split <;> decide
  unfold sgBy
  have h1 := a f
  have h2 := a s
  have h3 := a (f * f - s * s * u)
  have h4 : (sg f * sg (f * f - s * s * u)).natAbs ≤ 1 := by
    rw [Int.natAbs_mul]
    exact Nat.mul_le_mul h1 h3
  by_cases hu : u = 0
  · simp only [hu, ne_eq, not_true_eq_false, if_false, Int.mul_zero, Int.le_refl, if_true]
    split <;> omega
  · simp only [hu, ne_eq, not_false_eq_true, if_true]
    split
    · split <;> omega
    · omega
theorem F_root_times_eq {a b u : Rat} {m n c : Nat} (ha : Sz m a) (hb : Sz n b) (hu : Sz c u) (h : 2 * m + 2 * n + 2 * c + 10 ≤ 8999) :
    F_root_times [.tuple [rD a, rD b], .tuple [rD a, rD b], rD u] = some (.tuple [rD (a * a + b * b * u), rD (a * b + b * a)]) := by
  have p1 := F_product_eq ha ha (by omega)
  have p2 := F_product_eq hb hb (by omega)
  have p3 := F_product_eq (hb.mul hb) hu (by omega)
  have p4 := F_added_eq (ha.mul ha) ((hb.mul hb).mul hu) (by omega)
  have p5 := F_product_eq ha hb (by omega)
  have p6 := F_product_eq hb ha (by omega)
  have p7 := F_added_eq (ha.mul hb) (hb.mul ha) (by omega)
  unfold F_root_times g_root_times
  simp only [runF, runJ, r0, outD, sSeq, sNil, sRet, sRetN, sPass, sIf, sSet, sOwn, sPar, sAsg, sApp, sExt, sEx, sFor, sFrz, sSetI, loopS, putR, Cv.sl, pNil, pD, pO, mVar, mOwn, mC, mBin, mUn, mTst, asB, mIf, mNot, mAnd, mOr, mAndV, mOrV, mNotV, mNil, mCons, mTup, mLst, mCh, mIsN, mNotN, isN, mL, mDisp, mCall, mSl, mOn, mOs, slD, mRow, rowD, sqD, mZip, mEnum, mLc, lcS, wipeR, mYes, mLc2E, lc2E, gNm, gTp, gsCons, gsNil, gTuple, gList, gAll, bools, fAdd, fSub, fCmp, fNeg, List.map, List.set, Option.bind_some, Option.map_some, Option.bind_none, Option.map_none, List.getElem?_cons_zero, List.getElem?_cons_succ, List.length_cons, List.length_nil, List.length_map, List.append_eq, List.nil_append, List.cons_append, List.replicate, Nat.reduceSub, Nat.reduceAdd, Nat.reduceLeDiff, Nat.reduceLT, lineN, Nat.zero_le, Nat.zero_add, reduceIte, if_true, if_false, Bool.false_eq_true, Bool.not_true, Bool.not_false, List.zipWith, List.zipIdx, List.zipIdx_cons, List.zipIdx_nil, ix0, ix1, p1, p2, p3, p4, p5, p6, p7]
theorem F_sign_of_two_eq {f s u t b : Rat} {n1 n2 n3 n4 n5 : Nat} (hf : Sz n1 f) (hs : Sz n2 s) (hu : Sz n3 u) (ht : Sz n4 t) (hb : Sz n5 b) (h : 2 * (2 * n1 + (2 * n2 + n3) + 1 + (2 * n4 + n5) + 1) + 2 * (2 * n1 + 2 * n2 + 10) + n3 ≤ 8999) :
    F_sign_of_two [rD f, rD s, rD u, rD t, rD b] = some (.int (sgTwo f s u t b)) := by
  have s1 := F_sign_by_eq hf hs hu (by omega)
  have r1 := F_root_times_eq hf hs hu (by omega)
  have p1 := F_product_eq ht ht (by omega)
  have p2 := F_product_eq (ht.mul ht) hb (by omega)
  have z1 := (hf.mul hf).add ((hs.mul hs).mul hu)
  have z2 := (ht.mul ht).mul hb
  have z3 := (hf.mul hs).add (hs.mul hf)
  have p3 := F_less_by_eq z1 z2 (by omega)
  have s2 := F_sign_by_eq (z1.sub z2) z3 hu (by omega)
  unfold F_sign_of_two g_sign_of_two sgTwo
  by_cases hz : b = 0
  · simp only [runF, runJ, r0, outD, sSeq, sNil, sRet, sRetN, sPass, sIf, sSet, sOwn, sPar, sAsg, sApp, sExt, sEx, sFor, sFrz, sSetI, loopS, putR, Cv.sl, pNil, pD, pO, mVar, mOwn, mC, mBin, mUn, mTst, asB, mIf, mNot, mAnd, mOr, mAndV, mOrV, mNotV, mNil, mCons, mTup, mLst, mCh, mIsN, mNotN, isN, mL, mDisp, mCall, mSl, mOn, mOs, slD, mRow, rowD, sqD, mZip, mEnum, mLc, lcS, wipeR, mYes, mLc2E, lc2E, gNm, gTp, gsCons, gsNil, gTuple, gList, gAll, bools, fAdd, fSub, fCmp, fNeg, List.map, List.set, Option.bind_some, Option.map_some, Option.bind_none, Option.map_none, List.getElem?_cons_zero, List.getElem?_cons_succ, List.length_cons, List.length_nil, List.length_map, List.append_eq, List.nil_append, List.cons_append, List.replicate, Nat.reduceSub, Nat.reduceAdd, Nat.reduceLeDiff, Nat.reduceLT, lineN, Nat.zero_le, Nat.zero_add, reduceIte, if_true, if_false, Bool.false_eq_true, Bool.not_true, Bool.not_false, List.zipWith, List.zipIdx, List.zipIdx_cons, List.zipIdx_nil, zeroD, F_sign_of_ratio_eq, fNe_rD, hz, decide_true, Bool.not_true, Bool.false_eq_true, if_false, fMul_ok (mul_sm sgBy_small), Int.mul_zero, ne_eq, not_true_eq_false, Int.le_refl, if_true, fNe_int, s1]
    by_cases h1 : sgBy f s u = 0 <;> simp [h1]
  · simp only [runF, runJ, r0, outD, sSeq, sNil, sRet, sRetN, sPass, sIf, sSet, sOwn, sPar, sAsg, sApp, sExt, sEx, sFor, sFrz, sSetI, loopS, putR, Cv.sl, pNil, pD, pO, mVar, mOwn, mC, mBin, mUn, mTst, asB, mIf, mNot, mAnd, mOr, mAndV, mOrV, mNotV, mNil, mCons, mTup, mLst, mCh, mIsN, mNotN, isN, mL, mDisp, mCall, mSl, mOn, mOs, slD, mRow, rowD, sqD, mZip, mEnum, mLc, lcS, wipeR, mYes, mLc2E, lc2E, gNm, gTp, gsCons, gsNil, gTuple, gList, gAll, bools, fAdd, fSub, fCmp, fNeg, List.map, List.set, Option.bind_some, Option.map_some, Option.bind_none, Option.map_none, List.getElem?_cons_zero, List.getElem?_cons_succ, List.length_cons, List.length_nil, List.length_map, List.append_eq, List.nil_append, List.cons_append, List.replicate, Nat.reduceSub, Nat.reduceAdd, Nat.reduceLeDiff, Nat.reduceLT, lineN, Nat.zero_le, Nat.zero_add, reduceIte, if_true, if_false, Bool.false_eq_true, Bool.not_true, Bool.not_false, List.zipWith, List.zipIdx, List.zipIdx_cons, List.zipIdx_nil, zeroD, F_sign_of_ratio_eq, fNe_rD, hz, decide_false, Bool.not_false, if_true, fMul_ok (mul_sm sgBy_small), ne_eq, not_false_eq_true, fNe_int, s1]
    by_cases h0 : 0 ≤ sgBy f s u * sg t
    · by_cases h1 : sgBy f s u = 0 <;> simp [h0, h1]
    · simp only [h0, decide_false, Bool.false_eq_true, if_false, runF, runJ, r0, outD, sSeq, sNil, sRet, sRetN, sPass, sIf, sSet, sOwn, sPar, sAsg, sApp, sExt, sEx, sFor, sFrz, sSetI, loopS, putR, Cv.sl, pNil, pD, pO, mVar, mOwn, mC, mBin, mUn, mTst, asB, mIf, mNot, mAnd, mOr, mAndV, mOrV, mNotV, mNil, mCons, mTup, mLst, mCh, mIsN, mNotN, isN, mL, mDisp, mCall, mSl, mOn, mOs, slD, mRow, rowD, sqD, mZip, mEnum, mLc, lcS, wipeR, mYes, mLc2E, lc2E, gNm, gTp, gsCons, gsNil, gTuple, gList, gAll, bools, fAdd, fSub, fCmp, fNeg, List.map, List.set, Option.bind_some, Option.map_some, Option.bind_none, Option.map_none, List.getElem?_cons_zero, List.getElem?_cons_succ, List.length_cons, List.length_nil, List.length_map, List.append_eq, List.nil_append, List.cons_append, List.replicate, Nat.reduceSub, Nat.reduceAdd, Nat.reduceLeDiff, Nat.reduceLT, lineN, Nat.zero_le, Nat.zero_add, reduceIte, if_true, if_false, Bool.false_eq_true, Bool.not_true, Bool.not_false, List.zipWith, List.zipIdx, List.zipIdx_cons, List.zipIdx_nil, r1, ix0, ix1, p1, p2, p3, s2, fMul_ok (mul_sm sgBy_small)]
def trD (a b c : Rat) : Dt := .tuple [rD a, rD b, rD c]
def ptD (p : Pt) : Dt := .tuple [rD p.1, rD p.2]
/-- a made row -/
def rwD (w : Str) (p : Pt) (m : Rat) : Dt := .tuple [.str w, ptD p, rD m]
structure PSz (n : Nat) (p : Pt) : Prop where
  x : Sz n p.1
  y : Sz n p.2
theorem sq_sz {m n : Nat} {p q : Pt} (hp : PSz m p) (hq : PSz n q) : Sz (4 * (m + n + 1) + 1) (d2 p.1 p.2 q.1 q.2) := by
  have a := hp.x.sub hq.x
  have b := hp.y.sub hq.y
  exact ((a.mul a).add (b.mul b)).mono (by omega)
theorem F_square_between_eq {m n : Nat} {p q : Pt} (hp : PSz m p) (hq : PSz n q) (h : 4 * (m + n + 1) ≤ 8999) : F_square_between [ptD p, ptD q] = some (rD (d2 p.1 p.2 q.1 q.2)) := by
  have a := hp.x.sub hq.x
  have b := hp.y.sub hq.y
  have l1 := F_less_by_eq hp.x hq.x (by omega)
  have l2 := F_less_by_eq hp.y hq.y (by omega)
  have p1 := F_product_eq a a (by omega)
  have p2 := F_product_eq b b (by omega)
  have p3 := F_added_eq (a.mul a) (b.mul b) (by omega)
  unfold F_square_between g_square_between ptD
  simp only [runF, runJ, r0, outD, sSeq, sNil, sRet, sRetN, sPass, sIf, sSet, sOwn, sPar, sAsg, sApp, sExt, sEx, sFor, sFrz, sSetI, loopS, putR, Cv.sl, pNil, pD, pO, mVar, mOwn, mC, mBin, mUn, mTst, asB, mIf, mNot, mAnd, mOr, mAndV, mOrV, mNotV, mNil, mCons, mTup, mLst, mCh, mIsN, mNotN, isN, mL, mDisp, mCall, mSl, mOn, mOs, slD, mRow, rowD, sqD, mZip, mEnum, mLc, lcS, wipeR, mYes, mLc2E, lc2E, gNm, gTp, gsCons, gsNil, gTuple, gList, gAll, bools, fAdd, fSub, fCmp, fNeg, List.map, List.set, Option.bind_some, Option.map_some, Option.bind_none, Option.map_none, List.getElem?_cons_zero, List.getElem?_cons_succ, List.length_cons, List.length_nil, List.length_map, List.append_eq, List.nil_append, List.cons_append, List.replicate, Nat.reduceSub, Nat.reduceAdd, Nat.reduceLeDiff, Nat.reduceLT, lineN, Nat.zero_le, Nat.zero_add, reduceIte, if_true, if_false, Bool.false_eq_true, Bool.not_true, Bool.not_false, List.zipWith, List.zipIdx, List.zipIdx_cons, List.zipIdx_nil, ix0, ix1, l1, l2, p1, p2, p3]
  rfl
end
end K29
end
section
set_option Elab.async false
set_option linter.all false
set_option autoImplicit false
set_option maxRecDepth 100000
namespace K29
open PySem PySem.Spec PyProof.Rows L2 Ev Ar
theorem lcS_map {α : Type} {t : Ev.Tm} {c : M Bool} {e : M Dt} {r0 : Rg} {j : Jr} (G F : α → Dt) : ∀ {L : List α}, (∀ a ∈ L, ∃ r1, t (G a) r0 j = some (r1, j) ∧ c r1 j = some (true, j) ∧ e r1 j = some (F a, j)) → lcS t c e r0 (L.map G) j = some (L.map F, j)
  | [], _ => rfl
  | a :: L, h => by
    obtain ⟨r1, h1, h2, h3⟩ := h a List.mem_cons_self
    have ih := lcS_map G F (L := L) fun b hb => h b (List.mem_cons_of_mem _ hb)
    simp only [List.map_cons, lcS, h1, Option.bind_some, h2, if_true, h3, ih, Option.map_some]
theorem lcS_filter {α : Type} {t : Ev.Tm} {c : M Bool} {e : M Dt} {r0 : Rg} {j : Jr} (G F : α → Dt) (P : α → Bool) : ∀ {L : List α}, (∀ a ∈ L, ∃ r1, t (G a) r0 j = some (r1, j) ∧ c r1 j = some (P a, j) ∧ (P a = true → e r1 j = some (F a, j))) → lcS t c e r0 (L.map G) j = some ((L.filter P).map F, j)
  | [], _ => rfl
  | a :: L, h => by
    obtain ⟨r1, h1, h2, h3⟩ := h a List.mem_cons_self
    have ih := lcS_filter G F P (L := L) fun b hb => h b (List.mem_cons_of_mem _ hb)
    cases hp : P a with
    | true => simp only [List.map_cons, lcS, h1, Option.bind_some, h2, hp, if_true, h3 hp, ih, Option.map_some, List.filter_cons, List.map_cons]
    | false => simp only [List.map_cons, lcS, h1, Option.bind_some, h2, hp, Bool.false_eq_true, if_false, ih, List.filter_cons]
theorem bools_map {α : Type} (f : α → Bool) : ∀ L : List α, bools (L.map fun a => .bool (f a)) = some (L.map f)
  | [] => rfl
  | a :: L => by
    simp only [List.map_cons, bools, bools_map f L, Option.map_some]
theorem zip_map {α β : Type} (g : α → Dt) (h : β → Dt) : ∀ (as : List α) (bs : List β), List.zipWith (fun x y => PyData.tuple [x, y]) (as.map g) (bs.map h) = (as.zip bs).map fun p => .tuple [g p.1, h p.2]
  | [], _ => rfl
  | _ :: _, [] => rfl
  | a :: as, b :: bs => by
    simp only [List.map_cons, List.zipWith_cons_cons, List.zip_cons_cons, zip_map g h as bs]
theorem cut1 {α : Type} (xs : List α) (h : xs.length ≤ 1000) : Ev.cutD xs (some 1) none = xs.drop 1 := by
  unfold Ev.cutD
  cases xs with
  | nil => rfl
  | cons a r =>
    have e1 : HT.sIx (a :: r).length 0 (some 1) = 1 := by
      unfold HT.sIx
      simp
    have e2 : HT.sIx (a :: r).length (a :: r).length none = (a :: r).length := rfl
    rw [e1, e2]
    exact List.take_of_length_le (by simp)
theorem cut01 {α : Type} (xs : List α) (h : xs.length ≤ 1000) : Ev.cutD xs none (some 1) = xs.take 1 := by
  unfold Ev.cutD
  cases xs with
  | nil => rfl
  | cons a r =>
    have e1 : HT.sIx (a :: r).length 0 none = 0 := rfl
    have e2 : HT.sIx (a :: r).length (a :: r).length (some 1) = 1 := by
      unfold HT.sIx
      simp
    rw [e1, e2]
    rfl
def rot {α : Type} (cs : List α) : List α := cs.drop 1 ++ cs.take 1
def Ed (cs : List Pt) : List (Pt × Pt) := cs.zip (rot cs)
theorem rot_len {α : Type} (cs : List α) : (rot cs).length = cs.length := by
  cases cs with
  | nil => rfl
  | cons a r => simp [rot]
theorem rot_map {α β : Type} (f : α → β) (cs : List α) : rot (cs.map f) = (rot cs).map f := by
  unfold rot
  rw [List.map_append, List.map_drop, List.map_take]
theorem Ed_fst (cs : List Pt) : (Ed cs).map (·.1) = cs := by
  unfold Ed
  exact List.map_fst_zip (by rw [rot_len]; exact Nat.le_refl _)
theorem Ed_len (cs : List Pt) : (Ed cs).length = cs.length := by
  unfold Ed
  rw [List.length_zip, rot_len]
  exact Nat.min_self _
theorem Ed_mem {cs : List Pt} {e : Pt × Pt} (h : e ∈ Ed cs) : e.1 ∈ cs ∧ e.2 ∈ cs := by
  obtain ⟨h1, h2⟩ := List.of_mem_zip (a := e.1) (b := e.2) h
  refine ⟨h1, ?_⟩
  unfold rot at h2
  rcases List.mem_append.mp h2 with q | q
  · exact List.mem_of_mem_drop q
  · exact List.mem_of_mem_take q
section
variable {p q x : Pt} {m n : Nat}
theorem F_less_row_eq (hp : PSz m p) (hq : PSz n q) (h : m + n ≤ 8999) : F_less_row [ptD p, ptD q] = some (ptD (Ar.sub p q)) := by
  have l1 := F_less_by_eq hp.x hq.x h
  have l2 := F_less_by_eq hp.y hq.y h
  unfold F_less_row g_less_row ptD
  simp only [runF, runJ, r0, outD, sSeq, sNil, sRet, sRetN, sPass, sIf, sSet, sOwn, sPar, sAsg, sApp, sExt, sEx, sFor, sFrz, sSetI, loopS, putR, Cv.sl, pNil, pD, pO, mVar, mOwn, mC, mBin, mUn, mTst, asB, mIf, mNot, mAnd, mOr, mAndV, mOrV, mNotV, mNil, mCons, mTup, mLst, mCh, mIsN, mNotN, isN, mL, mDisp, mCall, mSl, mOn, mOs, slD, mRow, rowD, sqD, mZip, mEnum, mLc, lcS, wipeR, mYes, mLc2E, lc2E, gNm, gTp, gsCons, gsNil, gTuple, gList, gAll, bools, fAdd, fSub, fCmp, fNeg, List.map, List.set, Option.bind_some, Option.map_some, Option.bind_none, Option.map_none, List.getElem?_cons_zero, List.getElem?_cons_succ, List.length_cons, List.length_nil, List.length_map, List.append_eq, List.nil_append, List.cons_append, List.replicate, Nat.reduceSub, Nat.reduceAdd, Nat.reduceLeDiff, Nat.reduceLT, lineN, Nat.zero_le, Nat.zero_add, reduceIte, if_true, if_false, Bool.false_eq_true, Bool.not_true, Bool.not_false, List.zipWith, List.zipIdx, List.zipIdx_cons, List.zipIdx_nil, l1, l2]
  rfl
theorem F_joined_row_eq (hp : PSz m p) (hq : PSz n q) (h : m + n ≤ 8999) : F_joined_row [ptD p, ptD q] = some (ptD (p.1 + q.1, p.2 + q.2)) := by
  have l1 := F_added_eq hp.x hq.x h
  have l2 := F_added_eq hp.y hq.y h
  unfold F_joined_row g_joined_row ptD
  simp only [runF, runJ, r0, outD, sSeq, sNil, sRet, sRetN, sPass, sIf, sSet, sOwn, sPar, sAsg, sApp, sExt, sEx, sFor, sFrz, sSetI, loopS, putR, Cv.sl, pNil, pD, pO, mVar, mOwn, mC, mBin, mUn, mTst, asB, mIf, mNot, mAnd, mOr, mAndV, mOrV, mNotV, mNil, mCons, mTup, mLst, mCh, mIsN, mNotN, isN, mL, mDisp, mCall, mSl, mOn, mOs, slD, mRow, rowD, sqD, mZip, mEnum, mLc, lcS, wipeR, mYes, mLc2E, lc2E, gNm, gTp, gsCons, gsNil, gTuple, gList, gAll, bools, fAdd, fSub, fCmp, fNeg, List.map, List.set, Option.bind_some, Option.map_some, Option.bind_none, Option.map_none, List.getElem?_cons_zero, List.getElem?_cons_succ, List.length_cons, List.length_nil, List.length_map, List.append_eq, List.nil_append, List.cons_append, List.replicate, Nat.reduceSub, Nat.reduceAdd, Nat.reduceLeDiff, Nat.reduceLT, lineN, Nat.zero_le, Nat.zero_add, reduceIte, if_true, if_false, Bool.false_eq_true, Bool.not_true, Bool.not_false, List.zipWith, List.zipIdx, List.zipIdx_cons, List.zipIdx_nil, l1, l2]
theorem F_scaled_row_eq {c : Rat} (hp : PSz m p) (hq : Sz n c) (h : m + n ≤ 8999) : F_scaled_row [ptD p, rD c] = some (ptD (p.1 * c, p.2 * c)) := by
  have l1 := F_product_eq hp.x hq h
  have l2 := F_product_eq hp.y hq h
  unfold F_scaled_row g_scaled_row ptD
  simp only [runF, runJ, r0, outD, sSeq, sNil, sRet, sRetN, sPass, sIf, sSet, sOwn, sPar, sAsg, sApp, sExt, sEx, sFor, sFrz, sSetI, loopS, putR, Cv.sl, pNil, pD, pO, mVar, mOwn, mC, mBin, mUn, mTst, asB, mIf, mNot, mAnd, mOr, mAndV, mOrV, mNotV, mNil, mCons, mTup, mLst, mCh, mIsN, mNotN, isN, mL, mDisp, mCall, mSl, mOn, mOs, slD, mRow, rowD, sqD, mZip, mEnum, mLc, lcS, wipeR, mYes, mLc2E, lc2E, gNm, gTp, gsCons, gsNil, gTuple, gList, gAll, bools, fAdd, fSub, fCmp, fNeg, List.map, List.set, Option.bind_some, Option.map_some, Option.bind_none, Option.map_none, List.getElem?_cons_zero, List.getElem?_cons_succ, List.length_cons, List.length_nil, List.length_map, List.append_eq, List.nil_append, List.cons_append, List.replicate, Nat.reduceSub, Nat.reduceAdd, Nat.reduceLeDiff, Nat.reduceLT, lineN, Nat.zero_le, Nat.zero_add, reduceIte, if_true, if_false, Bool.false_eq_true, Bool.not_true, Bool.not_false, List.zipWith, List.zipIdx, List.zipIdx_cons, List.zipIdx_nil, l1, l2]
theorem sz0 : Sz 1 0 := ⟨by decide, by decide⟩
theorem sz1 : Sz 1 1 := ⟨by decide, by decide⟩
theorem szm1 : Sz 1 (-1) := ⟨by decide, by decide⟩
theorem F_total_eq {a b : Rat} (hp : Sz m a) (hq : Sz n b) (h : m + n + 10 ≤ 8999) : F_total [.list [rD a, rD b]] = some (rD (a + b)) := by
  have l1 := F_added_eq sz0 hp (by omega)
  have l2 := F_added_eq (sz0.add hp) hq (by omega)
  have e : (0 + a : Rat) = a := by grind
  rw [e] at l1 l2
  unfold F_total g_total
  simp only [runF, runJ, r0, outD, sSeq, sNil, sRet, sRetN, sPass, sIf, sSet, sOwn, sPar, sAsg, sApp, sExt, sEx, sFor, sFrz, sSetI, loopS, putR, Cv.sl, pNil, pD, pO, mVar, mOwn, mC, mBin, mUn, mTst, asB, mIf, mNot, mAnd, mOr, mAndV, mOrV, mNotV, mNil, mCons, mTup, mLst, mCh, mIsN, mNotN, isN, mL, mDisp, mCall, mSl, mOn, mOs, slD, mRow, rowD, sqD, mZip, mEnum, mLc, lcS, wipeR, mYes, mLc2E, lc2E, gNm, gTp, gsCons, gsNil, gTuple, gList, gAll, bools, fAdd, fSub, fCmp, fNeg, List.map, List.set, Option.bind_some, Option.map_some, Option.bind_none, Option.map_none, List.getElem?_cons_zero, List.getElem?_cons_succ, List.length_cons, List.length_nil, List.length_map, List.append_eq, List.nil_append, List.cons_append, List.replicate, Nat.reduceSub, Nat.reduceAdd, Nat.reduceLeDiff, Nat.reduceLT, lineN, Nat.zero_le, Nat.zero_add, reduceIte, if_true, if_false, Bool.false_eq_true, Bool.not_true, Bool.not_false, List.zipWith, List.zipIdx, List.zipIdx_cons, List.zipIdx_nil, zeroD, l1, l2]
theorem F_dotted_eq (hp : PSz m p) (hq : PSz n q) (h : 2 * m + 2 * n + 20 ≤ 8999) : F_dotted [ptD p, ptD q] = some (rD (p.1 * q.1 + p.2 * q.2)) := by
  have l1 := F_product_eq hp.x hq.x (by omega)
  have l2 := F_product_eq hp.y hq.y (by omega)
  have l3 := F_total_eq (hp.x.mul hq.x) (hp.y.mul hq.y) (by omega)
  unfold F_dotted g_dotted ptD
  simp only [runF, runJ, r0, outD, sSeq, sNil, sRet, sRetN, sPass, sIf, sSet, sOwn, sPar, sAsg, sApp, sExt, sEx, sFor, sFrz, sSetI, loopS, putR, Cv.sl, pNil, pD, pO, mVar, mOwn, mC, mBin, mUn, mTst, asB, mIf, mNot, mAnd, mOr, mAndV, mOrV, mNotV, mNil, mCons, mTup, mLst, mCh, mIsN, mNotN, isN, mL, mDisp, mCall, mSl, mOn, mOs, slD, mRow, rowD, sqD, mZip, mEnum, mLc, lcS, wipeR, mYes, mLc2E, lc2E, gNm, gTp, gsCons, gsNil, gTuple, gList, gAll, bools, fAdd, fSub, fCmp, fNeg, List.map, List.set, Option.bind_some, Option.map_some, Option.bind_none, Option.map_none, List.getElem?_cons_zero, List.getElem?_cons_succ, List.length_cons, List.length_nil, List.length_map, List.append_eq, List.nil_append, List.cons_append, List.replicate, Nat.reduceSub, Nat.reduceAdd, Nat.reduceLeDiff, Nat.reduceLT, lineN, Nat.zero_le, Nat.zero_add, reduceIte, if_true, if_false, Bool.false_eq_true, Bool.not_true, Bool.not_false, List.zipWith, List.zipIdx, List.zipIdx_cons, List.zipIdx_nil, l1, l2, l3]
theorem F_turn_of_eq (hp : PSz m p) (hq : PSz n q) (h : 2 * m + 2 * n ≤ 8999) : F_turn_of [ptD p, ptD q] = some (rD (cr p q)) := by
  have l1 := F_product_eq hp.x hq.y (by omega)
  have l2 := F_product_eq hp.y hq.x (by omega)
  have l3 := F_less_by_eq (hp.x.mul hq.y) (hp.y.mul hq.x) (by omega)
  unfold F_turn_of g_turn_of ptD
  simp only [runF, runJ, r0, outD, sSeq, sNil, sRet, sRetN, sPass, sIf, sSet, sOwn, sPar, sAsg, sApp, sExt, sEx, sFor, sFrz, sSetI, loopS, putR, Cv.sl, pNil, pD, pO, mVar, mOwn, mC, mBin, mUn, mTst, asB, mIf, mNot, mAnd, mOr, mAndV, mOrV, mNotV, mNil, mCons, mTup, mLst, mCh, mIsN, mNotN, isN, mL, mDisp, mCall, mSl, mOn, mOs, slD, mRow, rowD, sqD, mZip, mEnum, mLc, lcS, wipeR, mYes, mLc2E, lc2E, gNm, gTp, gsCons, gsNil, gTuple, gList, gAll, bools, fAdd, fSub, fCmp, fNeg, List.map, List.set, Option.bind_some, Option.map_some, Option.bind_none, Option.map_none, List.getElem?_cons_zero, List.getElem?_cons_succ, List.length_cons, List.length_nil, List.length_map, List.append_eq, List.nil_append, List.cons_append, List.replicate, Nat.reduceSub, Nat.reduceAdd, Nat.reduceLeDiff, Nat.reduceLT, lineN, Nat.zero_le, Nat.zero_add, reduceIte, if_true, if_false, Bool.false_eq_true, Bool.not_true, Bool.not_false, List.zipWith, List.zipIdx, List.zipIdx_cons, List.zipIdx_nil, ix0, ix1, l1, l2, l3]
  rfl
theorem PSz.sub (hp : PSz m p) (hq : PSz n q) : PSz (m + n + 1) (Ar.sub p q) := ⟨hp.x.sub hq.x, hp.y.sub hq.y⟩
theorem F_steps_of_eq {cs : List Pt} (hc : ∀ c ∈ cs, PSz m c) (h : m + m ≤ 8999) (hl : cs.length ≤ 1000) : F_steps_of [.tuple (cs.map ptD)] = some (.list ((Ed cs).map fun e => ptD (stp e))) := by
  have hl' : (cs.map ptD).length ≤ 1000 := by rw [List.length_map]; exact hl
  have hz : List.zipWith (fun x y => PyData.tuple [x, y]) (cs.map ptD) (rot (cs.map ptD)) = (Ed cs).map fun p => .tuple [ptD p.1, ptD p.2] := by
    rw [rot_map, zip_map]
    rfl
  have hm := lcS_map (t := gTp (gsCons (gNm 1) (gsCons (gNm 2) gsNil))) (c := mYes) (e := mCall F_less_row (mCons (mVar 2) (mCons (mVar 1) mNil))) (r0 := wipeR [some (.d (.tuple (cs.map ptD))), none, none] [1, 2]) (j := []) (fun p : Pt × Pt => .tuple [ptD p.1, ptD p.2]) (fun e => ptD (stp e)) (L := Ed cs) fun e he => by
    have l := F_less_row_eq (hc _ (Ed_mem he).2) (hc _ (Ed_mem he).1) h
    refine ⟨_, rfl, rfl, ?_⟩
    simp only [runF, runJ, r0, outD, sSeq, sNil, sRet, sRetN, sPass, sIf, sSet, sOwn, sPar, sAsg, sApp, sExt, sEx, sFor, sFrz, sSetI, loopS, putR, Cv.sl, pNil, pD, pO, mVar, mOwn, mC, mBin, mUn, mTst, asB, mIf, mNot, mAnd, mOr, mAndV, mOrV, mNotV, mNil, mCons, mTup, mLst, mCh, mIsN, mNotN, isN, mL, mDisp, mCall, mSl, mOn, mOs, slD, mRow, rowD, sqD, mZip, mEnum, mLc, lcS, wipeR, mYes, mLc2E, lc2E, gNm, gTp, gsCons, gsNil, gTuple, gList, gAll, bools, fAdd, fSub, fCmp, fNeg, List.map, List.set, Option.bind_some, Option.map_some, Option.bind_none, Option.map_none, List.getElem?_cons_zero, List.getElem?_cons_succ, List.length_cons, List.length_nil, List.length_map, List.append_eq, List.nil_append, List.cons_append, List.replicate, Nat.reduceSub, Nat.reduceAdd, Nat.reduceLeDiff, Nat.reduceLT, lineN, Nat.zero_le, Nat.zero_add, reduceIte, if_true, if_false, Bool.false_eq_true, Bool.not_true, Bool.not_false, List.zipWith, List.zipIdx, List.zipIdx_cons, List.zipIdx_nil, l]
    rfl
  have hll : ((cs.map ptD).drop 1).length + ((cs.map ptD).take 1).length ≤ lineN := by
    rw [List.length_drop, List.length_take]
    show _ ≤ 16777216
    omega
  unfold F_steps_of g_steps_of
  simp only [runF, r0, outD, sRet, mL, mLc, mZip, mCons, mNil, mBin, mSl, mOs, mOn, mC, mVar, slD, fAdd, List.map, List.length_cons, List.length_nil, Nat.reduceSub, List.replicate, List.cons_append, List.nil_append, List.getElem?_cons_zero, Option.bind_some, Option.map_some, cut1 _ hl', cut01 _ hl', hll, if_true, sqD]
  have e1 : (cs.map ptD).drop 1 ++ (cs.map ptD).take 1 = rot (cs.map ptD) := rfl
  rw [e1, hz, hm]
  rfl
end
end K29
end
section
set_option Elab.async false
set_option linter.all false
set_option autoImplicit false
set_option maxRecDepth 100000
namespace K29
open PySem PySem.Spec PyProof.Rows L2 Ev Ar
theorem loopS_scan {α : Type} {t : Ev.Tm} {b : Sm} {j : Jr} (I : Rg → Prop) (G : α → Dt) (f : α → Option Dt) : ∀ {L : List α},
    (∀ a ∈ L, ∀ r, I r → ∃ r1, t (G a) r j = some (r1, j) ∧ (match f a with
      | some d => ∃ r2, b r1 j = some (.rt d, r2, j)
      | none => ∃ r2, I r2 ∧ b r1 j = some (.nx, r2, j))) → ∀ r, I r → (match L.findSome? f with
      | some d => ∃ r2, loopS t b (L.map G) r j = some (.rt d, r2, j)
      | none => ∃ r2, I r2 ∧ loopS t b (L.map G) r j = some (.nx, r2, j))
  | [], _, r, hI => ⟨r, hI, rfl⟩
  | a :: L, h, r, hI => by
    obtain ⟨r1, h1, h2⟩ := h a List.mem_cons_self r hI
    cases hf : f a with
    | some d =>
      rw [hf] at h2
      obtain ⟨r2, h2⟩ := h2
      simp only [List.findSome?_cons, hf]
      exact ⟨r2, by simp only [List.map_cons, loopS, h1, Option.bind_some, h2]⟩
    | none =>
      rw [hf] at h2
      obtain ⟨r2, hI2, h2⟩ := h2
      have ih := loopS_scan I G f (L := L) (fun b hb => h b (List.mem_cons_of_mem _ hb)) r2 hI2
      simp only [List.findSome?_cons, hf, List.map_cons, loopS, h1, Option.bind_some, h2]
      exact ih
theorem zip_map2 {α : Type} (g h : α → Dt) : ∀ (L : List α), List.zipWith (fun x y => PyData.tuple [x, y]) (L.map g) (L.map h) = L.map fun e => .tuple [g e, h e]
  | [] => rfl
  | a :: L => by simp only [List.map_cons, List.zipWith_cons_cons, zip_map2 g h L]
theorem sg_ge {q : Rat} : 0 ≤ sg q ↔ 0 ≤ q := by
  unfold sg
  split
  · have : 0 ≤ q := by grind
    simp [this]
  · split
    · have : ¬ 0 ≤ q := by grind
      simp [this]
    · have : 0 ≤ q := by grind
      simp [this]
section
variable {p q x s z : Pt} {m n : Nat}
theorem F_is_in_polygon_eq {cs : List Pt} (hc : ∀ c ∈ cs, PSz m c) (hx : PSz m x) (h : 8 * m + 100 ≤ 8999) (hl : cs.length ≤ 1000) :
    F_is_in_polygon [.tuple (cs.map ptD), ptD x] = some (.bool ((Ed cs).all fun e => decide (0 ≤ hh e x))) := by
  have hs := F_steps_of_eq hc (by omega) hl
  have ec : cs.map ptD = (Ed cs).map fun e => ptD e.1 := by
    conv => lhs; rw [← Ed_fst cs]
    rw [List.map_map]
    rfl
  have hz : List.zipWith (fun x y => PyData.tuple [x, y]) (cs.map ptD) ((Ed cs).map fun e => ptD (stp e)) = (Ed cs).map fun e => .tuple [ptD e.1, ptD (stp e)] := by
    rw [ec, zip_map2]
  have hm := lcS_map (t := gTp (gsCons (gNm 3) (gsCons (gNm 4) gsNil))) (c := mYes) (e := mBin fGe (mCall F_sign_of_ratio (mCons (mCall F_turn_of (mCons (mVar 4) (mCons (mCall F_less_row (mCons (mVar 1) (mCons (mVar 3) mNil))) mNil))) mNil)) (mC (.int 0)))
    (r0 := wipeR ([some (.d (.tuple (cs.map ptD))), some (.d (ptD x)), none, none, none].set 2 none) [3, 4]) (j := []) (fun e : Pt × Pt => .tuple [ptD e.1, ptD (stp e)]) (fun e => .bool (decide (0 ≤ hh e x))) (L := Ed cs) fun e he => by
    have h1 := hc _ (Ed_mem he).1
    have h2 := hc _ (Ed_mem he).2
    have l1 := F_less_row_eq hx h1 (by omega)
    have l2 := F_turn_of_eq (PSz.sub h2 h1) (PSz.sub hx h1) (by omega)
    refine ⟨_, rfl, rfl, ?_⟩
    have l2' : F_turn_of [ptD (stp e), ptD (Ar.sub x e.1)] = some (rD (hh e x)) := l2
    simp only [runF, runJ, r0, outD, sSeq, sNil, sRet, sRetN, sPass, sIf, sSet, sOwn, sPar, sAsg, sApp, sExt, sEx, sFor, sFrz, sSetI, loopS, putR, Cv.sl, pNil, pD, pO, mVar, mOwn, mC, mBin, mUn, mTst, asB, mIf, mNot, mAnd, mOr, mAndV, mOrV, mNotV, mNil, mCons, mTup, mLst, mCh, mIsN, mNotN, isN, mL, mDisp, mCall, mSl, mOn, mOs, slD, mRow, rowD, sqD, mZip, mEnum, mLc, lcS, wipeR, mYes, mLc2E, lc2E, gNm, gTp, gsCons, gsNil, gTuple, gList, gAll, bools, fAdd, fSub, fCmp, fNeg, List.map, List.set, Option.bind_some, Option.map_some, Option.bind_none, Option.map_none, List.getElem?_cons_zero, List.getElem?_cons_succ, List.length_cons, List.length_nil, List.length_map, List.append_eq, List.nil_append, List.cons_append, List.replicate, Nat.reduceSub, Nat.reduceAdd, Nat.reduceLeDiff, Nat.reduceLT, lineN, Nat.zero_le, Nat.zero_add, reduceIte, if_true, if_false, Bool.false_eq_true, Bool.not_true, Bool.not_false, List.zipWith, List.zipIdx, List.zipIdx_cons, List.zipIdx_nil, l1, l2', F_sign_of_ratio_eq, sg_ge]
  unfold F_is_in_polygon g_is_in_polygon
  simp only [runF, r0, outD, sZipAll, mZip, mCons, mNil, mCall, mVar, List.map, List.length_cons, List.length_nil, Nat.reduceSub, List.replicate, List.cons_append, List.nil_append, List.getElem?_cons_zero, Option.bind_some, Option.map_some, hs, sqD, hz]
  rw [hm]
  simp only [Option.bind_some, gAll, bools_map, Option.map_some, List.all_map, Nat.reduceLT, Nat.reduceAdd, if_true]
  rfl
def overB (k : Rat) (s z x : Pt) : Bool := decide (0 < sgTwo (-k) 1 (d2 x.1 x.2 z.1 z.2) (-1) (d2 x.1 x.2 s.1 s.2))
theorem overB_iff {k : Rat} : overB k s z x = true ↔ OverP k s z x := by
  unfold overB OverP Over
  rw [decide_eq_true_eq]
  exact sgTwo_over (d2_nn ..) (d2_nn ..)
theorem F_compared_by_eq {k u v : Rat} (hk : Sz 33 k) (hu : Sz m u) (hv : Sz m v) (h : 5 * m + 1000 ≤ 8999) :
    F_compared_by [.tuple [rD (-k), .tuple [.int 1, .int 1], rD u], .tuple [.tuple [.int 0, .int 1], .tuple [.int 1, .int 1], rD v]] = some (.int (sgTwo (-k) 1 u (-1) v)) := by
  have l1 := F_less_by_eq hk.neg sz0 (by omega)
  have e1 : -k - 0 = -k := by grind
  rw [e1] at l1
  have l2 := F_sign_of_two_eq hk.neg sz1 hu szm1 hv (by omega)
  have l3 := F_negative_eq (p := 1)
  unfold F_compared_by g_compared_by
  simp only [runF, runJ, r0, outD, sSeq, sNil, sRet, sRetN, sPass, sIf, sSet, sOwn, sPar, sAsg, sApp, sExt, sEx, sFor, sFrz, sSetI, loopS, putR, Cv.sl, pNil, pD, pO, mVar, mOwn, mC, mBin, mUn, mTst, asB, mIf, mNot, mAnd, mOr, mAndV, mOrV, mNotV, mNil, mCons, mTup, mLst, mCh, mIsN, mNotN, isN, mL, mDisp, mCall, mSl, mOn, mOs, slD, mRow, rowD, sqD, mZip, mEnum, mLc, lcS, wipeR, mYes, mLc2E, lc2E, gNm, gTp, gsCons, gsNil, gTuple, gList, gAll, bools, fAdd, fSub, fCmp, fNeg, List.map, List.set, Option.bind_some, Option.map_some, Option.bind_none, Option.map_none, List.getElem?_cons_zero, List.getElem?_cons_succ, List.length_cons, List.length_nil, List.length_map, List.append_eq, List.nil_append, List.cons_append, List.replicate, Nat.reduceSub, Nat.reduceAdd, Nat.reduceLeDiff, Nat.reduceLT, lineN, Nat.zero_le, Nat.zero_add, reduceIte, if_true, if_false, Bool.false_eq_true, Bool.not_true, Bool.not_false, List.zipWith, List.zipIdx, List.zipIdx_cons, List.zipIdx_nil, zeroD, oneD, jx0, jx1, jx2, l1, l3, l2]
theorem rw1 (w : Str) (p : Pt) (m : Rat) : fIx (rwD w p m) (.int 1) = some (ptD p) := rfl
theorem rw2 (w : Str) (p : Pt) (m : Rat) : fIx (rwD w p m) (.int 2) = some (rD m) := rfl
theorem rw0 (w : Str) (p : Pt) (m : Rat) : fIx (rwD w p m) (.int 0) = some (.str w) := rfl
theorem F_is_over_eq {w1 w2 : Str} {L H : Rat} (hx : PSz 250 x) (hs : PSz 16 s) (hz : PSz 16 z) (hL : Sz 16 L) (hH : Sz 16 H) : F_is_over [ptD x, rwD w1 s L, rwD w2 z H] = some (.bool (overB (H - L) s z x)) := by
  have l1 := F_less_by_eq hH hL (by omega)
  have l2 := F_square_between_eq hx hz (by omega)
  have l3 := F_square_between_eq hx hs (by omega)
  have l4 := F_compared_by_eq (k := H - L) (hH.sub hL) (m := 4 * (250 + 16 + 1) + 1) (sq_sz hx hz) (sq_sz hx hs) (by decide)
  have l5 := F_negative_eq (p := H - L)
  unfold F_is_over g_is_over
  simp only [runF, runJ, r0, outD, sSeq, sNil, sRet, sRetN, sPass, sIf, sSet, sOwn, sPar, sAsg, sApp, sExt, sEx, sFor, sFrz, sSetI, loopS, putR, Cv.sl, pNil, pD, pO, mVar, mOwn, mC, mBin, mUn, mTst, asB, mIf, mNot, mAnd, mOr, mAndV, mOrV, mNotV, mNil, mCons, mTup, mLst, mCh, mIsN, mNotN, isN, mL, mDisp, mCall, mSl, mOn, mOs, slD, mRow, rowD, sqD, mZip, mEnum, mLc, lcS, wipeR, mYes, mLc2E, lc2E, gNm, gTp, gsCons, gsNil, gTuple, gList, gAll, bools, fAdd, fSub, fCmp, fNeg, List.map, List.set, Option.bind_some, Option.map_some, Option.bind_none, Option.map_none, List.getElem?_cons_zero, List.getElem?_cons_succ, List.length_cons, List.length_nil, List.length_map, List.append_eq, List.nil_append, List.cons_append, List.replicate, Nat.reduceSub, Nat.reduceAdd, Nat.reduceLeDiff, Nat.reduceLT, lineN, Nat.zero_le, Nat.zero_add, reduceIte, if_true, if_false, Bool.false_eq_true, Bool.not_true, Bool.not_false, List.zipWith, List.zipIdx, List.zipIdx_cons, List.zipIdx_nil, rw1, rw2, l1, l2, l3, l5, l4]
  rfl
def th (k : Rat) (s z : Pt) (e : Pt × Pt) : Rat := ea k s z e * eb s z e - 4 * (k * k) * ((e.1.1 - s.1) * (e.2.1 - e.1.1) + (e.1.2 - s.2) * (e.2.2 - e.1.2))
theorem th_eq {k : Rat} {e : Pt × Pt} (h : e2 k s z e ≠ 0) : -(th k s z e / e2 k s z e) = -e1 k s z e / (2 * e2 k s z e) := by
  have : e1 k s z e = 2 * th k s z e := by
    unfold e1 th en1
    grind
  rw [this]
  generalize e2 k s z e = c at *
  generalize th k s z e = d at *
  grind
def tpt (k : Rat) (s z : Pt) (e : Pt × Pt) : Option Rat := if e2 k s z e = 0 then none else if 0 < -e1 k s z e / (2 * e2 k s z e) ∧ -e1 k s z e / (2 * e2 k s z e) < 1 then some (-e1 k s z e / (2 * e2 k s z e)) else none
theorem F_turning_part_eq {w1 w2 : Str} {L H : Rat} {e : Pt × Pt} (hp : PSz 16 e.1) (hq : PSz 16 e.2) (hs : PSz 16 s) (hz : PSz 16 z) (hL : Sz 16 L) (hH : Sz 16 H) :
    F_turning_part [ptD e.1, ptD (stp e), rwD w1 s L, rwD w2 z H] = some (.list ((tpt (H - L) s z e).toList.map rD)) := by
  have hst : PSz 33 (stp e) := PSz.sub hq hp
  have hk := hH.sub hL
  have a1 := F_less_by_eq hH hL (by omega)
  have a2 := F_product_eq hk hk (by omega)
  have a3 := F_square_between_eq hp hz (by omega)
  have a4 := F_square_between_eq hp hs (by omega)
  have a5 := F_less_by_eq (sq_sz hp hz) (sq_sz hp hs) (by omega)
  have hea := ((sq_sz hp hz).sub (sq_sz hp hs)).sub (hk.mul hk)
  have a6 := F_less_by_eq ((sq_sz hp hz).sub (sq_sz hp hs)) (hk.mul hk) (by omega)
  have a7 := F_less_row_eq hs hz (by omega)
  have a8 := F_dotted_eq hst (PSz.sub hs hz) (by omega)
  have sz2 : Sz 2 2 := ⟨by decide, by decide⟩
  have sz4 : Sz 3 4 := ⟨by decide, by decide⟩
  have hsz : PSz 33 (Ar.sub s z) := PSz.sub hs hz
  have hps : PSz 33 (Ar.sub e.1 s) := PSz.sub hp hs
  have d1 := (hst.x.mul hsz.x).add (hst.y.mul hsz.y)
  have d2' := (hps.x.mul hst.x).add (hps.y.mul hst.y)
  have d3 := (hst.x.mul hst.x).add (hst.y.mul hst.y)
  have a9 := F_product_eq sz2 d1 (by omega)
  have hr := sz2.mul d1
  have b1 := F_less_row_eq hp hs (by omega)
  have b2 := F_product_eq sz4 (hk.mul hk) (by omega)
  have h4 := sz4.mul (hk.mul hk)
  have b3 := F_product_eq hr hr (by omega)
  have b4 := F_dotted_eq hst hst (by omega)
  have b5 := F_product_eq h4 d3 (by omega)
  have b6 := F_less_by_eq (hr.mul hr) (h4.mul d3) (by omega)
  have hh2 := (hr.mul hr).sub (h4.mul d3)
  have b7 := F_product_eq hea hr (by omega)
  have b8 := F_dotted_eq hps hst (by omega)
  have b9 := F_product_eq h4 d2' (by omega)
  have c1 := F_less_by_eq (hea.mul hr) (h4.mul d2') (by omega)
  have hth := (hea.mul hr).sub (h4.mul d2')
  have two : (PyData.tuple [.int 2, .int 1] : Dt) = rD 2 := rfl
  have four : (PyData.tuple [.int 4, .int 1] : Dt) = rD 4 := rfl
  have sgz : sg (e2 (H - L) s z e) = 0 ↔ e2 (H - L) s z e = 0 := by
    unfold sg
    constructor
    · intro h
      split at h
      · cases h
      · split at h
        · cases h
        · grind
    · intro h
      rw [h]
      rfl
  have e2e : 2 * ((stp e).1 * (Ar.sub s z).1 + (stp e).2 * (Ar.sub s z).2) * (2 * ((stp e).1 * (Ar.sub s z).1 + (stp e).2 * (Ar.sub s z).2)) - 4 * ((H - L) * (H - L)) * ((stp e).1 * (stp e).1 + (stp e).2 * (stp e).2) = e2 (H - L) s z e := rfl
  have the : (d2 e.1.1 e.1.2 z.1 z.2 - d2 e.1.1 e.1.2 s.1 s.2 - (H - L) * (H - L)) * (2 * ((stp e).1 * (Ar.sub s z).1 + (stp e).2 * (Ar.sub s z).2)) - 4 * ((H - L) * (H - L)) * ((Ar.sub e.1 s).1 * (stp e).1 + (Ar.sub e.1 s).2 * (stp e).2) = th (H - L) s z e := rfl
  rw [e2e] at b6 hh2
  rw [the] at c1 hth
  unfold F_turning_part g_turning_part tpt
  by_cases h0 : e2 (H - L) s z e = 0
  · simp only [runF, runJ, r0, outD, sSeq, sNil, sRet, sRetN, sPass, sIf, sSet, sOwn, sPar, sAsg, sApp, sExt, sEx, sFor, sFrz, sSetI, loopS, putR, Cv.sl, pNil, pD, pO, mVar, mOwn, mC, mBin, mUn, mTst, asB, mIf, mNot, mAnd, mOr, mAndV, mOrV, mNotV, mNil, mCons, mTup, mLst, mCh, mIsN, mNotN, isN, mL, mDisp, mCall, mSl, mOn, mOs, slD, mRow, rowD, sqD, mZip, mEnum, mLc, lcS, wipeR, mYes, mLc2E, lc2E, gNm, gTp, gsCons, gsNil, gTuple, gList, gAll, bools, fAdd, fSub, fCmp, fNeg, List.map, List.set, Option.bind_some, Option.map_some, Option.bind_none, Option.map_none, List.getElem?_cons_zero, List.getElem?_cons_succ, List.length_cons, List.length_nil, List.length_map, List.append_eq, List.nil_append, List.cons_append, List.replicate, Nat.reduceSub, Nat.reduceAdd, Nat.reduceLeDiff, Nat.reduceLT, lineN, Nat.zero_le, Nat.zero_add, reduceIte, if_true, if_false, Bool.false_eq_true, Bool.not_true, Bool.not_false, List.zipWith, List.zipIdx, List.zipIdx_cons, List.zipIdx_nil, rw1, rw2, zeroD, two, four, a1, a2, a3, a4, a5, a6, a7, a8, a9, b1, b2, b3, b4, b5, b6, b7, b8, b9, c1, F_sign_of_ratio_eq, fEq_int, h0, show sg 0 = 0 from rfl, decide_true, if_true, Option.toList]
  · have h0' : ¬ sg (e2 (H - L) s z e) = 0 := fun q => h0 (sgz.mp q)
    have c2 := F_quotient_eq hth hh2 h0 (by omega)
    have c3 := F_negative_eq (p := th (H - L) s z e / e2 (H - L) s z e)
    rw [th_eq h0] at c3
    have szq : Sz 2000 (-(e1 (H - L) s z e) / (2 * e2 (H - L) s z e)) := by
      rw [← th_eq h0, Rat.div_def, Rat.inv_def]
      have hn : (e2 (H - L) s z e).num ≠ 0 := fun q => h0 (Rat.num_eq_zero.mp q)
      have i1 : Sz 480 (Rat.divInt ((e2 (H - L) s z e).den : Int) (e2 (H - L) s z e).num) := (sz_divInt hn (dn hh2) hh2.1).mono (by omega)
      exact ((hth.mul i1).neg).mono (by omega)
    have c4 := F_is_less_eq sz0 szq (by omega)
    have c5 := F_is_less_eq szq sz1 (by omega)
    simp only [runF, runJ, r0, outD, sSeq, sNil, sRet, sRetN, sPass, sIf, sSet, sOwn, sPar, sAsg, sApp, sExt, sEx, sFor, sFrz, sSetI, loopS, putR, Cv.sl, pNil, pD, pO, mVar, mOwn, mC, mBin, mUn, mTst, asB, mIf, mNot, mAnd, mOr, mAndV, mOrV, mNotV, mNil, mCons, mTup, mLst, mCh, mIsN, mNotN, isN, mL, mDisp, mCall, mSl, mOn, mOs, slD, mRow, rowD, sqD, mZip, mEnum, mLc, lcS, wipeR, mYes, mLc2E, lc2E, gNm, gTp, gsCons, gsNil, gTuple, gList, gAll, bools, fAdd, fSub, fCmp, fNeg, List.map, List.set, Option.bind_some, Option.map_some, Option.bind_none, Option.map_none, List.getElem?_cons_zero, List.getElem?_cons_succ, List.length_cons, List.length_nil, List.length_map, List.append_eq, List.nil_append, List.cons_append, List.replicate, Nat.reduceSub, Nat.reduceAdd, Nat.reduceLeDiff, Nat.reduceLT, lineN, Nat.zero_le, Nat.zero_add, reduceIte, if_true, if_false, Bool.false_eq_true, Bool.not_true, Bool.not_false, List.zipWith, List.zipIdx, List.zipIdx_cons, List.zipIdx_nil, rw1, rw2, zeroD, oneD, two, four, a1, a2, a3, a4, a5, a6, a7, a8, a9, b1, b2, b3, b4, b5, b6, b7, b8, b9, c1, c2, c3, c4, c5, F_sign_of_ratio_eq, fEq_int, h0', decide_false, Bool.false_eq_true, if_false, h0]
    by_cases q1 : 0 < -e1 (H - L) s z e / (2 * e2 (H - L) s z e)
    · by_cases q2 : -e1 (H - L) s z e / (2 * e2 (H - L) s z e) < 1
      · simp [q1, q2]
      · simp [q1, q2]
    · simp [q1]
end
end K29
end
section
set_option Elab.async false
set_option linter.all false
set_option autoImplicit false
set_option maxRecDepth 100000
namespace K29
open PySem PySem.Spec PyProof.Rows L2 Ev Ar
theorem find_map {α β γ : Type} (h : α → Option β) (D : β → γ) : ∀ L : List α, L.findSome? (fun a => (h a).map D) = (L.findSome? h).map D
  | [] => rfl
  | a :: L => by
    simp only [List.findSome?_cons]
    cases e : h a with
    | none => simp only [Option.map_none, find_map h D L]
    | some b => simp only [Option.map_some]
theorem fNe_nil (xs : List Dt) : fNe (.list xs) (.list []) = some (.bool (!xs.isEmpty)) := by
  have e : min (PyData.list xs).depth (PyData.list []).depth ≤ 64 := Nat.le_trans (Nat.min_le_right _ _) (by decide)
  unfold fNe
  rw [if_pos e]
  cases xs <;> rfl
def turnAt (k : Rat) (s z : Pt) (e : Pt × Pt) : Option Pt := (tpt k s z e).bind fun T => if overB k s z (mid e.1 e.2 T) = true then some (mid e.1 e.2 T) else none
def overAt (k : Rat) (s z x : Pt) : Option Pt := if overB k s z x = true then some x else none
def pairS (k : Rat) (s z : Pt) (cs : List Pt) : List Pt := match cs.findSome? (overAt k s z) with
  | some c => [c]
  | none => if k < 0 then [] else if ((Ed cs).all fun e => decide (0 ≤ hh e s)) = true ∧ overB k s z s = true then [s] else match (Ed cs).findSome? (turnAt k s z) with
    | some x => [x]
    | none => []
section
variable {p q x s z : Pt} {m n : Nat} {w1 w2 : Str} {L H : Rat}
theorem F_over_on_eq {e : Pt × Pt} {T : Rat} (hp : PSz 16 e.1) (hq : PSz 16 e.2) (hs : PSz 16 s) (hz : PSz 16 z) (hL : Sz 16 L) (hH : Sz 16 H) (hT : Sz 190 T) :
    F_over_on [ptD e.1, ptD (stp e), rwD w1 s L, rwD w2 z H, rD T] = some (.list (((overAt (H - L) s z (mid e.1 e.2 T)).toList.map ptD))) := by
  have hst : PSz 33 (stp e) := PSz.sub hq hp
  have a1 := F_scaled_row_eq hst hT (by omega)
  have hsc : PSz 223 ((stp e).1 * T, (stp e).2 * T) := ⟨hst.x.mul hT, hst.y.mul hT⟩
  have a2 := F_joined_row_eq hp hsc (by omega)
  have em : (e.1.1 + ((stp e).1 * T, (stp e).2 * T).1, e.1.2 + ((stp e).1 * T, (stp e).2 * T).2) = mid e.1 e.2 T := by
    unfold mid stp Ar.sub
    ext <;> simp <;> grind
  rw [em] at a2
  have hm : PSz 250 (mid e.1 e.2 T) := by
    rw [← em]
    exact ⟨(hp.x.add hsc.x).mono (by omega), (hp.y.add hsc.y).mono (by omega)⟩
  have a3 := F_is_over_eq (w1 := w1) (w2 := w2) hm hs hz hL hH
  unfold F_over_on g_over_on overAt
  simp only [runF, runJ, r0, outD, sSeq, sNil, sRet, sRetN, sPass, sIf, sSet, sOwn, sPar, sAsg, sApp, sExt, sEx, sFor, sFrz, sSetI, loopS, putR, Cv.sl, pNil, pD, pO, mVar, mOwn, mC, mBin, mUn, mTst, asB, mIf, mNot, mAnd, mOr, mAndV, mOrV, mNotV, mNil, mCons, mTup, mLst, mCh, mIsN, mNotN, isN, mL, mDisp, mCall, mSl, mOn, mOs, slD, mRow, rowD, sqD, mZip, mEnum, mLc, lcS, wipeR, mYes, mLc2E, lc2E, gNm, gTp, gsCons, gsNil, gTuple, gList, gAll, bools, fAdd, fSub, fCmp, fNeg, List.map, List.set, Option.bind_some, Option.map_some, Option.bind_none, Option.map_none, List.getElem?_cons_zero, List.getElem?_cons_succ, List.length_cons, List.length_nil, List.length_map, List.append_eq, List.nil_append, List.cons_append, List.replicate, Nat.reduceSub, Nat.reduceAdd, Nat.reduceLeDiff, Nat.reduceLT, lineN, Nat.zero_le, Nat.zero_add, reduceIte, if_true, if_false, Bool.false_eq_true, Bool.not_true, Bool.not_false, List.zipWith, List.zipIdx, List.zipIdx_cons, List.zipIdx_nil, a1, a2, a3]
  cases overB (H - L) s z (mid e.1 e.2 T) <;> rfl
theorem F_shut_by_pair_eq {cs : List Pt} (hc : ∀ c ∈ cs, PSz 16 c) (hl : cs.length ≤ 1000) (hs : PSz 16 s) (hz : PSz 16 z) (hL : Sz 16 L) (hH : Sz 16 H) (hT : ∀ e ∈ Ed cs, ∀ T, tpt (H - L) s z e = some T → Sz 190 T) :
    F_shut_by_pair [.tuple (cs.map ptD), rwD w1 s L, rwD w2 z H] = some (.list ((pairS (H - L) s z cs).map ptD)) := by
  have hst := F_steps_of_eq hc (by omega) hl
  have hip := F_is_in_polygon_eq hc hs (by omega) hl
  have hov := F_is_over_eq (w1 := w1) (w2 := w2) (x := s) ⟨hs.x.mono (by omega), hs.y.mono (by omega)⟩ hs hz hL hH
  have hle := F_is_less_eq hH hL (by omega)
  have ec : cs.map ptD = (Ed cs).map fun e => ptD e.1 := by
    conv => lhs; rw [← Ed_fst cs]
    rw [List.map_map]
    rfl
  have hzp : List.zipWith (fun x y => PyData.tuple [x, y]) (cs.map ptD) ((Ed cs).map fun e => ptD (stp e)) = (Ed cs).map fun e => .tuple [ptD e.1, ptD (stp e)] := by
    rw [ec, zip_map2]
  -- the first loop
  have A := loopS_scan (t := gNm 3) (b := sIf (mTst (mCall F_is_over (mCons (mVar 3) (mCons (mVar 1) (mCons (mVar 2) mNil))))) (sRet (mLst (mCons (mVar 3) mNil))) sNil) (j := [])
    (fun r => ∃ a b c d, r = [some (Sl.d (.tuple (cs.map ptD))), some (Sl.d (rwD w1 s L)), some (Sl.d (rwD w2 z H)), a, b, c, d]) ptD (fun c => (overAt (H - L) s z c).map fun x => .list [ptD x]) (L := cs) (by
      rintro c hcm r ⟨a, b, c', d, rfl⟩
      have ho := F_is_over_eq (w1 := w1) (w2 := w2) (x := c) ⟨(hc c hcm).x.mono (by omega), (hc c hcm).y.mono (by omega)⟩ hs hz hL hH
      refine ⟨_, rfl, ?_⟩
      unfold overAt
      cases hb : overB (H - L) s z c with
      | true =>
        simp only [if_true, Option.map_some]
        simp only [runF, runJ, r0, outD, sSeq, sNil, sRet, sRetN, sPass, sIf, sSet, sOwn, sPar, sAsg, sApp, sExt, sEx, sFor, sFrz, sSetI, loopS, putR, Cv.sl, pNil, pD, pO, mVar, mOwn, mC, mBin, mUn, mTst, asB, mIf, mNot, mAnd, mOr, mAndV, mOrV, mNotV, mNil, mCons, mTup, mLst, mCh, mIsN, mNotN, isN, mL, mDisp, mCall, mSl, mOn, mOs, slD, mRow, rowD, sqD, mZip, mEnum, mLc, lcS, wipeR, mYes, mLc2E, lc2E, gNm, gTp, gsCons, gsNil, gTuple, gList, gAll, bools, fAdd, fSub, fCmp, fNeg, List.map, List.set, Option.bind_some, Option.map_some, Option.bind_none, Option.map_none, List.getElem?_cons_zero, List.getElem?_cons_succ, List.length_cons, List.length_nil, List.length_map, List.append_eq, List.nil_append, List.cons_append, List.replicate, Nat.reduceSub, Nat.reduceAdd, Nat.reduceLeDiff, Nat.reduceLT, lineN, Nat.zero_le, Nat.zero_add, reduceIte, if_true, if_false, Bool.false_eq_true, Bool.not_true, Bool.not_false, List.zipWith, List.zipIdx, List.zipIdx_cons, List.zipIdx_nil, ho, hb, if_true]
        exact ⟨_, rfl⟩
      | false =>
        simp only [Bool.false_eq_true, if_false, Option.map_none]
        refine ⟨_, ⟨some (Sl.d (ptD c)), b, c', d, rfl⟩, ?_⟩
        simp only [runF, runJ, r0, outD, sSeq, sNil, sRet, sRetN, sPass, sIf, sSet, sOwn, sPar, sAsg, sApp, sExt, sEx, sFor, sFrz, sSetI, loopS, putR, Cv.sl, pNil, pD, pO, mVar, mOwn, mC, mBin, mUn, mTst, asB, mIf, mNot, mAnd, mOr, mAndV, mOrV, mNotV, mNil, mCons, mTup, mLst, mCh, mIsN, mNotN, isN, mL, mDisp, mCall, mSl, mOn, mOs, slD, mRow, rowD, sqD, mZip, mEnum, mLc, lcS, wipeR, mYes, mLc2E, lc2E, gNm, gTp, gsCons, gsNil, gTuple, gList, gAll, bools, fAdd, fSub, fCmp, fNeg, List.map, List.set, Option.bind_some, Option.map_some, Option.bind_none, Option.map_none, List.getElem?_cons_zero, List.getElem?_cons_succ, List.length_cons, List.length_nil, List.length_map, List.append_eq, List.nil_append, List.cons_append, List.replicate, Nat.reduceSub, Nat.reduceAdd, Nat.reduceLeDiff, Nat.reduceLT, lineN, Nat.zero_le, Nat.zero_add, reduceIte, if_true, if_false, Bool.false_eq_true, Bool.not_true, Bool.not_false, List.zipWith, List.zipIdx, List.zipIdx_cons, List.zipIdx_nil, ho, hb, Bool.false_eq_true, if_false])
  have B := loopS_scan (t := gTp (gsCons (gNm 3) (gsCons (gNm 4) gsNil))) (b := sFor (mRow (mCall F_turning_part (mCons (mVar 3) (mCons (mVar 4) (mCons (mVar 1) (mCons (mVar 2) mNil)))))) (gNm 5) (sSeq (sSet 6 (mCall F_over_on (mCons (mVar 3) (mCons (mVar 4) (mCons (mVar 1) (mCons (mVar 2) (mCons (mVar 5) mNil))))))) (sIf (mTst (mBin fNe (mVar 6) (mLst mNil))) (sRet (mVar 6)) sNil))) (j := [])
    (fun r => ∃ a b c d, r = [some (Sl.d (.tuple (cs.map ptD))), some (Sl.d (rwD w1 s L)), some (Sl.d (rwD w2 z H)), a, b, c, d]) (fun e => .tuple [ptD e.1, ptD (stp e)]) (fun e => (turnAt (H - L) s z e).map fun x => .list [ptD x]) (L := Ed cs) (by
      rintro e he r ⟨a, b, c', d, rfl⟩
      have h1 := hc _ (Ed_mem he).1
      have h2 := hc _ (Ed_mem he).2
      have ht := F_turning_part_eq (w1 := w1) (w2 := w2) h1 h2 hs hz hL hH
      refine ⟨_, rfl, ?_⟩
      unfold turnAt
      cases hb : tpt (H - L) s z e with
      | none =>
        rw [hb] at ht
        simp only [Option.bind_none, Option.map_none]
        refine ⟨_, ⟨some (Sl.d (ptD e.1)), some (Sl.d (ptD (stp e))), c', d, rfl⟩, ?_⟩
        simp only [runF, runJ, r0, outD, sSeq, sNil, sRet, sRetN, sPass, sIf, sSet, sOwn, sPar, sAsg, sApp, sExt, sEx, sFor, sFrz, sSetI, loopS, putR, Cv.sl, pNil, pD, pO, mVar, mOwn, mC, mBin, mUn, mTst, asB, mIf, mNot, mAnd, mOr, mAndV, mOrV, mNotV, mNil, mCons, mTup, mLst, mCh, mIsN, mNotN, isN, mL, mDisp, mCall, mSl, mOn, mOs, slD, mRow, rowD, sqD, mZip, mEnum, mLc, lcS, wipeR, mYes, mLc2E, lc2E, gNm, gTp, gsCons, gsNil, gTuple, gList, gAll, bools, fAdd, fSub, fCmp, fNeg, List.map, List.set, Option.bind_some, Option.map_some, Option.bind_none, Option.map_none, List.getElem?_cons_zero, List.getElem?_cons_succ, List.length_cons, List.length_nil, List.length_map, List.append_eq, List.nil_append, List.cons_append, List.replicate, Nat.reduceSub, Nat.reduceAdd, Nat.reduceLeDiff, Nat.reduceLT, lineN, Nat.zero_le, Nat.zero_add, reduceIte, if_true, if_false, Bool.false_eq_true, Bool.not_true, Bool.not_false, List.zipWith, List.zipIdx, List.zipIdx_cons, List.zipIdx_nil, ht, Option.toList]
      | some T =>
        rw [hb] at ht
        have ho := F_over_on_eq (w1 := w1) (w2 := w2) h1 h2 hs hz hL hH (hT e he T hb)
        unfold overAt at ho
        simp only [Option.bind_some]
        cases hb2 : overB (H - L) s z (mid e.1 e.2 T) with
        | true =>
          rw [hb2] at ho
          simp only [if_true, Option.map_some]
          simp only [runF, runJ, r0, outD, sSeq, sNil, sRet, sRetN, sPass, sIf, sSet, sOwn, sPar, sAsg, sApp, sExt, sEx, sFor, sFrz, sSetI, loopS, putR, Cv.sl, pNil, pD, pO, mVar, mOwn, mC, mBin, mUn, mTst, asB, mIf, mNot, mAnd, mOr, mAndV, mOrV, mNotV, mNil, mCons, mTup, mLst, mCh, mIsN, mNotN, isN, mL, mDisp, mCall, mSl, mOn, mOs, slD, mRow, rowD, sqD, mZip, mEnum, mLc, lcS, wipeR, mYes, mLc2E, lc2E, gNm, gTp, gsCons, gsNil, gTuple, gList, gAll, bools, fAdd, fSub, fCmp, fNeg, List.map, List.set, Option.bind_some, Option.map_some, Option.bind_none, Option.map_none, List.getElem?_cons_zero, List.getElem?_cons_succ, List.length_cons, List.length_nil, List.length_map, List.append_eq, List.nil_append, List.cons_append, List.replicate, Nat.reduceSub, Nat.reduceAdd, Nat.reduceLeDiff, Nat.reduceLT, lineN, Nat.zero_le, Nat.zero_add, reduceIte, if_true, if_false, Bool.false_eq_true, Bool.not_true, Bool.not_false, List.zipWith, List.zipIdx, List.zipIdx_cons, List.zipIdx_nil, ht, ho, Option.toList, fNe_nil, List.isEmpty_cons, Bool.not_false, if_true]
          exact ⟨_, rfl⟩
        | false =>
          rw [hb2] at ho
          simp only [Bool.false_eq_true, if_false, Option.map_none]
          refine ⟨_, ⟨some (Sl.d (ptD e.1)), some (Sl.d (ptD (stp e))), some (Sl.d (rD T)), some (Sl.d (.list [])), rfl⟩, ?_⟩
          simp only [runF, runJ, r0, outD, sSeq, sNil, sRet, sRetN, sPass, sIf, sSet, sOwn, sPar, sAsg, sApp, sExt, sEx, sFor, sFrz, sSetI, loopS, putR, Cv.sl, pNil, pD, pO, mVar, mOwn, mC, mBin, mUn, mTst, asB, mIf, mNot, mAnd, mOr, mAndV, mOrV, mNotV, mNil, mCons, mTup, mLst, mCh, mIsN, mNotN, isN, mL, mDisp, mCall, mSl, mOn, mOs, slD, mRow, rowD, sqD, mZip, mEnum, mLc, lcS, wipeR, mYes, mLc2E, lc2E, gNm, gTp, gsCons, gsNil, gTuple, gList, gAll, bools, fAdd, fSub, fCmp, fNeg, List.map, List.set, Option.bind_some, Option.map_some, Option.bind_none, Option.map_none, List.getElem?_cons_zero, List.getElem?_cons_succ, List.length_cons, List.length_nil, List.length_map, List.append_eq, List.nil_append, List.cons_append, List.replicate, Nat.reduceSub, Nat.reduceAdd, Nat.reduceLeDiff, Nat.reduceLT, lineN, Nat.zero_le, Nat.zero_add, reduceIte, if_true, if_false, Bool.false_eq_true, Bool.not_true, Bool.not_false, List.zipWith, List.zipIdx, List.zipIdx_cons, List.zipIdx_nil, ht, ho, Option.toList, fNe_nil, List.isEmpty_nil, Bool.not_true, Bool.false_eq_true, if_false])
  have A1 := A [some (Sl.d (.tuple (cs.map ptD))), some (Sl.d (rwD w1 s L)), some (Sl.d (rwD w2 z H)), none, none, none, none] ⟨_, _, _, _, rfl⟩
  rw [find_map] at A1
  unfold F_shut_by_pair g_shut_by_pair pairS
  have hkn : (H < L) ↔ (H - L < 0) := by grind
  cases hA : cs.findSome? (overAt (H - L) s z) with
  | some c =>
    rw [hA] at A1
    simp only [Option.map_some] at A1
    obtain ⟨r2, A1⟩ := A1
    simp only [runF, r0, outD, sSeq, sFor, mRow, rowD, mVar, List.map, List.length_cons, List.length_nil, Nat.reduceSub, List.replicate, List.cons_append, List.nil_append, List.getElem?_cons_zero, Option.bind_some, Option.map_some, A1]
  | none =>
    rw [hA] at A1
    simp only [Option.map_none] at A1
    obtain ⟨r2, ⟨a, b, c, d, rfl⟩, A1⟩ := A1
    have B1 := B [some (Sl.d (.tuple (cs.map ptD))), some (Sl.d (rwD w1 s L)), some (Sl.d (rwD w2 z H)), a, b, c, d] ⟨_, _, _, _, rfl⟩
    rw [find_map] at B1
    by_cases hk : H - L < 0
    · have hk' := hkn.mpr hk
      simp only [runF, r0, outD, sSeq, sFor, mRow, rowD, mVar, List.map, List.length_cons, List.length_nil, Nat.reduceSub, List.replicate, List.cons_append, List.nil_append, List.getElem?_cons_zero, Option.bind_some, Option.map_some, A1]
      simp only [runF, runJ, r0, outD, sSeq, sNil, sRet, sRetN, sPass, sIf, sSet, sOwn, sPar, sAsg, sApp, sExt, sEx, sFor, sFrz, sSetI, loopS, putR, Cv.sl, pNil, pD, pO, mVar, mOwn, mC, mBin, mUn, mTst, asB, mIf, mNot, mAnd, mOr, mAndV, mOrV, mNotV, mNil, mCons, mTup, mLst, mCh, mIsN, mNotN, isN, mL, mDisp, mCall, mSl, mOn, mOs, slD, mRow, rowD, sqD, mZip, mEnum, mLc, lcS, wipeR, mYes, mLc2E, lc2E, gNm, gTp, gsCons, gsNil, gTuple, gList, gAll, bools, fAdd, fSub, fCmp, fNeg, List.map, List.set, Option.bind_some, Option.map_some, Option.bind_none, Option.map_none, List.getElem?_cons_zero, List.getElem?_cons_succ, List.length_cons, List.length_nil, List.length_map, List.append_eq, List.nil_append, List.cons_append, List.replicate, Nat.reduceSub, Nat.reduceAdd, Nat.reduceLeDiff, Nat.reduceLT, lineN, Nat.zero_le, Nat.zero_add, reduceIte, if_true, if_false, Bool.false_eq_true, Bool.not_true, Bool.not_false, List.zipWith, List.zipIdx, List.zipIdx_cons, List.zipIdx_nil, rw1, rw2, hle, hk', hk, decide_true, if_true]
    · have hk' : ¬ H < L := fun q => hk (hkn.mp q)
      simp only [runF, r0, outD, sSeq, sFor, mRow, rowD, mVar, List.map, List.length_cons, List.length_nil, Nat.reduceSub, List.replicate, List.cons_append, List.nil_append, List.getElem?_cons_zero, Option.bind_some, Option.map_some, A1]
      by_cases hin : ((Ed cs).all fun e => decide (0 ≤ hh e s)) = true ∧ overB (H - L) s z s = true
      · simp only [sIf, mTst, mAnd, mCall, mBin, mC, mCons, mNil, mVar, mLst, asB, sRet, sNil, List.getElem?_cons_zero, List.getElem?_cons_succ, Option.bind_some, Option.map_some, rw1, rw2, hle, hk', hk, decide_false, Bool.false_eq_true, if_false, hip, hov, hin.1, hin.2, if_true, and_self, List.length_cons, List.length_nil, Nat.reduceLeDiff, Nat.reduceAdd]
        rfl
      · have hb1 : ((if ((Ed cs).all fun e => decide (0 ≤ hh e s)) = true then some (overB (H - L) s z s, ([] : Jr)) else some (false, [])) : Option (Bool × Jr)) = some (false, []) := by
          by_cases q1 : ((Ed cs).all fun e => decide (0 ≤ hh e s)) = true
          · have q2 : overB (H - L) s z s = false := by
              cases q : overB (H - L) s z s with
              | false => rfl
              | true => exact absurd ⟨q1, q⟩ hin
            rw [if_pos q1, q2]
          · rw [if_neg q1]
        rw [if_neg hin]
        simp only [sIf, mTst, mAnd, mCall, mBin, mC, mCons, mNil, mVar, mLst, asB, sRet, sNil, List.getElem?_cons_zero, List.getElem?_cons_succ, Option.bind_some, Option.map_some, rw1, rw2, hle, hk', hk, decide_false, Bool.false_eq_true, if_false, hip, hov, hb1, List.length_cons, List.length_nil, Nat.reduceLeDiff, Nat.reduceAdd]
        cases hB : (Ed cs).findSome? (turnAt (H - L) s z) with
        | some y =>
          rw [hB] at B1
          simp only [Option.map_some] at B1
          obtain ⟨r3, B1⟩ := B1
          simp only [sFor, mRow, rowD, mTst, mAnd, mCall, mBin, mC, mCons, mNil, mVar, mLst, asB, sRet, sNil, sSeq, sSet, sIf, List.getElem?_cons_zero, List.getElem?_cons_succ, Option.bind_some, Option.map_some, mZip, sqD, hst, hzp] at B1 ⊢
          rw [B1]
          rfl
        | none =>
          rw [hB] at B1
          simp only [Option.map_none] at B1
          obtain ⟨r3, _, B1⟩ := B1
          simp only [sFor, mRow, rowD, mTst, mAnd, mCall, mBin, mC, mCons, mNil, mVar, mLst, asB, sRet, sNil, sSeq, sSet, sIf, List.getElem?_cons_zero, List.getElem?_cons_succ, Option.bind_some, Option.map_some, mZip, sqD, hst, hzp] at B1 ⊢
          rw [B1]
          rfl
end
end K29
end
section
set_option Elab.async false
set_option linter.all false
set_option autoImplicit false
set_option maxRecDepth 100000
namespace K29
open PySem PySem.Spec PyProof.Rows L2 Ev Ar
theorem F_is_whole_eq (i : Int) : F_is_whole [.int i] = some (.bool true) := by kernel_rfl
theorem isiT (ds : List Dt) : gIsi "tuple" (.tuple ds) = some (.bool true) := by kernel_rfl
theorem isiS (x : Str) : gIsi "str" (.str x) = some (.bool true) := by kernel_rfl
theorem rD_len (q : Rat) : gLen (rD q) = some (.int 2) := by kernel_rfl
theorem rD_isi (q : Rat) : gIsi "tuple" (rD q) = some (.bool true) := by kernel_rfl
theorem gcd_rD (q : Rat) : gGcd (.int q.num) (.int (q.den : Int)) = some (.int 1) := by
  have h : Nat.gcd q.num.natAbs (q.den : Int).natAbs = 1 := q.reduced
  unfold gGcd
  simp only [h]
  rfl
theorem F_is_ratio_eq (q : Rat) : F_is_ratio [rD q] = some (.bool true) := by
  have hd : (0 : Int) < q.den := by
    have := den_pos q
    omega
  unfold F_is_ratio g_is_ratio
  simp only [runF, runJ, r0, outD, sSeq, sNil, sRet, sRetN, sPass, sIf, sSet, sOwn, sPar, sAsg, sApp, sExt, sEx, sFor, sFrz, sSetI, loopS, putR, Cv.sl, pNil, pD, pO, mVar, mOwn, mC, mBin, mUn, mTst, asB, mIf, mNot, mAnd, mOr, mAndV, mOrV, mNotV, mNil, mCons, mTup, mLst, mCh, mIsN, mNotN, isN, mL, mDisp, mCall, mSl, mOn, mOs, slD, mRow, rowD, sqD, mZip, mEnum, mLc, lcS, wipeR, mYes, mLc2E, lc2E, gNm, gTp, gsCons, gsNil, gTuple, gList, gAll, bools, fAdd, fSub, fCmp, fNeg, List.map, List.set, Option.bind_some, Option.map_some, Option.bind_none, Option.map_none, List.getElem?_cons_zero, List.getElem?_cons_succ, List.length_cons, List.length_nil, List.length_map, List.append_eq, List.nil_append, List.cons_append, List.replicate, Nat.reduceSub, Nat.reduceAdd, Nat.reduceLeDiff, Nat.reduceLT, lineN, Nat.zero_le, Nat.zero_add, reduceIte, if_true, if_false, Bool.false_eq_true, Bool.not_true, Bool.not_false, List.zipWith, List.zipIdx, List.zipIdx_cons, List.zipIdx_nil, rD_isi, rD_len, rx0, rx1, F_is_whole_eq, gcd_rD, fNe_int, fEq_int, hd, decide_true, Bool.not_true, Bool.false_eq_true, if_false, if_true]
def stD (w : Str) (p : Pt) : Dt := .tuple [.str w, rD p.1, rD p.2]
/-- the names of the one and of the other -/
def nm (b : Bool) : Str := if b = true then "b" else "a"
def scD (p0 p1 : Pt) (b : Bool) (L H : Rat) : Dt := .tuple [.tuple [stD "a" p0, stD "b" p1], .tuple [.tuple [.str (nm b), rD L, .none], .tuple [.str (nm (!b)), .none, rD H]], .tuple []]
section
variable {p0 p1 : Pt} {b : Bool} {L H : Rat}
theorem F_rows_by_eq : F_rows_by [scD p0 p1 b L H] = some (.tuple [.tuple [.str "low", .int 0], .tuple [.str "high", .int 1]]) := by
  cases b <;> kernel_rfl
theorem mk0 : F_made_row [scD p0 p1 b L H, .tuple [.str "low", .int 0]] = some (rwD "low" (if b = true then p1 else p0) L) := by
  cases b <;> kernel_rfl
theorem mk1 : F_made_row [scD p0 p1 b L H, .tuple [.str "high", .int 1]] = some (rwD "high" (if b = true then p0 else p1) H) := by
  cases b <;> kernel_rfl
theorem F_made_rows_eq : F_made_rows [scD p0 p1 b L H] = some (.list [rwD "low" (if b = true then p1 else p0) L, rwD "high" (if b = true then p0 else p1) H]) := by
  unfold F_made_rows g_made_rows
  simp only [runF, runJ, r0, outD, sSeq, sNil, sRet, sRetN, sPass, sIf, sSet, sOwn, sPar, sAsg, sApp, sExt, sEx, sFor, sFrz, sSetI, loopS, putR, Cv.sl, pNil, pD, pO, mVar, mOwn, mC, mBin, mUn, mTst, asB, mIf, mNot, mAnd, mOr, mAndV, mOrV, mNotV, mNil, mCons, mTup, mLst, mCh, mIsN, mNotN, isN, mL, mDisp, mCall, mSl, mOn, mOs, slD, mRow, rowD, sqD, mZip, mEnum, mLc, lcS, wipeR, mYes, mLc2E, lc2E, gNm, gTp, gsCons, gsNil, gTuple, gList, gAll, bools, fAdd, fSub, fCmp, fNeg, List.map, List.set, Option.bind_some, Option.map_some, Option.bind_none, Option.map_none, List.getElem?_cons_zero, List.getElem?_cons_succ, List.length_cons, List.length_nil, List.length_map, List.append_eq, List.nil_append, List.cons_append, List.replicate, Nat.reduceSub, Nat.reduceAdd, Nat.reduceLeDiff, Nat.reduceLT, lineN, Nat.zero_le, Nat.zero_add, reduceIte, if_true, if_false, Bool.false_eq_true, Bool.not_true, Bool.not_false, List.zipWith, List.zipIdx, List.zipIdx_cons, List.zipIdx_nil, F_rows_by_eq, mk0, mk1]
theorem F_is_within_eq (x : Dt) : F_is_within [scD p0 p1 b L H, x] = some (.bool true) := by kernel_rfl
theorem named (b : Bool) : F_is_named [.str (nm b)] = some (.bool true) := by
  cases b <;> kernel_rfl
theorem row3 (x y z : Dt) : F_is_row_of [.tuple [x, y, z], .int 3, .int 3] = some (.bool true) := by kernel_rfl
theorem wst0 : F_wrong_in_station [stD "a" p0, .tuple []] = some (.list []) := by
  have n := named false
  unfold F_wrong_in_station g_wrong_in_station
  have e0 : fIx (stD "a" p0) (.int 0) = some (.str "a") := by kernel_rfl
  have e1 : fIx (stD "a" p0) (.int 1) = some (rD p0.1) := by kernel_rfl
  have e2 : fIx (stD "a" p0) (.int 2) = some (rD p0.2) := by kernel_rfl
  have n' : F_is_named [.str "a"] = some (.bool true) := n
  have r : F_is_row_of [stD "a" p0, .int 3, .int 3] = some (.bool true) := by kernel_rfl
  simp only [runF, runJ, r0, outD, sSeq, sNil, sRet, sRetN, sPass, sIf, sSet, sOwn, sPar, sAsg, sApp, sExt, sEx, sFor, sFrz, sSetI, loopS, putR, Cv.sl, pNil, pD, pO, mVar, mOwn, mC, mBin, mUn, mTst, asB, mIf, mNot, mAnd, mOr, mAndV, mOrV, mNotV, mNil, mCons, mTup, mLst, mCh, mIsN, mNotN, isN, mL, mDisp, mCall, mSl, mOn, mOs, slD, mRow, rowD, sqD, mZip, mEnum, mLc, lcS, wipeR, mYes, mLc2E, lc2E, gNm, gTp, gsCons, gsNil, gTuple, gList, gAll, bools, fAdd, fSub, fCmp, fNeg, List.map, List.set, Option.bind_some, Option.map_some, Option.bind_none, Option.map_none, List.getElem?_cons_zero, List.getElem?_cons_succ, List.length_cons, List.length_nil, List.length_map, List.append_eq, List.nil_append, List.cons_append, List.replicate, Nat.reduceSub, Nat.reduceAdd, Nat.reduceLeDiff, Nat.reduceLT, lineN, Nat.zero_le, Nat.zero_add, reduceIte, if_true, if_false, Bool.false_eq_true, Bool.not_true, Bool.not_false, List.zipWith, List.zipIdx, List.zipIdx_cons, List.zipIdx_nil, e0, e1, e2, n', r, F_is_ratio_eq, fNe_nil, List.isEmpty_nil, Bool.not_true, Bool.false_eq_true, if_false, if_true]
theorem wst1 (h : p0 ≠ p1) : F_wrong_in_station [stD "b" p1, .tuple [stD "a" p0]] = some (.list []) := by
  have n := named true
  have e0 : fIx (stD "b" p1) (.int 0) = some (.str "b") := by kernel_rfl
  have e1 : fIx (stD "b" p1) (.int 1) = some (rD p1.1) := by kernel_rfl
  have e2 : fIx (stD "b" p1) (.int 2) = some (rD p1.2) := by kernel_rfl
  have f0 : fIx (stD "a" p0) (.int 0) = some (.str "a") := by kernel_rfl
  have n' : F_is_named [.str "b"] = some (.bool true) := n
  have r : F_is_row_of [stD "b" p1, .int 3, .int 3] = some (.bool true) := by kernel_rfl
  have sl : ∀ (w : Str) (p : Pt), slD (stD w p) (some 1) none = some (.tuple [rD p.1, rD p.2]) := fun w p => rfl
  have q0 : fEq (.str ("a" : Str)) (.str ("b" : Str)) = some (.bool false) := by kernel_rfl
  have q1 : fEq (.tuple [rD p0.1, rD p0.2]) (.tuple [rD p1.1, rD p1.2]) = some (.bool false) := by
    have e : min (PyData.tuple [rD p0.1, rD p0.2]).depth (PyData.tuple [rD p1.1, rD p1.2]).depth ≤ 64 := (by decide : (2 : Nat) ≤ 64)
    have ee : PyData.eqv (.tuple [rD p0.1, rD p0.2]) (.tuple [rD p1.1, rD p1.2]) = (PyData.eqv (rD p0.1) (rD p1.1) && (PyData.eqv (rD p0.2) (rD p1.2) && true)) := by kernel_rfl
    unfold fEq
    rw [if_pos e, ee, eqv_rD, eqv_rD]
    by_cases a : p0.1 = p1.1
    · have a2 : ¬ p0.2 = p1.2 := fun q => h (Prod.ext a q)
      simp [a2]
    · simp [a]
  unfold F_wrong_in_station g_wrong_in_station
  simp only [runF, runJ, r0, outD, sSeq, sNil, sRet, sRetN, sPass, sIf, sSet, sOwn, sPar, sAsg, sApp, sExt, sEx, sFor, sFrz, sSetI, loopS, putR, Cv.sl, pNil, pD, pO, mVar, mOwn, mC, mBin, mUn, mTst, asB, mIf, mNot, mAnd, mOr, mAndV, mOrV, mNotV, mNil, mCons, mTup, mLst, mCh, mIsN, mNotN, isN, mL, mDisp, mCall, mSl, mOn, mOs, slD, mRow, rowD, sqD, mZip, mEnum, mLc, lcS, wipeR, mYes, mLc2E, lc2E, gNm, gTp, gsCons, gsNil, gTuple, gList, gAll, bools, fAdd, fSub, fCmp, fNeg, List.map, List.set, Option.bind_some, Option.map_some, Option.bind_none, Option.map_none, List.getElem?_cons_zero, List.getElem?_cons_succ, List.length_cons, List.length_nil, List.length_map, List.append_eq, List.nil_append, List.cons_append, List.replicate, Nat.reduceSub, Nat.reduceAdd, Nat.reduceLeDiff, Nat.reduceLT, lineN, Nat.zero_le, Nat.zero_add, reduceIte, if_true, if_false, Bool.false_eq_true, Bool.not_true, Bool.not_false, List.zipWith, List.zipIdx, List.zipIdx_cons, List.zipIdx_nil, e0, e1, e2, f0, n', r, F_is_ratio_eq, fNe_nil, List.isEmpty_nil, Bool.not_true, Bool.false_eq_true, if_false, if_true, q0]
  have sl' := sl
  simp only [slD] at sl'
  simp only [sl', Option.map_some, Option.bind_some, q1, Bool.false_eq_true, if_false, fNe_nil, List.isEmpty_nil, Bool.not_true]
theorem wsts (h : p0 ≠ p1) : F_wrong_in_stations [.tuple [stD "a" p0, stD "b" p1]] = some (.list []) := by
  have r : F_is_row_of [.tuple [stD "a" p0, stD "b" p1], .int 1, .int 12] = some (.bool true) := by kernel_rfl
  have c0 : Ev.cutD [stD "a" p0, stD "b" p1] none (some ((0 : Nat) : Int)) = [] := by kernel_rfl
  have c1 : Ev.cutD [stD "a" p0, stD "b" p1] none (some ((1 : Nat) : Int)) = [stD "a" p0] := by kernel_rfl
  unfold F_wrong_in_stations g_wrong_in_stations
  simp only [runF, runJ, r0, outD, sSeq, sNil, sRet, sRetN, sPass, sIf, sSet, sOwn, sPar, sAsg, sApp, sExt, sEx, sFor, sFrz, sSetI, loopS, putR, Cv.sl, pNil, pD, pO, mVar, mOwn, mC, mBin, mUn, mTst, asB, mIf, mNot, mAnd, mOr, mAndV, mOrV, mNotV, mNil, mCons, mTup, mLst, mCh, mIsN, mNotN, isN, mL, mDisp, mCall, mSl, mOn, mOs, slD, mRow, rowD, sqD, mZip, mEnum, mLc, lcS, wipeR, mYes, mLc2E, lc2E, gNm, gTp, gsCons, gsNil, gTuple, gList, gAll, bools, fAdd, fSub, fCmp, fNeg, List.map, List.set, Option.bind_some, Option.map_some, Option.bind_none, Option.map_none, List.getElem?_cons_zero, List.getElem?_cons_succ, List.length_cons, List.length_nil, List.length_map, List.append_eq, List.nil_append, List.cons_append, List.replicate, Nat.reduceSub, Nat.reduceAdd, Nat.reduceLeDiff, Nat.reduceLT, lineN, Nat.zero_le, Nat.zero_add, reduceIte, if_true, if_false, Bool.false_eq_true, Bool.not_true, Bool.not_false, List.zipWith, List.zipIdx, List.zipIdx_cons, List.zipIdx_nil, r, c0, c1, wst0, wst1 h, Bool.not_true, Bool.false_eq_true, if_false]
theorem wrd (b c : Bool) (x y : Dt) (hx : F_is_let_end [x] = some (.bool true)) (hy : F_is_let_end [y] = some (.bool true)) (he : F_are_ends [x, y] = some (.bool true)) : F_wrong_in_reading [.tuple [.str (nm b), x, y], .list [.str "a", .str "b"]] = some (.list []) := by
  have ni : fNotIn (.str (nm b)) (.list [.str "a", .str "b"]) = some (.bool false) := by cases b <;> kernel_rfl
  unfold F_wrong_in_reading g_wrong_in_reading
  simp only [runF, runJ, r0, outD, sSeq, sNil, sRet, sRetN, sPass, sIf, sSet, sOwn, sPar, sAsg, sApp, sExt, sEx, sFor, sFrz, sSetI, loopS, putR, Cv.sl, pNil, pD, pO, mVar, mOwn, mC, mBin, mUn, mTst, asB, mIf, mNot, mAnd, mOr, mAndV, mOrV, mNotV, mNil, mCons, mTup, mLst, mCh, mIsN, mNotN, isN, mL, mDisp, mCall, mSl, mOn, mOs, slD, mRow, rowD, sqD, mZip, mEnum, mLc, lcS, wipeR, mYes, mLc2E, lc2E, gNm, gTp, gsCons, gsNil, gTuple, gList, gAll, bools, fAdd, fSub, fCmp, fNeg, List.map, List.set, Option.bind_some, Option.map_some, Option.bind_none, Option.map_none, List.getElem?_cons_zero, List.getElem?_cons_succ, List.length_cons, List.length_nil, List.length_map, List.append_eq, List.nil_append, List.cons_append, List.replicate, Nat.reduceSub, Nat.reduceAdd, Nat.reduceLeDiff, Nat.reduceLT, lineN, Nat.zero_le, Nat.zero_add, reduceIte, if_true, if_false, Bool.false_eq_true, Bool.not_true, Bool.not_false, List.zipWith, List.zipIdx, List.zipIdx_cons, List.zipIdx_nil, row3, jx0, jx1, jx2, named, ni, hx, hy, he, fNe_nil, List.isEmpty_nil, Bool.not_true, Bool.false_eq_true, if_false, if_true]
theorem let_none : F_is_let_end [.none] = some (.bool true) := by kernel_rfl
theorem let_rD (q : Rat) : F_is_let_end [rD q] = some (.bool true) := by
  have e : isN (rD q) = false := by kernel_rfl
  unfold F_is_let_end g_is_let_end
  simp only [runF, r0, outD, sRet, mOrV, mTst, mIsN, mVar, mCall, mCons, mNil, asB, List.map, List.length_cons, List.length_nil, Nat.reduceSub, List.replicate, List.cons_append, List.nil_append, List.getElem?_cons_zero, Option.bind_some, Option.map_some, e, Bool.false_eq_true, if_false, F_is_ratio_eq]
theorem wsc (h : p0 ≠ p1) : F_wrong_in_scene [scD p0 p1 b L H] = some (.list []) := by
  have r : F_is_row_of [scD p0 p1 b L H, .int 3, .int 3] = some (.bool true) := by kernel_rfl
  have r2 : F_is_row_of [.tuple [.tuple [.str (nm b), rD L, .none], .tuple [.str (nm (!b)), .none, rD H]], .int 0, .int 12] = some (.bool true) := by kernel_rfl
  have e0 : fIx (scD p0 p1 b L H) (.int 0) = some (.tuple [stD "a" p0, stD "b" p1]) := by kernel_rfl
  have e1 : fIx (scD p0 p1 b L H) (.int 1) = some (.tuple [.tuple [.str (nm b), rD L, .none], .tuple [.str (nm (!b)), .none, rD H]]) := by kernel_rfl
  have e2 : fIx (scD p0 p1 b L H) (.int 2) = some (.tuple []) := by kernel_rfl
  have f0 : fIx (stD "a" p0) (.int 0) = some (.str "a") := by kernel_rfl
  have f1 : fIx (stD "b" p1) (.int 0) = some (.str "b") := by kernel_rfl
  have s0 : F_wrong_in_sides [.tuple []] = some (.list []) := by kernel_rfl
  have w0 := wrd b true (rD L) .none (let_rD L) let_none rfl
  have w1 := wrd (!b) true .none (rD H) let_none (let_rD H) rfl
  have eqn : fEq (.list []) (.list []) = some (.bool true) := by kernel_rfl
  have rd : F_wrong_in_readings [.tuple [.tuple [.str (nm b), rD L, .none], .tuple [.str (nm (!b)), .none, rD H]], .list [.str "a", .str "b"]] = some (.list []) := by
    unfold F_wrong_in_readings g_wrong_in_readings
    simp only [runF, runJ, r0, outD, sSeq, sNil, sRet, sRetN, sPass, sIf, sSet, sOwn, sPar, sAsg, sApp, sExt, sEx, sFor, sFrz, sSetI, loopS, putR, Cv.sl, pNil, pD, pO, mVar, mOwn, mC, mBin, mUn, mTst, asB, mIf, mNot, mAnd, mOr, mAndV, mOrV, mNotV, mNil, mCons, mTup, mLst, mCh, mIsN, mNotN, isN, mL, mDisp, mCall, mSl, mOn, mOs, slD, mRow, rowD, sqD, mZip, mEnum, mLc, lcS, wipeR, mYes, mLc2E, lc2E, gNm, gTp, gsCons, gsNil, gTuple, gList, gAll, bools, fAdd, fSub, fCmp, fNeg, List.map, List.set, Option.bind_some, Option.map_some, Option.bind_none, Option.map_none, List.getElem?_cons_zero, List.getElem?_cons_succ, List.length_cons, List.length_nil, List.length_map, List.append_eq, List.nil_append, List.cons_append, List.replicate, Nat.reduceSub, Nat.reduceAdd, Nat.reduceLeDiff, Nat.reduceLT, lineN, Nat.zero_le, Nat.zero_add, reduceIte, if_true, if_false, Bool.false_eq_true, Bool.not_true, Bool.not_false, List.zipWith, List.zipIdx, List.zipIdx_cons, List.zipIdx_nil, r2, w0, w1, Bool.not_true, Bool.false_eq_true, if_false]
    rfl
  unfold F_wrong_in_scene g_wrong_in_scene
  simp only [runF, runJ, r0, outD, sSeq, sNil, sRet, sRetN, sPass, sIf, sSet, sOwn, sPar, sAsg, sApp, sExt, sEx, sFor, sFrz, sSetI, loopS, putR, Cv.sl, pNil, pD, pO, mVar, mOwn, mC, mBin, mUn, mTst, asB, mIf, mNot, mAnd, mOr, mAndV, mOrV, mNotV, mNil, mCons, mTup, mLst, mCh, mIsN, mNotN, isN, mL, mDisp, mCall, mSl, mOn, mOs, slD, mRow, rowD, sqD, mZip, mEnum, mLc, lcS, wipeR, mYes, mLc2E, lc2E, gNm, gTp, gsCons, gsNil, gTuple, gList, gAll, bools, fAdd, fSub, fCmp, fNeg, List.map, List.set, Option.bind_some, Option.map_some, Option.bind_none, Option.map_none, List.getElem?_cons_zero, List.getElem?_cons_succ, List.length_cons, List.length_nil, List.length_map, List.append_eq, List.nil_append, List.cons_append, List.replicate, Nat.reduceSub, Nat.reduceAdd, Nat.reduceLeDiff, Nat.reduceLT, lineN, Nat.zero_le, Nat.zero_add, reduceIte, if_true, if_false, Bool.false_eq_true, Bool.not_true, Bool.not_false, List.zipWith, List.zipIdx, List.zipIdx_cons, List.zipIdx_nil, r, e0, e1, e2, f0, f1, wsts h, rd, s0, eqn, fNe_nil, List.isEmpty_nil, Bool.not_true, Bool.false_eq_true, if_false, if_true]
theorem F_check_scene_eq (h : p0 ≠ p1) : F_check_scene [scD p0 p1 b L H] = some .none := by
  unfold F_check_scene g_check_scene
  simp only [runF, runJ, r0, outD, sSeq, sNil, sRet, sRetN, sPass, sIf, sSet, sOwn, sPar, sAsg, sApp, sExt, sEx, sFor, sFrz, sSetI, loopS, putR, Cv.sl, pNil, pD, pO, mVar, mOwn, mC, mBin, mUn, mTst, asB, mIf, mNot, mAnd, mOr, mAndV, mOrV, mNotV, mNil, mCons, mTup, mLst, mCh, mIsN, mNotN, isN, mL, mDisp, mCall, mSl, mOn, mOs, slD, mRow, rowD, sqD, mZip, mEnum, mLc, lcS, wipeR, mYes, mLc2E, lc2E, gNm, gTp, gsCons, gsNil, gTuple, gList, gAll, bools, fAdd, fSub, fCmp, fNeg, List.map, List.set, Option.bind_some, Option.map_some, Option.bind_none, Option.map_none, List.getElem?_cons_zero, List.getElem?_cons_succ, List.length_cons, List.length_nil, List.length_map, List.append_eq, List.nil_append, List.cons_append, List.replicate, Nat.reduceSub, Nat.reduceAdd, Nat.reduceLeDiff, Nat.reduceLT, lineN, Nat.zero_le, Nat.zero_add, reduceIte, if_true, if_false, Bool.false_eq_true, Bool.not_true, Bool.not_false, List.zipWith, List.zipIdx, List.zipIdx_cons, List.zipIdx_nil, wsc h]
theorem F_is_corner_eq (p : Pt) : F_is_corner [ptD p] = some (.bool true) := by
  have e0 : fIx (ptD p) (.int 0) = some (rD p.1) := by kernel_rfl
  have e1 : fIx (ptD p) (.int 1) = some (rD p.2) := by kernel_rfl
  have l : gLen (ptD p) = some (.int 2) := by kernel_rfl
  have i : gIsi "tuple" (ptD p) = some (.bool true) := by kernel_rfl
  unfold F_is_corner g_is_corner
  simp only [runF, runJ, r0, outD, sSeq, sNil, sRet, sRetN, sPass, sIf, sSet, sOwn, sPar, sAsg, sApp, sExt, sEx, sFor, sFrz, sSetI, loopS, putR, Cv.sl, pNil, pD, pO, mVar, mOwn, mC, mBin, mUn, mTst, asB, mIf, mNot, mAnd, mOr, mAndV, mOrV, mNotV, mNil, mCons, mTup, mLst, mCh, mIsN, mNotN, isN, mL, mDisp, mCall, mSl, mOn, mOs, slD, mRow, rowD, sqD, mZip, mEnum, mLc, lcS, wipeR, mYes, mLc2E, lc2E, gNm, gTp, gsCons, gsNil, gTuple, gList, gAll, bools, fAdd, fSub, fCmp, fNeg, List.map, List.set, Option.bind_some, Option.map_some, Option.bind_none, Option.map_none, List.getElem?_cons_zero, List.getElem?_cons_succ, List.length_cons, List.length_nil, List.length_map, List.append_eq, List.nil_append, List.cons_append, List.replicate, Nat.reduceSub, Nat.reduceAdd, Nat.reduceLeDiff, Nat.reduceLT, lineN, Nat.zero_le, Nat.zero_add, reduceIte, if_true, if_false, Bool.false_eq_true, Bool.not_true, Bool.not_false, List.zipWith, List.zipIdx, List.zipIdx_cons, List.zipIdx_nil, e0, e1, i, l, F_is_ratio_eq, fEq_int, decide_true, if_true]
end
end K29
end
section
set_option Elab.async false
set_option linter.all false
set_option autoImplicit false
set_option maxRecDepth 100000
namespace K29
open PySem PySem.Spec PyProof.Rows L2 Ev Ar
def upB (p : Pt) : Bool := decide (0 < p.2) || (decide (p.2 = 0) && decide (0 < p.1))
theorem sg_eq0 {q : Rat} : sg q = 0 ↔ q = 0 := by
  unfold sg
  split
  · have : ¬ q = 0 := by grind
    simp [this]
  · split
    · have : ¬ q = 0 := by grind
      simp [this]
    · have : q = 0 := by grind
      simp [this]
theorem F_is_upper_eq (p : Pt) : F_is_upper [ptD p] = some (.bool (upB p)) := by
  have e0 : fIx (ptD p) (.int 0) = some (rD p.1) := by kernel_rfl
  have e1 : fIx (ptD p) (.int 1) = some (rD p.2) := by kernel_rfl
  unfold F_is_upper g_is_upper upB
  simp only [runF, runJ, r0, outD, sSeq, sNil, sRet, sRetN, sPass, sIf, sSet, sOwn, sPar, sAsg, sApp, sExt, sEx, sFor, sFrz, sSetI, loopS, putR, Cv.sl, pNil, pD, pO, mVar, mOwn, mC, mBin, mUn, mTst, asB, mIf, mNot, mAnd, mOr, mAndV, mOrV, mNotV, mNil, mCons, mTup, mLst, mCh, mIsN, mNotN, isN, mL, mDisp, mCall, mSl, mOn, mOs, slD, mRow, rowD, sqD, mZip, mEnum, mLc, lcS, wipeR, mYes, mLc2E, lc2E, gNm, gTp, gsCons, gsNil, gTuple, gList, gAll, bools, fAdd, fSub, fCmp, fNeg, List.map, List.set, Option.bind_some, Option.map_some, Option.bind_none, Option.map_none, List.getElem?_cons_zero, List.getElem?_cons_succ, List.length_cons, List.length_nil, List.length_map, List.append_eq, List.nil_append, List.cons_append, List.replicate, Nat.reduceSub, Nat.reduceAdd, Nat.reduceLeDiff, Nat.reduceLT, lineN, Nat.zero_le, Nat.zero_add, reduceIte, if_true, if_false, Bool.false_eq_true, Bool.not_true, Bool.not_false, List.zipWith, List.zipIdx, List.zipIdx_cons, List.zipIdx_nil, e0, e1, F_sign_of_ratio_eq, fEq_int, sg_gt, sg_eq0]
  by_cases h1 : 0 < p.2
  · simp [h1]
  · by_cases h2 : p.2 = 0
    · simp [h1, h2]
    · simp [h1, h2]
def Ss (cs : List Pt) : List Pt := (Ed cs).map stp
structure Round (cs : List Pt) : Prop where
  turns : ∀ e ∈ Ed (Ss cs), 0 < cr e.1 e.2
  once : ((Ed (Ss cs)).filter fun e => !upB e.1 && upB e.2).length = 1
section
variable {cs : List Pt} {m : Nat}
theorem Ss_len : (Ss cs).length = cs.length := by
  unfold Ss
  rw [List.length_map, Ed_len]
theorem F_is_round_by_eq (hc : ∀ c ∈ cs, PSz m c) (h : 8 * m + 100 ≤ 8999) (hl : cs.length ≤ 1000) (R : Round cs) : F_is_round_by [.tuple (cs.map ptD)] = some (.bool true) := by
  have hst := F_steps_of_eq hc (by omega) hl
  have est : ((Ed cs).map fun e => ptD (stp e)) = (Ss cs).map ptD := by
    unfold Ss
    rw [List.map_map]
    rfl
  rw [est] at hst
  have hs : ∀ c ∈ Ss cs, PSz (2 * m + 1) c := fun c h => by
    obtain ⟨e, he, rfl⟩ := List.mem_map.mp h
    have := PSz.sub (hc _ (Ed_mem he).2) (hc _ (Ed_mem he).1)
    exact ⟨this.x.mono (by omega), this.y.mono (by omega)⟩
  have hl' : ((Ss cs).map ptD).length ≤ 1000 := by rw [List.length_map, Ss_len]; exact hl
  have hz : List.zipWith (fun x y => PyData.tuple [x, y]) ((Ss cs).map ptD) (rot ((Ss cs).map ptD)) = (Ed (Ss cs)).map fun p => .tuple [ptD p.1, ptD p.2] := by
    rw [rot_map, zip_map]
    rfl
  have hll : (((Ss cs).map ptD).drop 1).length + (((Ss cs).map ptD).take 1).length ≤ lineN := by
    rw [List.length_drop, List.length_take]
    show _ ≤ 16777216
    omega
  have A := lcS_map (t := gTp (gsCons (gNm 2) (gsCons (gNm 3) gsNil))) (c := mYes) (e := mBin fGt (mCall F_sign_of_ratio (mCons (mCall F_turn_of (mCons (mVar 2) (mCons (mVar 3) mNil))) mNil)) (mC (.int 0))) (r0 := wipeR [some (.d (.tuple (cs.map ptD))), some (.d (.list ((Ss cs).map ptD))), none, none] [2, 3]) (j := [])
    (fun p : Pt × Pt => .tuple [ptD p.1, ptD p.2]) (fun e => .bool (decide (0 < cr e.1 e.2))) (L := Ed (Ss cs)) fun e he => by
      have l := F_turn_of_eq (hs _ (Ed_mem he).1) (hs _ (Ed_mem he).2) (by omega)
      refine ⟨_, rfl, rfl, ?_⟩
      simp only [runF, runJ, r0, outD, sSeq, sNil, sRet, sRetN, sPass, sIf, sSet, sOwn, sPar, sAsg, sApp, sExt, sEx, sFor, sFrz, sSetI, loopS, putR, Cv.sl, pNil, pD, pO, mVar, mOwn, mC, mBin, mUn, mTst, asB, mIf, mNot, mAnd, mOr, mAndV, mOrV, mNotV, mNil, mCons, mTup, mLst, mCh, mIsN, mNotN, isN, mL, mDisp, mCall, mSl, mOn, mOs, slD, mRow, rowD, sqD, mZip, mEnum, mLc, lcS, wipeR, mYes, mLc2E, lc2E, gNm, gTp, gsCons, gsNil, gTuple, gList, gAll, bools, fAdd, fSub, fCmp, fNeg, List.map, List.set, Option.bind_some, Option.map_some, Option.bind_none, Option.map_none, List.getElem?_cons_zero, List.getElem?_cons_succ, List.length_cons, List.length_nil, List.length_map, List.append_eq, List.nil_append, List.cons_append, List.replicate, Nat.reduceSub, Nat.reduceAdd, Nat.reduceLeDiff, Nat.reduceLT, lineN, Nat.zero_le, Nat.zero_add, reduceIte, if_true, if_false, Bool.false_eq_true, Bool.not_true, Bool.not_false, List.zipWith, List.zipIdx, List.zipIdx_cons, List.zipIdx_nil, l, F_sign_of_ratio_eq, sg_gt]
  have B := lcS_filter (t := gTp (gsCons (gNm 2) (gsCons (gNm 3) gsNil))) (c := mAnd (mNot (mTst (mCall F_is_upper (mCons (mVar 2) mNil)))) (mTst (mCall F_is_upper (mCons (mVar 3) mNil)))) (e := mC (.int 1)) (r0 := wipeR [some (.d (.tuple (cs.map ptD))), some (.d (.list ((Ss cs).map ptD))), none, none] [2, 3]) (j := [])
    (fun p : Pt × Pt => .tuple [ptD p.1, ptD p.2]) (fun _ => .int 1) (fun e => !upB e.1 && upB e.2) (L := Ed (Ss cs)) fun e he => by
      refine ⟨_, rfl, ?_, fun _ => rfl⟩
      simp only [runF, runJ, r0, outD, sSeq, sNil, sRet, sRetN, sPass, sIf, sSet, sOwn, sPar, sAsg, sApp, sExt, sEx, sFor, sFrz, sSetI, loopS, putR, Cv.sl, pNil, pD, pO, mVar, mOwn, mC, mBin, mUn, mTst, asB, mIf, mNot, mAnd, mOr, mAndV, mOrV, mNotV, mNil, mCons, mTup, mLst, mCh, mIsN, mNotN, isN, mL, mDisp, mCall, mSl, mOn, mOs, slD, mRow, rowD, sqD, mZip, mEnum, mLc, lcS, wipeR, mYes, mLc2E, lc2E, gNm, gTp, gsCons, gsNil, gTuple, gList, gAll, bools, fAdd, fSub, fCmp, fNeg, List.map, List.set, Option.bind_some, Option.map_some, Option.bind_none, Option.map_none, List.getElem?_cons_zero, List.getElem?_cons_succ, List.length_cons, List.length_nil, List.length_map, List.append_eq, List.nil_append, List.cons_append, List.replicate, Nat.reduceSub, Nat.reduceAdd, Nat.reduceLeDiff, Nat.reduceLT, lineN, Nat.zero_le, Nat.zero_add, reduceIte, if_true, if_false, Bool.false_eq_true, Bool.not_true, Bool.not_false, List.zipWith, List.zipIdx, List.zipIdx_cons, List.zipIdx_nil, F_is_upper_eq]
      cases upB e.1 <;> rfl
  have e1 : ((Ss cs).map ptD).drop 1 ++ ((Ss cs).map ptD).take 1 = rot ((Ss cs).map ptD) := rfl
  have eall : ((Ed (Ss cs)).map fun e => decide (0 < cr e.1 e.2)).all id = true := by
    rw [List.all_map, List.all_eq_true]
    exact fun e he => decide_eq_true (R.turns e he)
  have ebb := bools_map (fun e : Pt × Pt => decide (0 < cr e.1 e.2)) (Ed (Ss cs))
  unfold F_is_round_by g_is_round_by
  simp only [runF, r0, outD, sSeq, sIf, sSet, sRet, sNil, mNot, mTst, asB, mUn, mL, mLc, mZip, mCall, mCons, mNil, mBin, mSl, mOs, mOn, mC, mVar, slD, fAdd, List.map, List.set, List.length_cons, List.length_nil, Nat.reduceSub, List.replicate, List.cons_append, List.nil_append, List.getElem?_cons_zero, List.getElem?_cons_succ, Option.bind_some, Option.map_some, cut1 _ hl', cut01 _ hl', hll, if_true, sqD, hst, e1, hz]
  rw [A]
  simp only [Option.bind_some, Option.map_some, gAll, ebb, eall, Bool.not_true, Bool.false_eq_true, if_false, List.getElem?_cons_zero, List.getElem?_cons_succ, cut1 _ hl', cut01 _ hl', hll, if_true, sqD, e1, hz]
  rw [B]
  simp only [Option.bind_some, Option.map_some, gLen, List.length_map, R.once]
  rfl
theorem F_check_corners_eq (hc : ∀ c ∈ cs, PSz m c) (h : 8 * m + 100 ≤ 8999) (hl3 : 3 ≤ cs.length) (hl8 : cs.length ≤ 8) (R : Round cs) : F_check_corners [.tuple (cs.map ptD)] = some .none := by
  have hr := F_is_round_by_eq hc h (by omega) R
  have hz : (((cs.map ptD).zipIdx).map fun p => PyData.tuple [.int (p.2 : Nat), p.1]) = cs.zipIdx.map fun p => .tuple [.int (p.2 : Nat), ptD p.1] := by
    rw [List.zipIdx_map, List.map_map]
    rfl
  have A := loopS_scan (t := gTp (gsCons (gNm 1) (gsCons (gNm 2) gsNil))) (b := sIf (mNot (mTst (mCall F_is_corner (mCons (mVar 2) mNil)))) sNo sNil) (j := [])
    (fun r => ∃ a b, r = [some (Sl.d (.tuple (cs.map ptD))), a, b]) (fun p : Pt × Nat => .tuple [.int (p.2 : Nat), ptD p.1]) (fun _ => none) (L := cs.zipIdx) (by
      rintro c hcm r ⟨a, b, rfl⟩
      refine ⟨_, rfl, [some (Sl.d (.tuple (cs.map ptD))), some (.d (.int (c.2 : Nat))), some (.d (ptD c.1))], ⟨_, _, rfl⟩, ?_⟩
      simp only [runF, runJ, r0, outD, sSeq, sNil, sRet, sRetN, sPass, sIf, sSet, sOwn, sPar, sAsg, sApp, sExt, sEx, sFor, sFrz, sSetI, loopS, putR, Cv.sl, pNil, pD, pO, mVar, mOwn, mC, mBin, mUn, mTst, asB, mIf, mNot, mAnd, mOr, mAndV, mOrV, mNotV, mNil, mCons, mTup, mLst, mCh, mIsN, mNotN, isN, mL, mDisp, mCall, mSl, mOn, mOs, slD, mRow, rowD, sqD, mZip, mEnum, mLc, lcS, wipeR, mYes, mLc2E, lc2E, gNm, gTp, gsCons, gsNil, gTuple, gList, gAll, bools, fAdd, fSub, fCmp, fNeg, List.map, List.set, Option.bind_some, Option.map_some, Option.bind_none, Option.map_none, List.getElem?_cons_zero, List.getElem?_cons_succ, List.length_cons, List.length_nil, List.length_map, List.append_eq, List.nil_append, List.cons_append, List.replicate, Nat.reduceSub, Nat.reduceAdd, Nat.reduceLeDiff, Nat.reduceLT, lineN, Nat.zero_le, Nat.zero_add, reduceIte, if_true, if_false, Bool.false_eq_true, Bool.not_true, Bool.not_false, List.zipWith, List.zipIdx, List.zipIdx_cons, List.zipIdx_nil, F_is_corner_eq, Bool.not_true, Bool.false_eq_true, if_false])
  have A1 := A [some (Sl.d (.tuple (cs.map ptD))), none, none] ⟨_, _, rfl⟩
  have en : cs.zipIdx.findSome? (fun _ => (none : Option Dt)) = none := by
    rw [List.findSome?_eq_none_iff]
    exact fun _ _ => rfl
  rw [en] at A1
  obtain ⟨r2, ⟨a, b, rfl⟩, A1⟩ := A1
  have i : gIsi "tuple" (.tuple (cs.map ptD)) = some (.bool true) := rfl
  have l : gLen (.tuple (cs.map ptD)) = some (.int cs.length) := by
    show some (PyData.int ((cs.map ptD).length : Nat)) = _
    rw [List.length_map]
  have q1 : decide ((3 : Int) ≤ cs.length) = true := decide_eq_true (by omega)
  have q2 : decide ((cs.length : Int) ≤ 8) = true := decide_eq_true (by omega)
  unfold F_check_corners g_check_corners
  simp only [runF, r0, outD, sSeq, sIf, sNil, mOr, mNot, mTst, asB, mUn, mCh, mCall, mCons, mNil, mC, mVar, List.map, List.length_cons, List.length_nil, Nat.reduceSub, List.replicate, List.cons_append, List.nil_append, List.getElem?_cons_zero, List.getElem?_cons_succ, Option.bind_some, Option.map_some, if_true, i, l, q1, q2, Bool.not_true, Bool.false_eq_true, if_false, sFor, mEnum, sqD, hz, A1, hr]
section
variable {p0 p1 : Pt} {b : Bool} {L H : Rat}
def ns (b : Bool) (p0 p1 : Pt) : Pt := if b = true then p1 else p0
theorem pairS_len (k : Rat) (s z : Pt) (cs : List Pt) : pairS k s z cs = [] ∨ ∃ x, pairS k s z cs = [x] := by
  unfold pairS
  split
  · exact .inr ⟨_, rfl⟩
  · split
    · exact .inl rfl
    · split
      · exact .inr ⟨_, rfl⟩
      · split
        · exact .inr ⟨_, rfl⟩
        · exact .inl rfl
theorem F_shut_by_eq (hc : ∀ c ∈ cs, PSz 16 c) (hl : cs.length ≤ 1000) (h0 : PSz 16 p0) (h1 : PSz 16 p1) (hL : Sz 16 L) (hH : Sz 16 H) (hT : ∀ e ∈ Ed cs, ∀ T, tpt (H - L) (ns b p0 p1) (ns (!b) p0 p1) e = some T → Sz 190 T) :
    F_shut_by [scD p0 p1 b L H, .tuple (cs.map ptD)] = some (.list ((pairS (H - L) (ns b p0 p1) (ns (!b) p0 p1) cs).map ptD)) := by
  have hn : ∀ b, PSz 16 (ns b p0 p1) := fun b => by
    cases b
    · exact h0
    · exact h1
  have hp := F_shut_by_pair_eq (w1 := "low") (w2 := "high") hc hl (hn b) (hn (!b)) hL hH hT
  have hr : F_made_rows [scD p0 p1 b L H] = some (.list [rwD "low" (ns b p0 p1) L, rwD "high" (ns (!b) p0 p1) H]) := by
    rw [F_made_rows_eq]
    cases b <;> rfl
  have A := loopS_scan (t := gNm 3) (b := sIf (mNot (mTst (mCall F_is_within (mCons (mVar 0) (mCons (mVar 3) mNil))))) (sRet (mLst (mCons (mVar 3) mNil))) sNil) (j := [])
    (fun r => ∃ a, r = [some (Sl.d (scD p0 p1 b L H)), some (Sl.d (.tuple (cs.map ptD))), some (Sl.d (.list [rwD "low" (ns b p0 p1) L, rwD "high" (ns (!b) p0 p1) H])), a, none, none, none]) ptD (fun _ => none) (L := cs) (by
      rintro c hcm r ⟨a, rfl⟩
      refine ⟨_, rfl, [some (Sl.d (scD p0 p1 b L H)), some (Sl.d (.tuple (cs.map ptD))), some (Sl.d (.list [rwD "low" (ns b p0 p1) L, rwD "high" (ns (!b) p0 p1) H])), some (.d (ptD c)), none, none, none], ⟨_, rfl⟩, ?_⟩
      simp only [runF, runJ, r0, outD, sSeq, sNil, sRet, sRetN, sPass, sIf, sSet, sOwn, sPar, sAsg, sApp, sExt, sEx, sFor, sFrz, sSetI, loopS, putR, Cv.sl, pNil, pD, pO, mVar, mOwn, mC, mBin, mUn, mTst, asB, mIf, mNot, mAnd, mOr, mAndV, mOrV, mNotV, mNil, mCons, mTup, mLst, mCh, mIsN, mNotN, isN, mL, mDisp, mCall, mSl, mOn, mOs, slD, mRow, rowD, sqD, mZip, mEnum, mLc, lcS, wipeR, mYes, mLc2E, lc2E, gNm, gTp, gsCons, gsNil, gTuple, gList, gAll, bools, fAdd, fSub, fCmp, fNeg, List.map, List.set, Option.bind_some, Option.map_some, Option.bind_none, Option.map_none, List.getElem?_cons_zero, List.getElem?_cons_succ, List.length_cons, List.length_nil, List.length_map, List.append_eq, List.nil_append, List.cons_append, List.replicate, Nat.reduceSub, Nat.reduceAdd, Nat.reduceLeDiff, Nat.reduceLT, lineN, Nat.zero_le, Nat.zero_add, reduceIte, if_true, if_false, Bool.false_eq_true, Bool.not_true, Bool.not_false, List.zipWith, List.zipIdx, List.zipIdx_cons, List.zipIdx_nil, F_is_within_eq, Bool.not_true, Bool.false_eq_true, if_false])
  have A1 := A [some (Sl.d (scD p0 p1 b L H)), some (Sl.d (.tuple (cs.map ptD))), some (Sl.d (.list [rwD "low" (ns b p0 p1) L, rwD "high" (ns (!b) p0 p1) H])), none, none, none, none] ⟨_, rfl⟩
  have en : cs.findSome? (fun _ => (none : Option Dt)) = none := by
    rw [List.findSome?_eq_none_iff]
    exact fun _ _ => rfl
  rw [en] at A1
  obtain ⟨r2, ⟨a, rfl⟩, A1⟩ := A1
  have q0 : fEq (.str ("low" : Str)) (.str ("low" : Str)) = some (.bool true) := by kernel_rfl
  have q1 : fEq (.str ("low" : Str)) (.str ("high" : Str)) = some (.bool false) := by kernel_rfl
  have q2 : fEq (.str ("high" : Str)) (.str ("low" : Str)) = some (.bool false) := by kernel_rfl
  have q3 : fEq (.str ("high" : Str)) (.str ("high" : Str)) = some (.bool true) := by kernel_rfl
  unfold F_shut_by g_shut_by
  simp only [runF, r0, outD, sSeq, sSet, mCall, mCons, mNil, mVar, mRow, rowD, sFor, List.map, List.set, List.length_cons, List.length_nil, Nat.reduceSub, List.replicate, List.cons_append, List.nil_append, List.getElem?_cons_zero, List.getElem?_cons_succ, Option.bind_some, Option.map_some, hr, A1]
  rcases pairS_len (H - L) (ns b p0 p1) (ns (!b) p0 p1) cs with e | ⟨x, e⟩
  · rw [e] at hp ⊢
    simp only [runF, runJ, r0, outD, sSeq, sNil, sRet, sRetN, sPass, sIf, sSet, sOwn, sPar, sAsg, sApp, sExt, sEx, sFor, sFrz, sSetI, loopS, putR, Cv.sl, pNil, pD, pO, mVar, mOwn, mC, mBin, mUn, mTst, asB, mIf, mNot, mAnd, mOr, mAndV, mOrV, mNotV, mNil, mCons, mTup, mLst, mCh, mIsN, mNotN, isN, mL, mDisp, mCall, mSl, mOn, mOs, slD, mRow, rowD, sqD, mZip, mEnum, mLc, lcS, wipeR, mYes, mLc2E, lc2E, gNm, gTp, gsCons, gsNil, gTuple, gList, gAll, bools, fAdd, fSub, fCmp, fNeg, List.map, List.set, Option.bind_some, Option.map_some, Option.bind_none, Option.map_none, List.getElem?_cons_zero, List.getElem?_cons_succ, List.length_cons, List.length_nil, List.length_map, List.append_eq, List.nil_append, List.cons_append, List.replicate, Nat.reduceSub, Nat.reduceAdd, Nat.reduceLeDiff, Nat.reduceLT, lineN, Nat.zero_le, Nat.zero_add, reduceIte, if_true, if_false, Bool.false_eq_true, Bool.not_true, Bool.not_false, List.zipWith, List.zipIdx, List.zipIdx_cons, List.zipIdx_nil, rw0, q0, q1, q2, q3, hp, fNe_nil, List.isEmpty_nil, Bool.not_true, Bool.false_eq_true, if_false, if_true]
  · rw [e] at hp ⊢
    simp only [runF, runJ, r0, outD, sSeq, sNil, sRet, sRetN, sPass, sIf, sSet, sOwn, sPar, sAsg, sApp, sExt, sEx, sFor, sFrz, sSetI, loopS, putR, Cv.sl, pNil, pD, pO, mVar, mOwn, mC, mBin, mUn, mTst, asB, mIf, mNot, mAnd, mOr, mAndV, mOrV, mNotV, mNil, mCons, mTup, mLst, mCh, mIsN, mNotN, isN, mL, mDisp, mCall, mSl, mOn, mOs, slD, mRow, rowD, sqD, mZip, mEnum, mLc, lcS, wipeR, mYes, mLc2E, lc2E, gNm, gTp, gsCons, gsNil, gTuple, gList, gAll, bools, fAdd, fSub, fCmp, fNeg, List.map, List.set, Option.bind_some, Option.map_some, Option.bind_none, Option.map_none, List.getElem?_cons_zero, List.getElem?_cons_succ, List.length_cons, List.length_nil, List.length_map, List.append_eq, List.nil_append, List.cons_append, List.replicate, Nat.reduceSub, Nat.reduceAdd, Nat.reduceLeDiff, Nat.reduceLT, lineN, Nat.zero_le, Nat.zero_add, reduceIte, if_true, if_false, Bool.false_eq_true, Bool.not_true, Bool.not_false, List.zipWith, List.zipIdx, List.zipIdx_cons, List.zipIdx_nil, rw0, q0, q1, q2, q3, hp, fNe_nil, List.isEmpty_cons, Bool.not_false, Bool.false_eq_true, if_false, if_true]
/-- what shut_place answers -/
def ansD : List Pt → Dt
  | x :: _ => ptD x
  | [] => .none
theorem F_shut_place_eq (hc : ∀ c ∈ cs, PSz 16 c) (hl3 : 3 ≤ cs.length) (hl8 : cs.length ≤ 8) (R : Round cs) (h : p0 ≠ p1) (h0 : PSz 16 p0) (h1 : PSz 16 p1) (hL : Sz 16 L) (hH : Sz 16 H) (hT : ∀ e ∈ Ed cs, ∀ T, tpt (H - L) (ns b p0 p1) (ns (!b) p0 p1) e = some T → Sz 190 T) :
    F_shut_place [scD p0 p1 b L H, .tuple (cs.map ptD)] = some (ansD (pairS (H - L) (ns b p0 p1) (ns (!b) p0 p1) cs)) := by
  have a1 := F_check_scene_eq (b := b) (L := L) (H := H) h
  have a2 := F_check_corners_eq hc (by omega) hl3 hl8 R
  have a3 := F_shut_by_eq (b := b) hc (by omega) h0 h1 hL hH hT
  unfold F_shut_place g_shut_place
  rcases pairS_len (H - L) (ns b p0 p1) (ns (!b) p0 p1) cs with e | ⟨x, e⟩
  · rw [e] at a3 ⊢
    simp only [runF, runJ, r0, outD, sSeq, sNil, sRet, sRetN, sPass, sIf, sSet, sOwn, sPar, sAsg, sApp, sExt, sEx, sFor, sFrz, sSetI, loopS, putR, Cv.sl, pNil, pD, pO, mVar, mOwn, mC, mBin, mUn, mTst, asB, mIf, mNot, mAnd, mOr, mAndV, mOrV, mNotV, mNil, mCons, mTup, mLst, mCh, mIsN, mNotN, isN, mL, mDisp, mCall, mSl, mOn, mOs, slD, mRow, rowD, sqD, mZip, mEnum, mLc, lcS, wipeR, mYes, mLc2E, lc2E, gNm, gTp, gsCons, gsNil, gTuple, gList, gAll, bools, fAdd, fSub, fCmp, fNeg, List.map, List.set, Option.bind_some, Option.map_some, Option.bind_none, Option.map_none, List.getElem?_cons_zero, List.getElem?_cons_succ, List.length_cons, List.length_nil, List.length_map, List.append_eq, List.nil_append, List.cons_append, List.replicate, Nat.reduceSub, Nat.reduceAdd, Nat.reduceLeDiff, Nat.reduceLT, lineN, Nat.zero_le, Nat.zero_add, reduceIte, if_true, if_false, Bool.false_eq_true, Bool.not_true, Bool.not_false, List.zipWith, List.zipIdx, List.zipIdx_cons, List.zipIdx_nil, a1, a2, a3, fNe_nil, List.isEmpty_nil, Bool.not_true, Bool.false_eq_true, if_false, ansD]
  · rw [e] at a3 ⊢
    have i : fIx (.list [ptD x]) (.int 0) = some (ptD x) := rfl
    simp only [runF, runJ, r0, outD, sSeq, sNil, sRet, sRetN, sPass, sIf, sSet, sOwn, sPar, sAsg, sApp, sExt, sEx, sFor, sFrz, sSetI, loopS, putR, Cv.sl, pNil, pD, pO, mVar, mOwn, mC, mBin, mUn, mTst, asB, mIf, mNot, mAnd, mOr, mAndV, mOrV, mNotV, mNil, mCons, mTup, mLst, mCh, mIsN, mNotN, isN, mL, mDisp, mCall, mSl, mOn, mOs, slD, mRow, rowD, sqD, mZip, mEnum, mLc, lcS, wipeR, mYes, mLc2E, lc2E, gNm, gTp, gsCons, gsNil, gTuple, gList, gAll, bools, fAdd, fSub, fCmp, fNeg, List.map, List.set, Option.bind_some, Option.map_some, Option.bind_none, Option.map_none, List.getElem?_cons_zero, List.getElem?_cons_succ, List.length_cons, List.length_nil, List.length_map, List.append_eq, List.nil_append, List.cons_append, List.replicate, Nat.reduceSub, Nat.reduceAdd, Nat.reduceLeDiff, Nat.reduceLT, lineN, Nat.zero_le, Nat.zero_add, reduceIte, if_true, if_false, Bool.false_eq_true, Bool.not_true, Bool.not_false, List.zipWith, List.zipIdx, List.zipIdx_cons, List.zipIdx_nil, a1, a2, a3, fNe_nil, List.isEmpty_cons, Bool.not_false, if_true, i, ansD]
end
end
end K29
end
section
set_option Elab.async false
set_option linter.all false
set_option autoImplicit false
set_option maxRecDepth 100000
namespace K29
open PySem PySem.Spec PyProof.Rows L2 Ev Ar
/-! ### the law's own numbers -/
def Bz (n : Nat) (x : Int) : Prop := x.natAbs < 2 ^ n
section
variable {m n : Nat} {a b : Int}
theorem Bz.mono (h : Bz m a) (le : m ≤ n) : Bz n a := Nat.lt_of_lt_of_le h (Nat.pow_le_pow_right (by decide) le)
theorem Bz.mul (ha : Bz m a) (hb : Bz n b) : Bz (m + n) (a * b) := by
  unfold Bz
  rw [Int.natAbs_mul]
  exact pow2 ha hb
theorem Bz.add (ha : Bz m a) (hb : Bz n b) : Bz (m + n + 1) (a + b) :=
  Nat.lt_of_le_of_lt (Int.natAbs_add_le ..) (two_pow_succ_le (Bz.mono ha (Nat.le_add_right m n)) (Bz.mono hb (Nat.le_add_left n m)))
theorem Bz.neg (ha : Bz m a) : Bz m (-a) := by
  unfold Bz
  rw [Int.natAbs_neg]
  exact ha
theorem Bz.sub (ha : Bz m a) (hb : Bz n b) : Bz (m + n + 1) (a - b) := by
  rw [Int.sub_eq_add_neg]
  exact ha.add hb.neg
theorem Bz.ok (ha : Bz m a) (hb : Bz n b) (h : m + n < 100000000) : mulOk a b = true := mul_ok ha hb h
theorem bz1 : Bz 1 1 := by unfold Bz; decide
theorem bzm1 : Bz 1 (-1) := by unfold Bz; decide
theorem bz2 : Bz 2 2 := by unfold Bz; decide
theorem bz4 : Bz 3 4 := by unfold Bz; decide
theorem bz6 : Bz 3 6 := by unfold Bz; decide
theorem Bz.sm (h : Bz m a) (hm : m ≤ 64) : a.natAbs < 18446744073709551616 := Nat.lt_of_lt_of_le (Bz.mono h hm) (by decide)
end
theorem gInt_int (i : Int) : gInt (.int i) = some (.int i) := rfl
theorem gInt_bl (b : Bool) : gInt (.bool b) = some (.int (if b = true then 1 else 0)) := by cases b <;> rfl
theorem rpos {i : Int} : (0 : Rat) < (i : Rat) ↔ 0 < i := by
  have := Rat.intCast_lt_intCast (a := 0) (b := i)
  simpa using this
theorem rneg {i : Int} : (i : Rat) < (0 : Rat) ↔ i < 0 := by
  have := Rat.intCast_lt_intCast (a := i) (b := 0)
  simpa using this
theorem rzero {i : Int} : (i : Rat) = 0 ↔ i = 0 := by
  have h1 := rpos (i := i)
  have h2 := rneg (i := i)
  constructor
  · intro h
    have n1 : ¬ 0 < i := fun q => by have := h1.mpr q; grind
    have n2 : ¬ i < 0 := fun q => by have := h2.mpr q; grind
    omega
  · intro h
    subst h
    rfl
theorem F_law_sign_eq (i : Int) : F_law_sign [.int i] = some (.int (sg (i : Rat))) := by
  unfold F_law_sign g_law_sign sg
  simp only [runF, runJ, r0, outD, sSeq, sNil, sRet, sRetN, sPass, sIf, sSet, sOwn, sPar, sAsg, sApp, sExt, sEx, sFor, sFrz, sSetI, loopS, putR, Cv.sl, pNil, pD, pO, mVar, mOwn, mC, mBin, mUn, mTst, asB, mIf, mNot, mAnd, mOr, mAndV, mOrV, mNotV, mNil, mCons, mTup, mLst, mCh, mIsN, mNotN, isN, mL, mDisp, mCall, mSl, mOn, mOs, slD, mRow, rowD, sqD, mZip, mEnum, mLc, lcS, wipeR, mYes, mLc2E, lc2E, gNm, gTp, gsCons, gsNil, gTuple, gList, gAll, bools, fAdd, fSub, fCmp, fNeg, List.map, List.set, Option.bind_some, Option.map_some, Option.bind_none, Option.map_none, List.getElem?_cons_zero, List.getElem?_cons_succ, List.length_cons, List.length_nil, List.length_map, List.append_eq, List.nil_append, List.cons_append, List.replicate, Nat.reduceSub, Nat.reduceAdd, Nat.reduceLeDiff, Nat.reduceLT, lineN, Nat.zero_le, Nat.zero_add, reduceIte, if_true, if_false, Bool.false_eq_true, Bool.not_true, Bool.not_false, List.zipWith, List.zipIdx, List.zipIdx_cons, List.zipIdx_nil, gInt_bl, rpos, rneg]
  by_cases h : 0 < i
  · have : ¬ i < 0 := by omega
    simp [h, this]
  · by_cases h2 : i < 0 <;> simp [h, h2]
theorem sg_abs (p : Rat) : (sg p).natAbs ≤ 1 := by
  unfold sg
  split
  · decide
  · split <;> decide
theorem sg3 (p : Rat) : sg p = 1 ∨ sg p = 0 ∨ sg p = -1 := by
  unfold sg
  split
  · exact .inl rfl
  · split
    · exact .inr (.inr rfl)
    · exact .inr (.inl rfl)
theorem sgBy3 (f s u : Rat) : sgBy f s u = 1 ∨ sgBy f s u = 0 ∨ sgBy f s u = -1 := by
  unfold sgBy
  rcases sg3 f with h1 | h1 | h1 <;> rcases sg3 s with h2 | h2 | h2 <;> rcases sg3 (f * f - s * s * u) with h3 | h3 | h3 <;> by_cases hu : u = 0 <;> simp [h1, h2, h3, hu]
theorem mul1 (x : Int) : fMul (.int 1) (.int x) = some (.int x) := by
  rw [fMul_ok (mul_sm (by decide)), Int.one_mul]
theorem mulm1 (x : Int) : fMul (.int (-1)) (.int x) = some (.int (-x)) := by
  rw [fMul_ok (mul_sm (by decide)), Int.neg_mul, Int.one_mul]
theorem cast_sub (a b : Int) : ((a - b : Int) : Rat) = (a : Rat) - (b : Rat) := by simp
theorem cast_add (a b : Int) : ((a + b : Int) : Rat) = (a : Rat) + (b : Rat) := by simp
theorem cast_mul (a b : Int) : ((a * b : Int) : Rat) = (a : Rat) * (b : Rat) := by simp
theorem F_law_sign_two_eq {p q r : Int} {m : Nat} (hp : Bz m p) (hq : Bz m q) (hr : Bz m r) (h0 : 0 ≤ r) (hm : m ≤ 1000000) : F_law_sign_two [.int p, .int q, .int r] = some (.int (sgBy p q r)) := by
  have m1 := hp.ok hp (by omega)
  have m2 := hq.ok hq (by omega)
  have m3 := (hq.mul hq).ok hr (by omega)
  have e : (((p * p - q * q * r : Int)) : Rat) = (p : Rat) * p - q * q * r := by rw [cast_sub, cast_mul, cast_mul, cast_mul]
  have m4 := mul_sm (a := sg (p : Rat)) (b := sg ((p : Rat) * p - q * q * r)) (sg_small _)
  have hz : ((r : Rat) = 0) ↔ ¬ 0 < r := by
    rw [rzero]
    omega
  unfold F_law_sign_two g_law_sign_two sgBy
  by_cases hr0 : 0 < r
  · have hz' : ¬ (r : Rat) = 0 := fun q => (hz.mp q) hr0
    simp only [runF, runJ, r0, outD, sSeq, sNil, sRet, sRetN, sPass, sIf, sSet, sOwn, sPar, sAsg, sApp, sExt, sEx, sFor, sFrz, sSetI, loopS, putR, Cv.sl, pNil, pD, pO, mVar, mOwn, mC, mBin, mUn, mTst, asB, mIf, mNot, mAnd, mOr, mAndV, mOrV, mNotV, mNil, mCons, mTup, mLst, mCh, mIsN, mNotN, isN, mL, mDisp, mCall, mSl, mOn, mOs, slD, mRow, rowD, sqD, mZip, mEnum, mLc, lcS, wipeR, mYes, mLc2E, lc2E, gNm, gTp, gsCons, gsNil, gTuple, gList, gAll, bools, fAdd, fSub, fCmp, fNeg, List.map, List.set, Option.bind_some, Option.map_some, Option.bind_none, Option.map_none, List.getElem?_cons_zero, List.getElem?_cons_succ, List.length_cons, List.length_nil, List.length_map, List.append_eq, List.nil_append, List.cons_append, List.replicate, Nat.reduceSub, Nat.reduceAdd, Nat.reduceLeDiff, Nat.reduceLT, lineN, Nat.zero_le, Nat.zero_add, reduceIte, if_true, if_false, Bool.false_eq_true, Bool.not_true, Bool.not_false, List.zipWith, List.zipIdx, List.zipIdx_cons, List.zipIdx_nil, F_law_sign_eq, hr0, decide_true, if_true, fEq_int, fNe_int, fMul_ok m1, fMul_ok m2, fMul_ok m3, e, fMul_ok m4, hz', ne_eq, not_false_eq_true]
    rcases sg3 (p : Rat) with h1 | h1 | h1 <;> rcases sg3 (q : Rat) with h2 | h2 | h2 <;> simp [h1, h2, fMul_ok m1, fMul_ok m2, fMul_ok m3, F_law_sign_eq, mul1, mulm1]
  · have hz' : (r : Rat) = 0 := hz.mpr hr0
    simp only [runF, runJ, r0, outD, sSeq, sNil, sRet, sRetN, sPass, sIf, sSet, sOwn, sPar, sAsg, sApp, sExt, sEx, sFor, sFrz, sSetI, loopS, putR, Cv.sl, pNil, pD, pO, mVar, mOwn, mC, mBin, mUn, mTst, asB, mIf, mNot, mAnd, mOr, mAndV, mOrV, mNotV, mNil, mCons, mTup, mLst, mCh, mIsN, mNotN, isN, mL, mDisp, mCall, mSl, mOn, mOs, slD, mRow, rowD, sqD, mZip, mEnum, mLc, lcS, wipeR, mYes, mLc2E, lc2E, gNm, gTp, gsCons, gsNil, gTuple, gList, gAll, bools, fAdd, fSub, fCmp, fNeg, List.map, List.set, Option.bind_some, Option.map_some, Option.bind_none, Option.map_none, List.getElem?_cons_zero, List.getElem?_cons_succ, List.length_cons, List.length_nil, List.length_map, List.append_eq, List.nil_append, List.cons_append, List.replicate, Nat.reduceSub, Nat.reduceAdd, Nat.reduceLeDiff, Nat.reduceLT, lineN, Nat.zero_le, Nat.zero_add, reduceIte, if_true, if_false, Bool.false_eq_true, Bool.not_true, Bool.not_false, List.zipWith, List.zipIdx, List.zipIdx_cons, List.zipIdx_nil, F_law_sign_eq, hr0, decide_false, Bool.false_eq_true, if_false, fEq_int, fNe_int, fMul_ok m1, fMul_ok m2, fMul_ok m3, e, fMul_ok m4, hz', ne_eq, not_true_eq_false, Int.mul_zero, Int.le_refl, if_true]
    rcases sg3 (p : Rat) with h1 | h1 | h1 <;> simp [h1]
theorem F_law_sign_three_eq {p q r c s : Int} {m : Nat} (hp : Bz m p) (hq : Bz m q) (hr : Bz m r) (hc : Bz m c) (hs : Bz m s) (h0 : 0 ≤ r) (h1 : 0 ≤ s) (hm : m ≤ 10000) (hm1 : 2 ≤ m) :
    F_law_sign_three [.int p, .int q, .int r, .int c, .int s] = some (.int (sgTwo p q r c s)) := by
  have m1 := hp.ok hp (by omega)
  have m2 := hq.ok hq (by omega)
  have m3 := (hq.mul hq).ok hr (by omega)
  have m4 := hc.ok hc (by omega)
  have m5 := (hc.mul hc).ok hs (by omega)
  have m6 := bz2.ok hp (by omega)
  have m7 := (bz2.mul hp).ok hq (by omega)
  have s1 := F_law_sign_two_eq hp hq hr h0 (by omega)
  have b1 := ((hp.mul hp).add ((hq.mul hq).mul hr)).sub ((hc.mul hc).mul hs)
  have s2 := F_law_sign_two_eq (m := 100000) (b1.mono (by omega)) (((bz2.mul hp).mul hq).mono (by omega)) (hr.mono (by omega)) h0 (by omega)
  have e1 : (((p * p + q * q * r - c * c * s : Int)) : Rat) = (p : Rat) * p + q * q * r - c * c * s := by rw [cast_sub, cast_add, cast_mul, cast_mul, cast_mul, cast_mul, cast_mul]
  have e2 : (((2 * p * q : Int)) : Rat) = (p : Rat) * q + q * p := by
    rw [cast_mul, cast_mul]
    show (2 : Rat) * p * q = _
    grind
  rw [e1, e2] at s2
  have m8 := mul_sm (a := sgBy (p : Rat) q r) (b := sgBy ((p : Rat) * p + q * q * r - c * c * s) ((p : Rat) * q + q * p) r) sgBy_small
  have hz : ((s : Rat) = 0) ↔ ¬ 0 < s := by
    rw [rzero]
    omega
  unfold F_law_sign_three g_law_sign_three sgTwo
  by_cases hr0 : 0 < s
  · have hz' : ¬ (s : Rat) = 0 := fun q => (hz.mp q) hr0
    simp only [runF, runJ, r0, outD, sSeq, sNil, sRet, sRetN, sPass, sIf, sSet, sOwn, sPar, sAsg, sApp, sExt, sEx, sFor, sFrz, sSetI, loopS, putR, Cv.sl, pNil, pD, pO, mVar, mOwn, mC, mBin, mUn, mTst, asB, mIf, mNot, mAnd, mOr, mAndV, mOrV, mNotV, mNil, mCons, mTup, mLst, mCh, mIsN, mNotN, isN, mL, mDisp, mCall, mSl, mOn, mOs, slD, mRow, rowD, sqD, mZip, mEnum, mLc, lcS, wipeR, mYes, mLc2E, lc2E, gNm, gTp, gsCons, gsNil, gTuple, gList, gAll, bools, fAdd, fSub, fCmp, fNeg, List.map, List.set, Option.bind_some, Option.map_some, Option.bind_none, Option.map_none, List.getElem?_cons_zero, List.getElem?_cons_succ, List.length_cons, List.length_nil, List.length_map, List.append_eq, List.nil_append, List.cons_append, List.replicate, Nat.reduceSub, Nat.reduceAdd, Nat.reduceLeDiff, Nat.reduceLT, lineN, Nat.zero_le, Nat.zero_add, reduceIte, if_true, if_false, Bool.false_eq_true, Bool.not_true, Bool.not_false, List.zipWith, List.zipIdx, List.zipIdx_cons, List.zipIdx_nil, F_law_sign_eq, s1, hr0, decide_true, if_true, fEq_int, fNe_int, fMul_ok m1, fMul_ok m2, fMul_ok m3, fMul_ok m4, fMul_ok m5, fMul_ok m6, fMul_ok m7, s2, fMul_ok m8, hz', ne_eq, not_false_eq_true]
    rcases sgBy3 (p : Rat) q r with h1 | h1 | h1 <;> rcases sg3 (c : Rat) with h2 | h2 | h2 <;> simp [h1, h2, fMul_ok m1, fMul_ok m2, fMul_ok m3, fMul_ok m4, fMul_ok m5, fMul_ok m6, fMul_ok m7, s2, mul1, mulm1]
  · have hz' : (s : Rat) = 0 := hz.mpr hr0
    simp only [runF, runJ, r0, outD, sSeq, sNil, sRet, sRetN, sPass, sIf, sSet, sOwn, sPar, sAsg, sApp, sExt, sEx, sFor, sFrz, sSetI, loopS, putR, Cv.sl, pNil, pD, pO, mVar, mOwn, mC, mBin, mUn, mTst, asB, mIf, mNot, mAnd, mOr, mAndV, mOrV, mNotV, mNil, mCons, mTup, mLst, mCh, mIsN, mNotN, isN, mL, mDisp, mCall, mSl, mOn, mOs, slD, mRow, rowD, sqD, mZip, mEnum, mLc, lcS, wipeR, mYes, mLc2E, lc2E, gNm, gTp, gsCons, gsNil, gTuple, gList, gAll, bools, fAdd, fSub, fCmp, fNeg, List.map, List.set, Option.bind_some, Option.map_some, Option.bind_none, Option.map_none, List.getElem?_cons_zero, List.getElem?_cons_succ, List.length_cons, List.length_nil, List.length_map, List.append_eq, List.nil_append, List.cons_append, List.replicate, Nat.reduceSub, Nat.reduceAdd, Nat.reduceLeDiff, Nat.reduceLT, lineN, Nat.zero_le, Nat.zero_add, reduceIte, if_true, if_false, Bool.false_eq_true, Bool.not_true, Bool.not_false, List.zipWith, List.zipIdx, List.zipIdx_cons, List.zipIdx_nil, F_law_sign_eq, s1, hr0, decide_false, Bool.false_eq_true, if_false, fEq_int, fNe_int, fMul_ok m1, fMul_ok m2, fMul_ok m3, fMul_ok m4, fMul_ok m5, fMul_ok m6, fMul_ok m7, s2, fMul_ok m8, hz', ne_eq, not_true_eq_false, Int.mul_zero, Int.le_refl, if_true]
    rcases sgBy3 (p : Rat) q r with h1 | h1 | h1 <;> simp [h1]
/-! ### Euclid -/
theorem euclid {x0 x1 : Option Sl} {j : Jr} : ∀ (n a b : Nat), b < n →
    whileS (mTst (mBin fNe (mVar 3) (mC (.int 0)))) (sPar [2, 3] (pD (mVar 3) (pD (mBin fMod (mUn gInt (mVar 2)) (mVar 3)) pNil))) n [x0, x1, some (.d (.int a)), some (.d (.int b))] j =
      some (.nx, [x0, x1, some (.d (.int (Nat.gcd a b))), some (.d (.int (0 : Nat)))], j)
  | 0, _, _, h => absurd h (Nat.not_lt_zero _)
  | n + 1, a, b, h => by
    unfold whileS
    by_cases hb : b = 0
    · subst hb
      simp only [runF, runJ, r0, outD, sSeq, sNil, sRet, sRetN, sPass, sIf, sSet, sOwn, sPar, sAsg, sApp, sExt, sEx, sFor, sFrz, sSetI, loopS, putR, Cv.sl, pNil, pD, pO, mVar, mOwn, mC, mBin, mUn, mTst, asB, mIf, mNot, mAnd, mOr, mAndV, mOrV, mNotV, mNil, mCons, mTup, mLst, mCh, mIsN, mNotN, isN, mL, mDisp, mCall, mSl, mOn, mOs, slD, mRow, rowD, sqD, mZip, mEnum, mLc, lcS, wipeR, mYes, mLc2E, lc2E, gNm, gTp, gsCons, gsNil, gTuple, gList, gAll, bools, fAdd, fSub, fCmp, fNeg, List.map, List.set, Option.bind_some, Option.map_some, Option.bind_none, Option.map_none, List.getElem?_cons_zero, List.getElem?_cons_succ, List.length_cons, List.length_nil, List.length_map, List.append_eq, List.nil_append, List.cons_append, List.replicate, Nat.reduceSub, Nat.reduceAdd, Nat.reduceLeDiff, Nat.reduceLT, lineN, Nat.zero_le, Nat.zero_add, reduceIte, if_true, if_false, Bool.false_eq_true, Bool.not_true, Bool.not_false, List.zipWith, List.zipIdx, List.zipIdx_cons, List.zipIdx_nil, fNe_int, Nat.gcd_zero_right]
      rfl
    · have hb' : ((b : Nat) : Int) ≠ 0 := by omega
      have em : ((a : Nat) : Int).fmod b = ((a % b : Nat) : Int) := by
        rw [Int.fmod_eq_emod_of_nonneg _ (by omega)]
        rfl
      have ih := euclid (x0 := x0) (x1 := x1) (j := j) n b (a % b) (by
        have := Nat.mod_lt a (Nat.pos_of_ne_zero hb)
        omega)
      simp only [runF, runJ, r0, outD, sSeq, sNil, sRet, sRetN, sPass, sIf, sSet, sOwn, sPar, sAsg, sApp, sExt, sEx, sFor, sFrz, sSetI, loopS, putR, Cv.sl, pNil, pD, pO, mVar, mOwn, mC, mBin, mUn, mTst, asB, mIf, mNot, mAnd, mOr, mAndV, mOrV, mNotV, mNil, mCons, mTup, mLst, mCh, mIsN, mNotN, isN, mL, mDisp, mCall, mSl, mOn, mOs, slD, mRow, rowD, sqD, mZip, mEnum, mLc, lcS, wipeR, mYes, mLc2E, lc2E, gNm, gTp, gsCons, gsNil, gTuple, gList, gAll, bools, fAdd, fSub, fCmp, fNeg, List.map, List.set, Option.bind_some, Option.map_some, Option.bind_none, Option.map_none, List.getElem?_cons_zero, List.getElem?_cons_succ, List.length_cons, List.length_nil, List.length_map, List.append_eq, List.nil_append, List.cons_append, List.replicate, Nat.reduceSub, Nat.reduceAdd, Nat.reduceLeDiff, Nat.reduceLT, lineN, Nat.zero_le, Nat.zero_add, reduceIte, if_true, if_false, Bool.false_eq_true, Bool.not_true, Bool.not_false, List.zipWith, List.zipIdx, List.zipIdx_cons, List.zipIdx_nil, fNe_int, hb', decide_false, Bool.not_false, if_true, gInt_int, fMod_ok hb', em, ih]
      rw [show Nat.gcd b (a % b) = Nat.gcd a b from by rw [Nat.gcd_comm b (a % b), ← Nat.gcd_rec b a, Nat.gcd_comm]]
theorem F_law_low_eq {a b : Int} {m : Nat} (hb : 0 < b) (hm : Bz m b) (hm' : m ≤ 8999) : F_law_low [.int a, .int b] = some (rD (Rat.divInt a b)) := by
  have hr := ratio_parts (a := a) (b := b) (by omega)
  rw [if_pos hb] at hr
  have hg : 0 < Nat.gcd a.natAbs b.natAbs := Nat.gcd_pos_of_pos_right _ (by omega)
  have hgl : Nat.gcd a.natAbs b.natAbs < 2 ^ m := Nat.lt_of_le_of_lt (Nat.gcd_le_right _ (by omega)) hm
  have hd : divOk ((Nat.gcd a.natAbs b.natAbs : Nat) : Int) = true := div_ok (m := m) (by omega) (by simpa using hgl) (by omega)
  have he := euclid (x0 := some (.d (.int a))) (x1 := some (.d (.int b))) (j := []) (b.natAbs + 2) a.natAbs b.natAbs (by omega)
  have ea : gAbs (.int a) = some (.int (a.natAbs : Nat)) := by
    have q : (if a < 0 then -a else a) = ((a.natAbs : Nat) : Int) := by split <;> omega
    show some (PyData.int (if a < 0 then -a else a)) = _
    rw [q]
  have eb : ((b.natAbs : Nat) : Int) = b := by omega
  rw [eb] at he
  unfold F_law_low g_law_low
  simp only [runF, r0, outD, sSeq, sPar, pD, pNil, putR, Cv.sl, mUn, mVar, List.map, List.set, List.length_cons, List.length_nil, Nat.reduceSub, List.replicate, List.cons_append, List.nil_append, List.getElem?_cons_zero, List.getElem?_cons_succ, Option.bind_some, Option.map_some, ea, Nat.zero_add, Nat.reduceAdd, if_true]
  have ef : sWhile (fun r => fuelI r 3) (mTst (mBin fNe (mVar 3) (mC (.int 0)))) (sPar [2, 3] (pD (mVar 3) (pD (mBin fMod (mUn gInt (mVar 2)) (mVar 3)) pNil))) [some (.d (.int a)), some (.d (.int b)), some (.d (.int (a.natAbs : Nat))), some (.d (.int b))] [] =
      some (.nx, [some (.d (.int a)), some (.d (.int b)), some (.d (.int (Nat.gcd a.natAbs b.natAbs))), some (.d (.int (0 : Nat)))], []) := he
  have ef' := ef
  unfold sPar at ef'
  simp only [pD, pNil, mVar, mUn] at ef'
  first
    | rw [ef]
    | rw [ef']
  simp only [runF, runJ, r0, outD, sSeq, sNil, sRet, sRetN, sPass, sIf, sSet, sOwn, sPar, sAsg, sApp, sExt, sEx, sFor, sFrz, sSetI, loopS, putR, Cv.sl, pNil, pD, pO, mVar, mOwn, mC, mBin, mUn, mTst, asB, mIf, mNot, mAnd, mOr, mAndV, mOrV, mNotV, mNil, mCons, mTup, mLst, mCh, mIsN, mNotN, isN, mL, mDisp, mCall, mSl, mOn, mOs, slD, mRow, rowD, sqD, mZip, mEnum, mLc, lcS, wipeR, mYes, mLc2E, lc2E, gNm, gTp, gsCons, gsNil, gTuple, gList, gAll, bools, fAdd, fSub, fCmp, fNeg, List.map, List.set, Option.bind_some, Option.map_some, Option.bind_none, Option.map_none, List.getElem?_cons_zero, List.getElem?_cons_succ, List.length_cons, List.length_nil, List.length_map, List.append_eq, List.nil_append, List.cons_append, List.replicate, Nat.reduceSub, Nat.reduceAdd, Nat.reduceLeDiff, Nat.reduceLT, lineN, Nat.zero_le, Nat.zero_add, reduceIte, if_true, if_false, Bool.false_eq_true, Bool.not_true, Bool.not_false, List.zipWith, List.zipIdx, List.zipIdx_cons, List.zipIdx_nil, fDiv_ok hd, hr.1, hr.2]
  rfl
theorem F_law_six_eq (x : Int) : F_law_six [.int x] = some (rD (Rat.divInt x 6)) := by
  have h := F_law_low_eq (a := x) (b := 6) (by decide) bz6 (by decide)
  unfold F_law_six g_law_six
  simp only [runF, runJ, r0, outD, sSeq, sNil, sRet, sRetN, sPass, sIf, sSet, sOwn, sPar, sAsg, sApp, sExt, sEx, sFor, sFrz, sSetI, loopS, putR, Cv.sl, pNil, pD, pO, mVar, mOwn, mC, mBin, mUn, mTst, asB, mIf, mNot, mAnd, mOr, mAndV, mOrV, mNotV, mNil, mCons, mTup, mLst, mCh, mIsN, mNotN, isN, mL, mDisp, mCall, mSl, mOn, mOs, slD, mRow, rowD, sqD, mZip, mEnum, mLc, lcS, wipeR, mYes, mLc2E, lc2E, gNm, gTp, gsCons, gsNil, gTuple, gList, gAll, bools, fAdd, fSub, fCmp, fNeg, List.map, List.set, Option.bind_some, Option.map_some, Option.bind_none, Option.map_none, List.getElem?_cons_zero, List.getElem?_cons_succ, List.length_cons, List.length_nil, List.length_map, List.append_eq, List.nil_append, List.cons_append, List.replicate, Nat.reduceSub, Nat.reduceAdd, Nat.reduceLeDiff, Nat.reduceLT, lineN, Nat.zero_le, Nat.zero_add, reduceIte, if_true, if_false, Bool.false_eq_true, Bool.not_true, Bool.not_false, List.zipWith, List.zipIdx, List.zipIdx_cons, List.zipIdx_nil, h]
def pI (p : Int × Int) : Dt := .tuple [.int p.1, .int p.2]
def six (p : Int × Int) : Pt := (Rat.divInt p.1 6, Rat.divInt p.2 6)
theorem F_law_place_eq (x y : Int) : F_law_place [.int x, .int y] = some (ptD (six (x, y))) := by
  unfold F_law_place g_law_place
  simp only [runF, runJ, r0, outD, sSeq, sNil, sRet, sRetN, sPass, sIf, sSet, sOwn, sPar, sAsg, sApp, sExt, sEx, sFor, sFrz, sSetI, loopS, putR, Cv.sl, pNil, pD, pO, mVar, mOwn, mC, mBin, mUn, mTst, asB, mIf, mNot, mAnd, mOr, mAndV, mOrV, mNotV, mNil, mCons, mTup, mLst, mCh, mIsN, mNotN, isN, mL, mDisp, mCall, mSl, mOn, mOs, slD, mRow, rowD, sqD, mZip, mEnum, mLc, lcS, wipeR, mYes, mLc2E, lc2E, gNm, gTp, gsCons, gsNil, gTuple, gList, gAll, bools, fAdd, fSub, fCmp, fNeg, List.map, List.set, Option.bind_some, Option.map_some, Option.bind_none, Option.map_none, List.getElem?_cons_zero, List.getElem?_cons_succ, List.length_cons, List.length_nil, List.length_map, List.append_eq, List.nil_append, List.cons_append, List.replicate, Nat.reduceSub, Nat.reduceAdd, Nat.reduceLeDiff, Nat.reduceLT, lineN, Nat.zero_le, Nat.zero_add, reduceIte, if_true, if_false, Bool.false_eq_true, Bool.not_true, Bool.not_false, List.zipWith, List.zipIdx, List.zipIdx_cons, List.zipIdx_nil, F_law_six_eq]
  rfl
theorem F_law_shown_eq {cs : List (Int × Int)} : F_law_shown_corners [.list (cs.map pI)] = some (.tuple ((cs.map six).map ptD)) := by
  have hm := lcS_map (t := gTp (gsCons (gNm 1) (gsCons (gNm 2) gsNil))) (c := mYes) (e := mCall F_law_place (mCons (mVar 1) (mCons (mVar 2) mNil))) (r0 := wipeR [some (.d (.list (cs.map pI))), none, none] [1, 2]) (j := []) pI (fun p => ptD (six p)) (L := cs) fun p hp => by
    refine ⟨_, rfl, rfl, ?_⟩
    simp only [runF, runJ, r0, outD, sSeq, sNil, sRet, sRetN, sPass, sIf, sSet, sOwn, sPar, sAsg, sApp, sExt, sEx, sFor, sFrz, sSetI, loopS, putR, Cv.sl, pNil, pD, pO, mVar, mOwn, mC, mBin, mUn, mTst, asB, mIf, mNot, mAnd, mOr, mAndV, mOrV, mNotV, mNil, mCons, mTup, mLst, mCh, mIsN, mNotN, isN, mL, mDisp, mCall, mSl, mOn, mOs, slD, mRow, rowD, sqD, mZip, mEnum, mLc, lcS, wipeR, mYes, mLc2E, lc2E, gNm, gTp, gsCons, gsNil, gTuple, gList, gAll, bools, fAdd, fSub, fCmp, fNeg, List.map, List.set, Option.bind_some, Option.map_some, Option.bind_none, Option.map_none, List.getElem?_cons_zero, List.getElem?_cons_succ, List.length_cons, List.length_nil, List.length_map, List.append_eq, List.nil_append, List.cons_append, List.replicate, Nat.reduceSub, Nat.reduceAdd, Nat.reduceLeDiff, Nat.reduceLT, lineN, Nat.zero_le, Nat.zero_add, reduceIte, if_true, if_false, Bool.false_eq_true, Bool.not_true, Bool.not_false, List.zipWith, List.zipIdx, List.zipIdx_cons, List.zipIdx_nil, F_law_place_eq]
  unfold F_law_shown_corners g_law_shown_corners
  simp only [runF, r0, outD, sRet, mL, mLc, mUn, mRow, rowD, mVar, List.map, List.length_cons, List.length_nil, Nat.reduceSub, List.replicate, List.cons_append, List.nil_append, List.getElem?_cons_zero, Option.bind_some, Option.map_some, hm, gTuple]
  rw [List.map_map]
  rfl
theorem F_law_far_eq {s : Int × Int} {x y : Int} {m : Nat} (h1 : Bz m s.1) (h2 : Bz m s.2) (hx : Bz m x) (hy : Bz m y) (hm : m ≤ 1000000) :
    F_law_far [pI s, .int x, .int y] = some (.int ((x - s.1) * (x - s.1) + (y - s.2) * (y - s.2))) := by
  have m1 := (hx.sub h1).ok (hx.sub h1) (by omega)
  have m2 := (hy.sub h2).ok (hy.sub h2) (by omega)
  have e0 : fIx (pI s) (.int 0) = some (.int s.1) := rfl
  have e1 : fIx (pI s) (.int 1) = some (.int s.2) := rfl
  unfold F_law_far g_law_far
  simp only [runF, runJ, r0, outD, sSeq, sNil, sRet, sRetN, sPass, sIf, sSet, sOwn, sPar, sAsg, sApp, sExt, sEx, sFor, sFrz, sSetI, loopS, putR, Cv.sl, pNil, pD, pO, mVar, mOwn, mC, mBin, mUn, mTst, asB, mIf, mNot, mAnd, mOr, mAndV, mOrV, mNotV, mNil, mCons, mTup, mLst, mCh, mIsN, mNotN, isN, mL, mDisp, mCall, mSl, mOn, mOs, slD, mRow, rowD, sqD, mZip, mEnum, mLc, lcS, wipeR, mYes, mLc2E, lc2E, gNm, gTp, gsCons, gsNil, gTuple, gList, gAll, bools, fAdd, fSub, fCmp, fNeg, List.map, List.set, Option.bind_some, Option.map_some, Option.bind_none, Option.map_none, List.getElem?_cons_zero, List.getElem?_cons_succ, List.length_cons, List.length_nil, List.length_map, List.append_eq, List.nil_append, List.cons_append, List.replicate, Nat.reduceSub, Nat.reduceAdd, Nat.reduceLeDiff, Nat.reduceLT, lineN, Nat.zero_le, Nat.zero_add, reduceIte, if_true, if_false, Bool.false_eq_true, Bool.not_true, Bool.not_false, List.zipWith, List.zipIdx, List.zipIdx_cons, List.zipIdx_nil, e0, e1, fMul_ok m1, fMul_ok m2]
end K29
end
section
set_option Elab.async false
set_option linter.all false
set_option autoImplicit false
set_option maxRecDepth 100000
namespace K29
open PySem PySem.Spec PyProof.Rows L2 Ev Ar
abbrev PI := Int × Int
def ix (b : Bool) : Int := if b = true then 1 else 0
def wD (s0 s1 : PI) (b : Bool) (lo hi : Int) : Dt := .tuple [.list [pI s0, pI s1], .list [.tuple [.int (ix b), .int lo, .none], .tuple [.int (ix (!b)), .none, .int hi]], .list []]
/-- the near one, the far one -/
def nI (b : Bool) (s0 s1 : PI) : PI := if b = true then s1 else s0
theorem name_eq (b : Bool) : F_law_name [.int (ix b)] = some (.str (nm b)) := by cases b <;> kernel_rfl
theorem name0 : F_law_name [.int ((0 : Nat) : Int)] = some (.str "a") := by kernel_rfl
theorem name1 : F_law_name [.int ((1 : Nat) : Int)] = some (.str "b") := by kernel_rfl
section
variable {s0 s1 : PI} {b : Bool} {lo hi : Int}
theorem F_law_scene_eq : F_law_scene [wD s0 s1 b lo hi] = some (scD (six s0) (six s1) b (Rat.divInt lo 6) (Rat.divInt hi 6)) := by
  have i0 : fIx (wD s0 s1 b lo hi) (.int 0) = some (.list [pI s0, pI s1]) := rfl
  have i1 : fIx (wD s0 s1 b lo hi) (.int 1) = some (.list [.tuple [.int (ix b), .int lo, .none], .tuple [.int (ix (!b)), .none, .int hi]]) := rfl
  have i2 : fIx (wD s0 s1 b lo hi) (.int 2) = some (.list []) := rfl
  have n0 := name0
  have n1 := name1
  unfold F_law_scene g_law_scene
  simp only [runF, runJ, r0, outD, sSeq, sNil, sRet, sRetN, sPass, sIf, sSet, sOwn, sPar, sAsg, sApp, sExt, sEx, sFor, sFrz, sSetI, loopS, putR, Cv.sl, pNil, pD, pO, mVar, mOwn, mC, mBin, mUn, mTst, asB, mIf, mNot, mAnd, mOr, mAndV, mOrV, mNotV, mNil, mCons, mTup, mLst, mCh, mIsN, mNotN, isN, mL, mDisp, mCall, mSl, mOn, mOs, slD, mRow, rowD, sqD, mZip, mEnum, mLc, lcS, wipeR, mYes, mLc2E, lc2E, gNm, gTp, gsCons, gsNil, gTuple, gList, gAll, bools, fAdd, fSub, fCmp, fNeg, List.map, List.set, Option.bind_some, Option.map_some, Option.bind_none, Option.map_none, List.getElem?_cons_zero, List.getElem?_cons_succ, List.length_cons, List.length_nil, List.length_map, List.append_eq, List.nil_append, List.cons_append, List.replicate, Nat.reduceSub, Nat.reduceAdd, Nat.reduceLeDiff, Nat.reduceLT, lineN, Nat.zero_le, Nat.zero_add, reduceIte, if_true, if_false, Bool.false_eq_true, Bool.not_true, Bool.not_false, List.zipWith, List.zipIdx, List.zipIdx_cons, List.zipIdx_nil, i0, i1, i2, pI, n0, n1, name_eq, F_law_six_eq]
  cases b <;> kernel_rfl
theorem F_law_is_whole_eq (i : Int) : F_law_is_whole [.int i] = some (.bool true) := by kernel_rfl
theorem F_law_is_fraction_eq {q : Rat} {m : Nat} (hq : Sz m q) (hm : m ≤ 8999) : F_law_is_fraction [rD q] = some (.bool true) := by
  have hd : (0 : Int) < q.den := by
    have := den_pos q
    omega
  have hl := F_law_low_eq (a := q.num) hd (m := m) (dn hq) hm
  rw [Rat.num_divInt_den] at hl
  have hrow : rowD (rD q) = some [.int q.num, .int q.den] := rfl
  unfold F_law_is_fraction g_law_is_fraction
  simp only [runF, runJ, r0, outD, sSeq, sNil, sRet, sRetN, sPass, sIf, sSet, sOwn, sPar, sAsg, sApp, sExt, sEx, sFor, sFrz, sSetI, loopS, putR, Cv.sl, pNil, pD, pO, mVar, mOwn, mC, mBin, mUn, mTst, asB, mIf, mNot, mAnd, mOr, mAndV, mOrV, mNotV, mNil, mCons, mTup, mLst, mCh, mIsN, mNotN, isN, mL, mDisp, mCall, mSl, mOn, mOs, slD, mRow, rowD, sqD, mZip, mEnum, mLc, lcS, wipeR, mYes, mLc2E, lc2E, gNm, gTp, gsCons, gsNil, gTuple, gList, gAll, bools, fAdd, fSub, fCmp, fNeg, List.map, List.set, Option.bind_some, Option.map_some, Option.bind_none, Option.map_none, List.getElem?_cons_zero, List.getElem?_cons_succ, List.length_cons, List.length_nil, List.length_map, List.append_eq, List.nil_append, List.cons_append, List.replicate, Nat.reduceSub, Nat.reduceAdd, Nat.reduceLeDiff, Nat.reduceLT, lineN, Nat.zero_le, Nat.zero_add, reduceIte, if_true, if_false, Bool.false_eq_true, Bool.not_true, Bool.not_false, List.zipWith, List.zipIdx, List.zipIdx_cons, List.zipIdx_nil, rD_isi, rD_len, fNe_int, fEq_int, rx0, rx1, hl, fEq_rD, hd, decide_true, Bool.not_true, Bool.false_eq_true, if_false, if_true]
  have hrow' := hrow
  simp only [rowD] at hrow'
  simp only [hrow', Option.map_some, Option.bind_some, lcS, F_law_is_whole_eq, runF, runJ, r0, outD, sSeq, sNil, sRet, sRetN, sPass, sIf, sSet, sOwn, sPar, sAsg, sApp, sExt, sEx, sFor, sFrz, sSetI, loopS, putR, Cv.sl, pNil, pD, pO, mVar, mOwn, mC, mBin, mUn, mTst, asB, mIf, mNot, mAnd, mOr, mAndV, mOrV, mNotV, mNil, mCons, mTup, mLst, mCh, mIsN, mNotN, isN, mL, mDisp, mCall, mSl, mOn, mOs, slD, mRow, rowD, sqD, mZip, mEnum, mLc, lcS, wipeR, mYes, mLc2E, lc2E, gNm, gTp, gsCons, gsNil, gTuple, gList, gAll, bools, fAdd, fSub, fCmp, fNeg, List.map, List.set, Option.bind_some, Option.map_some, Option.bind_none, Option.map_none, List.getElem?_cons_zero, List.getElem?_cons_succ, List.length_cons, List.length_nil, List.length_map, List.append_eq, List.nil_append, List.cons_append, List.replicate, Nat.reduceSub, Nat.reduceAdd, Nat.reduceLeDiff, Nat.reduceLT, lineN, Nat.zero_le, Nat.zero_add, reduceIte, if_true, if_false, Bool.false_eq_true, Bool.not_true, Bool.not_false, List.zipWith, List.zipIdx, List.zipIdx_cons, List.zipIdx_nil, Bool.not_true, Bool.false_eq_true, if_false, if_true, fNe_nil, List.isEmpty_nil, rx0, rx1, hl, fEq_rD, hd, decide_true]
theorem F_law_is_place_eq {p : Pt} {m : Nat} (hp : PSz m p) (hm : m ≤ 8999) : F_law_is_place [ptD p] = some (.bool true) := by
  have l : gLen (ptD p) = some (.int 2) := rfl
  have i : gIsi "tuple" (ptD p) = some (.bool true) := rfl
  have h1 := F_law_is_fraction_eq hp.x hm
  have h2 := F_law_is_fraction_eq hp.y hm
  have hrow : rowD (ptD p) = some [rD p.1, rD p.2] := rfl
  unfold F_law_is_place g_law_is_place
  simp only [runF, runJ, r0, outD, sSeq, sNil, sRet, sRetN, sPass, sIf, sSet, sOwn, sPar, sAsg, sApp, sExt, sEx, sFor, sFrz, sSetI, loopS, putR, Cv.sl, pNil, pD, pO, mVar, mOwn, mC, mBin, mUn, mTst, asB, mIf, mNot, mAnd, mOr, mAndV, mOrV, mNotV, mNil, mCons, mTup, mLst, mCh, mIsN, mNotN, isN, mL, mDisp, mCall, mSl, mOn, mOs, slD, mRow, rowD, sqD, mZip, mEnum, mLc, lcS, wipeR, mYes, mLc2E, lc2E, gNm, gTp, gsCons, gsNil, gTuple, gList, gAll, bools, fAdd, fSub, fCmp, fNeg, List.map, List.set, Option.bind_some, Option.map_some, Option.bind_none, Option.map_none, List.getElem?_cons_zero, List.getElem?_cons_succ, List.length_cons, List.length_nil, List.length_map, List.append_eq, List.nil_append, List.cons_append, List.replicate, Nat.reduceSub, Nat.reduceAdd, Nat.reduceLeDiff, Nat.reduceLT, lineN, Nat.zero_le, Nat.zero_add, reduceIte, if_true, if_false, Bool.false_eq_true, Bool.not_true, Bool.not_false, List.zipWith, List.zipIdx, List.zipIdx_cons, List.zipIdx_nil, i, l, fEq_int, decide_true, if_true]
  have hrow' := hrow
  simp only [rowD] at hrow'
  simp only [hrow', Option.map_some, Option.bind_some, lcS, runF, runJ, r0, outD, sSeq, sNil, sRet, sRetN, sPass, sIf, sSet, sOwn, sPar, sAsg, sApp, sExt, sEx, sFor, sFrz, sSetI, loopS, putR, Cv.sl, pNil, pD, pO, mVar, mOwn, mC, mBin, mUn, mTst, asB, mIf, mNot, mAnd, mOr, mAndV, mOrV, mNotV, mNil, mCons, mTup, mLst, mCh, mIsN, mNotN, isN, mL, mDisp, mCall, mSl, mOn, mOs, slD, mRow, rowD, sqD, mZip, mEnum, mLc, lcS, wipeR, mYes, mLc2E, lc2E, gNm, gTp, gsCons, gsNil, gTuple, gList, gAll, bools, fAdd, fSub, fCmp, fNeg, List.map, List.set, Option.bind_some, Option.map_some, Option.bind_none, Option.map_none, List.getElem?_cons_zero, List.getElem?_cons_succ, List.length_cons, List.length_nil, List.length_map, List.append_eq, List.nil_append, List.cons_append, List.replicate, Nat.reduceSub, Nat.reduceAdd, Nat.reduceLeDiff, Nat.reduceLT, lineN, Nat.zero_le, Nat.zero_add, reduceIte, if_true, if_false, Bool.false_eq_true, Bool.not_true, Bool.not_false, List.zipWith, List.zipIdx, List.zipIdx_cons, List.zipIdx_nil, if_true, h1, h2]
  rfl
def atD (p : Pt) : PI × Int := ((6 * p.1.num * p.2.den, 6 * p.2.num * p.1.den), p.1.den * p.2.den)
theorem F_law_at_eq {p : Pt} {m : Nat} (hp : PSz m p) (hm : m ≤ 8999) : F_law_at [ptD p] = some (.tuple [.int (atD p).1.1, .int (atD p).1.2, .int (atD p).2]) := by
  have m1 : mulOk 6 p.1.num = true := mul_sm (by decide)
  have m2 : mulOk 6 p.2.num = true := mul_sm (by decide)
  have m3 := mul_ok (a := 6 * p.1.num) (b := p.2.den) (m := 3 + m) (n := m) (Bz.mul bz6 hp.x.1) (dn hp.y) (by omega)
  have m4 := mul_ok (a := 6 * p.2.num) (b := p.1.den) (m := 3 + m) (n := m) (Bz.mul bz6 hp.y.1) (dn hp.x) (by omega)
  have m5 := mul_ok (a := p.1.den) (b := p.2.den) (m := m) (n := m) (dn hp.x) (dn hp.y) (by omega)
  unfold F_law_at g_law_at ptD rD
  simp only [runF, runJ, r0, outD, sSeq, sNil, sRet, sRetN, sPass, sIf, sSet, sOwn, sPar, sAsg, sApp, sExt, sEx, sFor, sFrz, sSetI, loopS, putR, Cv.sl, pNil, pD, pO, mVar, mOwn, mC, mBin, mUn, mTst, asB, mIf, mNot, mAnd, mOr, mAndV, mOrV, mNotV, mNil, mCons, mTup, mLst, mCh, mIsN, mNotN, isN, mL, mDisp, mCall, mSl, mOn, mOs, slD, mRow, rowD, sqD, mZip, mEnum, mLc, lcS, wipeR, mYes, mLc2E, lc2E, gNm, gTp, gsCons, gsNil, gTuple, gList, gAll, bools, fAdd, fSub, fCmp, fNeg, List.map, List.set, Option.bind_some, Option.map_some, Option.bind_none, Option.map_none, List.getElem?_cons_zero, List.getElem?_cons_succ, List.length_cons, List.length_nil, List.length_map, List.append_eq, List.nil_append, List.cons_append, List.replicate, Nat.reduceSub, Nat.reduceAdd, Nat.reduceLeDiff, Nat.reduceLT, lineN, Nat.zero_le, Nat.zero_add, reduceIte, if_true, if_false, Bool.false_eq_true, Bool.not_true, Bool.not_false, List.zipWith, List.zipIdx, List.zipIdx_cons, List.zipIdx_nil, fMul_ok m1, fMul_ok m2, fMul_ok m3, fMul_ok m4, fMul_ok m5]
  rfl
/-- to the left of e, in whole numbers -/
def hI (e : PI × PI) (x : PI) : Int := (e.2.1 - e.1.1) * (x.2 - e.1.2) - (e.2.2 - e.1.2) * (x.1 - e.1.1)
theorem F_law_is_left_eq {p q x : PI} {m : Nat} (h1 : Bz m p.1) (h2 : Bz m p.2) (h3 : Bz m q.1) (h4 : Bz m q.2) (h5 : Bz m x.1) (h6 : Bz m x.2) (hm : m ≤ 1000000) : F_law_is_left [pI p, pI q, pI x] = some (.bool (decide (0 ≤ hI (p, q) x))) := by
  have m1 := (h3.sub h1).ok (h6.sub h2) (by omega)
  have m2 := (h4.sub h2).ok (h5.sub h1) (by omega)
  unfold F_law_is_left g_law_is_left pI
  simp only [runF, runJ, r0, outD, sSeq, sNil, sRet, sRetN, sPass, sIf, sSet, sOwn, sPar, sAsg, sApp, sExt, sEx, sFor, sFrz, sSetI, loopS, putR, Cv.sl, pNil, pD, pO, mVar, mOwn, mC, mBin, mUn, mTst, asB, mIf, mNot, mAnd, mOr, mAndV, mOrV, mNotV, mNil, mCons, mTup, mLst, mCh, mIsN, mNotN, isN, mL, mDisp, mCall, mSl, mOn, mOs, slD, mRow, rowD, sqD, mZip, mEnum, mLc, lcS, wipeR, mYes, mLc2E, lc2E, gNm, gTp, gsCons, gsNil, gTuple, gList, gAll, bools, fAdd, fSub, fCmp, fNeg, List.map, List.set, Option.bind_some, Option.map_some, Option.bind_none, Option.map_none, List.getElem?_cons_zero, List.getElem?_cons_succ, List.length_cons, List.length_nil, List.length_map, List.append_eq, List.nil_append, List.cons_append, List.replicate, Nat.reduceSub, Nat.reduceAdd, Nat.reduceLeDiff, Nat.reduceLT, lineN, Nat.zero_le, Nat.zero_add, reduceIte, if_true, if_false, Bool.false_eq_true, Bool.not_true, Bool.not_false, List.zipWith, List.zipIdx, List.zipIdx_cons, List.zipIdx_nil, ix0, ix1, fMul_ok m1, fMul_ok m2]
  rfl
theorem F_law_is_within_eq (x y : Dt) : F_law_is_within [wD s0 s1 b lo hi, x, y] = some (.bool true) := by kernel_rfl
def dI (s : PI) (x y : Int) : Int := (x - s.1) * (x - s.1) + (y - s.2) * (y - s.2)
/-- whether (x, y) is over -/
def oI (s z : PI) (k x y : Int) : Bool := decide (0 < sgTwo (-(k : Rat)) 1 (dI z x y) (-1) (dI s x y))
theorem dI_nn (s : PI) (x y : Int) : 0 ≤ dI s x y := by
  have h : ∀ a : Int, 0 ≤ a * a := fun a => by
    rcases Int.le_total 0 a with h | h
    · exact Int.mul_nonneg h h
    · have := Int.mul_nonneg (a := -a) (b := -a) (by omega) (by omega)
      rw [Int.neg_mul_neg] at this
      exact this
  exact Int.add_nonneg (h _) (h _)
structure BP (m : Nat) (p : PI) : Prop where
  x : Bz m p.1
  y : Bz m p.2
theorem nI_bp {m : Nat} (h0 : BP m s0) (h1 : BP m s1) (b : Bool) : BP m (nI b s0 s1) := by
  cases b
  · exact h0
  · exact h1
theorem dI_bz {s : PI} {x y : Int} {m : Nat} (h : BP m s) (hx : Bz m x) (hy : Bz m y) : Bz (8 * m + 10) (dI s x y) :=
  (((hx.sub h.x).mul (hx.sub h.x)).add ((hy.sub h.y).mul (hy.sub h.y))).mono (by omega)
theorem far_eq {s : PI} {x y : Int} {m : Nat} (h : BP m s) (hx : Bz m x) (hy : Bz m y) (hm : m ≤ 1000000) : F_law_far [pI s, .int x, .int y] = some (.int (dI s x y)) := F_law_far_eq h.x h.y hx hy hm
theorem st_at (b : Bool) (x y z : Dt) : fIx (.list [pI s0, pI s1]) (.int (ix b)) = some (pI (nI b s0 s1)) := by cases b <;> rfl
theorem F_law_is_let_eq {x y : Int} {m : Nat} (h0 : BP m s0) (h1 : BP m s1) (hx : Bz m x) (hy : Bz m y) (hl : Bz m lo) (hh : Bz m hi) (hm : m ≤ 1200) :
    F_law_is_let [wD s0 s1 b lo hi, .int x, .int y] = some (.bool (!oI (nI b s0 s1) (nI (!b) s0 s1) (hi - lo) x y)) := by
  have i0 : fIx (wD s0 s1 b lo hi) (.int 0) = some (.list [pI s0, pI s1]) := rfl
  have i1 : fIx (wD s0 s1 b lo hi) (.int 1) = some (.list [.tuple [.int (ix b), .int lo, .none], .tuple [.int (ix (!b)), .none, .int hi]]) := rfl
  have f1 := far_eq (nI_bp h0 h1 b) hx hy (by omega)
  have f2 := far_eq (nI_bp h0 h1 (!b)) hx hy (by omega)
  have sa : ∀ b, fIx (.list [pI s0, pI s1]) (.int (ix b)) = some (pI (nI b s0 s1)) := fun b => by cases b <;> rfl
  have d1 := dI_bz (nI_bp h0 h1 b) hx hy
  have d2 := dI_bz (nI_bp h0 h1 (!b)) hx hy
  have st := F_law_sign_three_eq (m := 8 * m + 10) (p := lo - hi) (q := 1) (c := -1) ((hl.sub hh).mono (by omega)) (bz1.mono (by omega)) d2 (bzm1.mono (by omega)) d1 (dI_nn ..) (dI_nn ..) (by omega) (by omega)
  have ec : (((lo - hi : Int)) : Rat) = -((hi - lo : Int) : Rat) := by
    rw [cast_sub, cast_sub]
    grind
  have e1 : ((1 : Int) : Rat) = 1 := rfl
  have em1 : ((-1 : Int) : Rat) = -1 := rfl
  rw [ec, e1, em1] at st
  unfold F_law_is_let g_law_is_let oI
  simp only [runF, runJ, r0, outD, sSeq, sNil, sRet, sRetN, sPass, sIf, sSet, sOwn, sPar, sAsg, sApp, sExt, sEx, sFor, sFrz, sSetI, loopS, putR, Cv.sl, pNil, pD, pO, mVar, mOwn, mC, mBin, mUn, mTst, asB, mIf, mNot, mAnd, mOr, mAndV, mOrV, mNotV, mNil, mCons, mTup, mLst, mCh, mIsN, mNotN, isN, mL, mDisp, mCall, mSl, mOn, mOs, slD, mRow, rowD, sqD, mZip, mEnum, mLc, lcS, wipeR, mYes, mLc2E, lc2E, gNm, gTp, gsCons, gsNil, gTuple, gList, gAll, bools, fAdd, fSub, fCmp, fNeg, List.map, List.set, Option.bind_some, Option.map_some, Option.bind_none, Option.map_none, List.getElem?_cons_zero, List.getElem?_cons_succ, List.length_cons, List.length_nil, List.length_map, List.append_eq, List.nil_append, List.cons_append, List.replicate, Nat.reduceSub, Nat.reduceAdd, Nat.reduceLeDiff, Nat.reduceLT, lineN, Nat.zero_le, Nat.zero_add, reduceIte, if_true, if_false, Bool.false_eq_true, Bool.not_true, Bool.not_false, List.zipWith, List.zipIdx, List.zipIdx_cons, List.zipIdx_nil, F_law_is_within_eq, i0, i1, sa, f1, f2, st, Bool.not_true, Bool.not_false, Bool.false_eq_true, if_false, if_true]
  generalize sgTwo (-((hi - lo : Int) : Rat)) 1 (dI (nI (!b) s0 s1) x y) (-1) (dI (nI b s0 s1) x y) = v
  by_cases q : 0 < v
  · simp only [q, decide_true, runF, runJ, r0, outD, sSeq, sNil, sRet, sRetN, sPass, sIf, sSet, sOwn, sPar, sAsg, sApp, sExt, sEx, sFor, sFrz, sSetI, loopS, putR, Cv.sl, pNil, pD, pO, mVar, mOwn, mC, mBin, mUn, mTst, asB, mIf, mNot, mAnd, mOr, mAndV, mOrV, mNotV, mNil, mCons, mTup, mLst, mCh, mIsN, mNotN, isN, mL, mDisp, mCall, mSl, mOn, mOs, slD, mRow, rowD, sqD, mZip, mEnum, mLc, lcS, wipeR, mYes, mLc2E, lc2E, gNm, gTp, gsCons, gsNil, gTuple, gList, gAll, bools, fAdd, fSub, fCmp, fNeg, List.map, List.set, Option.bind_some, Option.map_some, Option.bind_none, Option.map_none, List.getElem?_cons_zero, List.getElem?_cons_succ, List.length_cons, List.length_nil, List.length_map, List.append_eq, List.nil_append, List.cons_append, List.replicate, Nat.reduceSub, Nat.reduceAdd, Nat.reduceLeDiff, Nat.reduceLT, lineN, Nat.zero_le, Nat.zero_add, reduceIte, if_true, if_false, Bool.false_eq_true, Bool.not_true, Bool.not_false, List.zipWith, List.zipIdx, List.zipIdx_cons, List.zipIdx_nil]
  · simp only [q, decide_false, runF, runJ, r0, outD, sSeq, sNil, sRet, sRetN, sPass, sIf, sSet, sOwn, sPar, sAsg, sApp, sExt, sEx, sFor, sFrz, sSetI, loopS, putR, Cv.sl, pNil, pD, pO, mVar, mOwn, mC, mBin, mUn, mTst, asB, mIf, mNot, mAnd, mOr, mAndV, mOrV, mNotV, mNil, mCons, mTup, mLst, mCh, mIsN, mNotN, isN, mL, mDisp, mCall, mSl, mOn, mOs, slD, mRow, rowD, sqD, mZip, mEnum, mLc, lcS, wipeR, mYes, mLc2E, lc2E, gNm, gTp, gsCons, gsNil, gTuple, gList, gAll, bools, fAdd, fSub, fCmp, fNeg, List.map, List.set, Option.bind_some, Option.map_some, Option.bind_none, Option.map_none, List.getElem?_cons_zero, List.getElem?_cons_succ, List.length_cons, List.length_nil, List.length_map, List.append_eq, List.nil_append, List.cons_append, List.replicate, Nat.reduceSub, Nat.reduceAdd, Nat.reduceLeDiff, Nat.reduceLT, lineN, Nat.zero_le, Nat.zero_add, reduceIte, if_true, if_false, Bool.false_eq_true, Bool.not_true, Bool.not_false, List.zipWith, List.zipIdx, List.zipIdx_cons, List.zipIdx_nil, i1]
end
end K29
end
section
set_option Elab.async false
set_option linter.all false
set_option autoImplicit false
set_option maxRecDepth 100000
namespace K29
open PySem PySem.Spec PyProof.Rows L2 Ev Ar
def tm (t : Int) (p : PI) : PI := (p.1 * t, p.2 * t)
section
variable {s0 s1 : PI} {b : Bool} {lo hi : Int} {cs : List PI} {m : Nat}
theorem F_law_scaled_eq {t : Int} (h0 : BP m s0) (h1 : BP m s1) (hl : Bz m lo) (hh : Bz m hi) (ht : Bz m t) (hm : m ≤ 1000000) : F_law_scaled [wD s0 s1 b lo hi, .int t] = some (wD (tm t s0) (tm t s1) b (lo * t) (hi * t)) := by
  have i0 : fIx (wD s0 s1 b lo hi) (.int 0) = some (.list [pI s0, pI s1]) := rfl
  have i1 : fIx (wD s0 s1 b lo hi) (.int 1) = some (.list [.tuple [.int (ix b), .int lo, .none], .tuple [.int (ix (!b)), .none, .int hi]]) := rfl
  have i2 : fIx (wD s0 s1 b lo hi) (.int 2) = some (.list []) := rfl
  have m1 := h0.x.ok ht (by omega)
  have m2 := h0.y.ok ht (by omega)
  have m3 := h1.x.ok ht (by omega)
  have m4 := h1.y.ok ht (by omega)
  have m5 := hl.ok ht (by omega)
  have m6 := hh.ok ht (by omega)
  unfold F_law_scaled g_law_scaled
  simp only [runF, runJ, r0, outD, sSeq, sNil, sRet, sRetN, sPass, sIf, sSet, sOwn, sPar, sAsg, sApp, sExt, sEx, sFor, sFrz, sSetI, loopS, putR, Cv.sl, pNil, pD, pO, mVar, mOwn, mC, mBin, mUn, mTst, asB, mIf, mNot, mAnd, mOr, mAndV, mOrV, mNotV, mNil, mCons, mTup, mLst, mCh, mIsN, mNotN, isN, mL, mDisp, mCall, mSl, mOn, mOs, slD, mRow, rowD, sqD, mZip, mEnum, mLc, lcS, wipeR, mYes, mLc2E, lc2E, gNm, gTp, gsCons, gsNil, gTuple, gList, gAll, bools, fAdd, fSub, fCmp, fNeg, List.map, List.set, Option.bind_some, Option.map_some, Option.bind_none, Option.map_none, List.getElem?_cons_zero, List.getElem?_cons_succ, List.length_cons, List.length_nil, List.length_map, List.append_eq, List.nil_append, List.cons_append, List.replicate, Nat.reduceSub, Nat.reduceAdd, Nat.reduceLeDiff, Nat.reduceLT, lineN, Nat.zero_le, Nat.zero_add, reduceIte, if_true, if_false, Bool.false_eq_true, Bool.not_true, Bool.not_false, List.zipWith, List.zipIdx, List.zipIdx_cons, List.zipIdx_nil, i0, i1, i2, pI, fMul_ok m1, fMul_ok m2, fMul_ok m3, fMul_ok m4, fMul_ok m5, fMul_ok m6]
  rfl
theorem F_law_is_let_at_eq {x y t : Int} (h0 : BP m s0) (h1 : BP m s1) (hx : Bz m x) (hy : Bz m y) (hl : Bz m lo) (hh : Bz m hi) (ht : Bz m t) (hm : m ≤ 600) :
    F_law_is_let_at [wD s0 s1 b lo hi, .tuple [.int x, .int y, .int t]] = some (.bool (!oI (nI b (tm t s0) (tm t s1)) (nI (!b) (tm t s0) (tm t s1)) (hi * t - lo * t) x y)) := by
  have q1 := F_law_scaled_eq (b := b) h0 h1 hl hh ht (by omega)
  have q2 := F_law_is_let_eq (b := b) (m := 2 * m) (s0 := tm t s0) (s1 := tm t s1) (lo := lo * t) (hi := hi * t) ⟨(h0.x.mul ht).mono (by omega), (h0.y.mul ht).mono (by omega)⟩ ⟨(h1.x.mul ht).mono (by omega), (h1.y.mul ht).mono (by omega)⟩ (hx.mono (by omega)) (hy.mono (by omega)) ((hl.mul ht).mono (by omega)) ((hh.mul ht).mono (by omega)) (by omega)
  unfold F_law_is_let_at g_law_is_let_at
  simp only [runF, runJ, r0, outD, sSeq, sNil, sRet, sRetN, sPass, sIf, sSet, sOwn, sPar, sAsg, sApp, sExt, sEx, sFor, sFrz, sSetI, loopS, putR, Cv.sl, pNil, pD, pO, mVar, mOwn, mC, mBin, mUn, mTst, asB, mIf, mNot, mAnd, mOr, mAndV, mOrV, mNotV, mNil, mCons, mTup, mLst, mCh, mIsN, mNotN, isN, mL, mDisp, mCall, mSl, mOn, mOs, slD, mRow, rowD, sqD, mZip, mEnum, mLc, lcS, wipeR, mYes, mLc2E, lc2E, gNm, gTp, gsCons, gsNil, gTuple, gList, gAll, bools, fAdd, fSub, fCmp, fNeg, List.map, List.set, Option.bind_some, Option.map_some, Option.bind_none, Option.map_none, List.getElem?_cons_zero, List.getElem?_cons_succ, List.length_cons, List.length_nil, List.length_map, List.append_eq, List.nil_append, List.cons_append, List.replicate, Nat.reduceSub, Nat.reduceAdd, Nat.reduceLeDiff, Nat.reduceLT, lineN, Nat.zero_le, Nat.zero_add, reduceIte, if_true, if_false, Bool.false_eq_true, Bool.not_true, Bool.not_false, List.zipWith, List.zipIdx, List.zipIdx_cons, List.zipIdx_nil, q1, q2]
/-! ### corners by their places -/
def atL (cs : List PI) (i : Nat) : PI := cs.getD i (0, 0)
def pvL (cs : List PI) (i : Nat) : PI := cs.getD (if i = 0 then cs.length - 1 else i - 1) (0, 0)
theorem atL_mem {i : Nat} (h : i < cs.length) : atL cs i ∈ cs := by
  unfold atL
  rw [List.getD_eq_getElem?_getD, List.getElem?_eq_getElem h]
  exact List.getElem_mem h
theorem pvL_mem {i : Nat} (h : i < cs.length) : pvL cs i ∈ cs := by
  unfold pvL
  split
  · exact atL_mem (by omega)
  · exact atL_mem (by omega)
theorem fIx_at {i : Nat} (h : i < cs.length) : fIx (.list (cs.map pI)) (.int (0 + (i : Nat))) = some (pI (atL cs i)) := by
  have e : ixN (cs.map pI).length (0 + (i : Int)) = some i := by
    unfold ixN
    rw [List.length_map, if_pos (by omega), if_pos (by omega)]
    congr 1
    omega
  show L2.atI (cs.map pI) (0 + (i : Int)) = _
  unfold L2.atI atL
  rw [e, List.getD_eq_getElem?_getD, List.getElem?_eq_getElem h]
  simp [h]
theorem fIx_pv {i : Nat} (h : i < cs.length) : fIx (.list (cs.map pI)) (.int (0 + (i : Nat) - 1)) = some (pI (pvL cs i)) := by
  have e : ixN (cs.map pI).length (0 + (i : Int) - 1) = some (if i = 0 then cs.length - 1 else i - 1) := by
    unfold ixN
    rw [List.length_map]
    by_cases hi : i = 0
    · subst hi
      rw [if_neg (by omega), if_pos (by omega), if_pos rfl]
      congr 1
      omega
    · rw [if_pos (by omega), if_pos (by omega), if_neg hi]
      congr 1
      omega
  show L2.atI (cs.map pI) (0 + (i : Int) - 1) = _
  unfold L2.atI pvL
  rw [e]
  have hj : (if i = 0 then cs.length - 1 else i - 1) < cs.length := by split <;> omega
  generalize (if i = 0 then cs.length - 1 else i - 1) = k at *
  rw [List.getD_eq_getElem?_getD, List.getElem?_eq_getElem hj]
  simp [hj]
theorem scan_all {α β : Type} (P : α → Bool) (d : β) : ∀ L : List α, L.findSome? (fun i => if P i = true then none else some d) = if L.all P = true then none else some d
  | [] => rfl
  | a :: L => by
    simp only [List.findSome?_cons, List.all_cons]
    by_cases h : P a = true
    · simp only [h, if_true, scan_all P d L, Bool.true_and]
    · simp [h]
theorem rng_eq {r : Rg} {j : Jr} {f : M Dt} {n : Nat} (h : f r j = some (.int n, j)) (hn : n ≤ 1000) : mRng1 (mCons f mNil) r j = some ((List.range n).map (fun i => .int (0 + (i : Nat))), j) := by
  unfold mRng1
  simp only [mCons, mNil, h, Option.bind_some, Option.map_some]
  rw [if_pos (by omega)]
  unfold rangeL
  congr 3
def inB (cs : List PI) (x : PI) : Bool := (List.range cs.length).all fun i => decide (0 ≤ hI (pvL cs i, atL cs i) x)
theorem gLen_map : gLen (.list (cs.map pI)) = some (.int cs.length) := by
  show some (PyData.int ((cs.map pI).length : Nat)) = _
  rw [List.length_map]
theorem F_law_is_in_eq {x : PI} (hc : ∀ c ∈ cs, BP m c) (hx : BP m x) (hl : cs.length ≤ 1000) (hm : m ≤ 1000000) : F_law_is_in [.list (cs.map pI), pI x] = some (.bool (inB cs x)) := by
  have A := loopS_scan (t := gNm 2) (b := sIf (mNot (mTst (mCall F_law_is_left (mCons (mBin fIx (mVar 0) (mBin fSub (mVar 2) (mC (.int 1)))) (mCons (mBin fIx (mVar 0) (mVar 2)) (mCons (mVar 1) mNil)))))) (sRet (mC (.bool false))) sNil) (j := [])
    (fun r => ∃ a, r = [some (Sl.d (.list (cs.map pI))), some (Sl.d (pI x)), a]) (fun i : Nat => .int (0 + (i : Nat))) (fun i => if (decide (0 ≤ hI (pvL cs i, atL cs i) x)) = true then none else some (.bool false)) (L := List.range cs.length) (by
      rintro i hi r ⟨a, rfl⟩
      have hi := List.mem_range.mp hi
      have b1 := hc _ (pvL_mem hi)
      have b2 := hc _ (atL_mem hi)
      have l := F_law_is_left_eq b1.x b1.y b2.x b2.y hx.x hx.y hm
      refine ⟨_, rfl, ?_⟩
      by_cases q : 0 ≤ hI (pvL cs i, atL cs i) x
      · simp only [q, decide_true, if_true]
        refine ⟨[some (Sl.d (.list (cs.map pI))), some (Sl.d (pI x)), some (.d (.int (0 + (i : Nat))))], ⟨_, rfl⟩, ?_⟩
        simp only [runF, runJ, r0, outD, sSeq, sNil, sRet, sRetN, sPass, sIf, sSet, sOwn, sPar, sAsg, sApp, sExt, sEx, sFor, sFrz, sSetI, loopS, putR, Cv.sl, pNil, pD, pO, mVar, mOwn, mC, mBin, mUn, mTst, asB, mIf, mNot, mAnd, mOr, mAndV, mOrV, mNotV, mNil, mCons, mTup, mLst, mCh, mIsN, mNotN, isN, mL, mDisp, mCall, mSl, mOn, mOs, slD, mRow, rowD, sqD, mZip, mEnum, mLc, lcS, wipeR, mYes, mLc2E, lc2E, gNm, gTp, gsCons, gsNil, gTuple, gList, gAll, bools, fAdd, fSub, fCmp, fNeg, List.map, List.set, Option.bind_some, Option.map_some, Option.bind_none, Option.map_none, List.getElem?_cons_zero, List.getElem?_cons_succ, List.length_cons, List.length_nil, List.length_map, List.append_eq, List.nil_append, List.cons_append, List.replicate, Nat.reduceSub, Nat.reduceAdd, Nat.reduceLeDiff, Nat.reduceLT, lineN, Nat.zero_le, Nat.zero_add, reduceIte, if_true, if_false, Bool.false_eq_true, Bool.not_true, Bool.not_false, List.zipWith, List.zipIdx, List.zipIdx_cons, List.zipIdx_nil, fIx_at hi, fIx_pv hi, l, q, decide_true]
      · simp only [q, decide_false, Bool.false_eq_true, if_false]
        simp only [runF, runJ, r0, outD, sSeq, sNil, sRet, sRetN, sPass, sIf, sSet, sOwn, sPar, sAsg, sApp, sExt, sEx, sFor, sFrz, sSetI, loopS, putR, Cv.sl, pNil, pD, pO, mVar, mOwn, mC, mBin, mUn, mTst, asB, mIf, mNot, mAnd, mOr, mAndV, mOrV, mNotV, mNil, mCons, mTup, mLst, mCh, mIsN, mNotN, isN, mL, mDisp, mCall, mSl, mOn, mOs, slD, mRow, rowD, sqD, mZip, mEnum, mLc, lcS, wipeR, mYes, mLc2E, lc2E, gNm, gTp, gsCons, gsNil, gTuple, gList, gAll, bools, fAdd, fSub, fCmp, fNeg, List.map, List.set, Option.bind_some, Option.map_some, Option.bind_none, Option.map_none, List.getElem?_cons_zero, List.getElem?_cons_succ, List.length_cons, List.length_nil, List.length_map, List.append_eq, List.nil_append, List.cons_append, List.replicate, Nat.reduceSub, Nat.reduceAdd, Nat.reduceLeDiff, Nat.reduceLT, lineN, Nat.zero_le, Nat.zero_add, reduceIte, if_true, if_false, Bool.false_eq_true, Bool.not_true, Bool.not_false, List.zipWith, List.zipIdx, List.zipIdx_cons, List.zipIdx_nil, fIx_at hi, fIx_pv hi, l, q, decide_false]
        exact ⟨_, rfl⟩)
  have A1 := A [some (Sl.d (.list (cs.map pI))), some (Sl.d (pI x)), none] ⟨_, rfl⟩
  rw [scan_all] at A1
  have hr := rng_eq (r := [some (Sl.d (.list (cs.map pI))), some (Sl.d (pI x)), none]) (j := []) (f := mUn gLen (mVar 0)) (n := cs.length) (by simp only [runF, runJ, r0, outD, sSeq, sNil, sRet, sRetN, sPass, sIf, sSet, sOwn, sPar, sAsg, sApp, sExt, sEx, sFor, sFrz, sSetI, loopS, putR, Cv.sl, pNil, pD, pO, mVar, mOwn, mC, mBin, mUn, mTst, asB, mIf, mNot, mAnd, mOr, mAndV, mOrV, mNotV, mNil, mCons, mTup, mLst, mCh, mIsN, mNotN, isN, mL, mDisp, mCall, mSl, mOn, mOs, slD, mRow, rowD, sqD, mZip, mEnum, mLc, lcS, wipeR, mYes, mLc2E, lc2E, gNm, gTp, gsCons, gsNil, gTuple, gList, gAll, bools, fAdd, fSub, fCmp, fNeg, List.map, List.set, Option.bind_some, Option.map_some, Option.bind_none, Option.map_none, List.getElem?_cons_zero, List.getElem?_cons_succ, List.length_cons, List.length_nil, List.length_map, List.append_eq, List.nil_append, List.cons_append, List.replicate, Nat.reduceSub, Nat.reduceAdd, Nat.reduceLeDiff, Nat.reduceLT, lineN, Nat.zero_le, Nat.zero_add, reduceIte, if_true, if_false, Bool.false_eq_true, Bool.not_true, Bool.not_false, List.zipWith, List.zipIdx, List.zipIdx_cons, List.zipIdx_nil, gLen_map]) hl
  unfold F_law_is_in g_law_is_in
  simp only [runF, r0, outD, sSeq, sFor, List.map, List.length_cons, List.length_nil, Nat.reduceSub, List.replicate, List.cons_append, List.nil_append, Nat.reduceAdd, Nat.zero_add]
  rw [hr]
  simp only [Option.bind_some]
  unfold inB
  by_cases q : ((List.range cs.length).all fun i => decide (0 ≤ hI (pvL cs i, atL cs i) x)) = true
  · rw [if_pos q] at A1
    obtain ⟨r2, _, A1⟩ := A1
    rw [A1, q]
    rfl
  · rw [if_neg q] at A1
    obtain ⟨r2, A1⟩ := A1
    rw [A1, Bool.not_eq_true _ |>.mp q]
    rfl
/-! ### an edge -/
def cA (k : Int) (p s z : PI) : Int := (p.1 - z.1) * (p.1 - z.1) + (p.2 - z.2) * (p.2 - z.2) - ((p.1 - s.1) * (p.1 - s.1) + (p.2 - s.2) * (p.2 - s.2)) - k * k
def cN1 (p q s : PI) : Int := 2 * ((p.1 - s.1) * (q.1 - p.1) + (p.2 - s.2) * (q.2 - p.2))
def cN2 (p q : PI) : Int := (q.1 - p.1) * (q.1 - p.1) + (q.2 - p.2) * (q.2 - p.2)
def cB (p q s z : PI) : Int := 2 * ((p.1 - z.1) * (q.1 - p.1) + (p.2 - z.2) * (q.2 - p.2)) - cN1 p q s
def c0 (k : Int) (p s z : PI) : Int := cA k p s z * cA k p s z - 4 * k * k * ((p.1 - s.1) * (p.1 - s.1) + (p.2 - s.2) * (p.2 - s.2))
def c1 (k : Int) (p q s z : PI) : Int := 2 * cA k p s z * cB p q s z - 4 * k * k * cN1 p q s
def c2 (k : Int) (p q s z : PI) : Int := cB p q s z * cB p q s z - 4 * k * k * cN2 p q
def esB (k : Int) (p q s z : PI) : Bool :=
  if (0 < cA k p s z ∧ 0 < c0 k p s z) ∨ (0 < cA k p s z + cB p q s z ∧ 0 < c0 k p s z + c1 k p q s z + c2 k p q s z) then true
  else if sg (c2 k p q s z) = 0 ∨ ¬ (0 < 0 - c1 k p q s z * sg (c2 k p q s z) ∧ 0 - c1 k p q s z * sg (c2 k p q s z) < 2 * c2 k p q s z * sg (c2 k p q s z)) then false
  else decide (0 < (2 * cA k p s z * c2 k p q s z - cB p q s z * c1 k p q s z) * sg (c2 k p q s z) ∧ 0 < (4 * c0 k p s z * c2 k p q s z - c1 k p q s z * c1 k p q s z) * sg (c2 k p q s z))
theorem F_law_cut_eq {k : Int} {p q s z : PI} (hk : Bz m k) (hp : BP m p) (hq : BP m q) (hs : BP m s) (hz : BP m z) (hm : m ≤ 100000) :
    F_law_cut [.int k, pI p, pI q, pI z, pI s] = some (.tuple [.tuple [.int ((p.1 - s.1) * (p.1 - s.1) + (p.2 - s.2) * (p.2 - s.2)), .int (cN1 p q s), .int (cN2 p q)], .tuple [.int (cA k p s z), .int (cB p q s z)]]) := by
  have w1 := hq.x.sub hp.x
  have w2 := hq.y.sub hp.y
  have x1 := hp.x.sub hz.x
  have x2 := hp.y.sub hz.y
  have u1 := hp.x.sub hs.x
  have u2 := hp.y.sub hs.y
  have m1 := u1.ok u1 (by omega)
  have m2 := u2.ok u2 (by omega)
  have m3 := u1.ok w1 (by omega)
  have m4 := u2.ok w2 (by omega)
  have m5 := bz2.ok ((u1.mul w1).add (u2.mul w2)) (by omega)
  have m6 := w1.ok w1 (by omega)
  have m7 := w2.ok w2 (by omega)
  have m8 := x1.ok x1 (by omega)
  have m9 := x2.ok x2 (by omega)
  have n1 := x1.ok w1 (by omega)
  have n2 := x2.ok w2 (by omega)
  have n3 := bz2.ok ((x1.mul w1).add (x2.mul w2)) (by omega)
  have n4 := hk.ok hk (by omega)
  unfold F_law_cut g_law_cut pI
  simp only [runF, runJ, r0, outD, sSeq, sNil, sRet, sRetN, sPass, sIf, sSet, sOwn, sPar, sAsg, sApp, sExt, sEx, sFor, sFrz, sSetI, loopS, putR, Cv.sl, pNil, pD, pO, mVar, mOwn, mC, mBin, mUn, mTst, asB, mIf, mNot, mAnd, mOr, mAndV, mOrV, mNotV, mNil, mCons, mTup, mLst, mCh, mIsN, mNotN, isN, mL, mDisp, mCall, mSl, mOn, mOs, slD, mRow, rowD, sqD, mZip, mEnum, mLc, lcS, wipeR, mYes, mLc2E, lc2E, gNm, gTp, gsCons, gsNil, gTuple, gList, gAll, bools, fAdd, fSub, fCmp, fNeg, List.map, List.set, Option.bind_some, Option.map_some, Option.bind_none, Option.map_none, List.getElem?_cons_zero, List.getElem?_cons_succ, List.length_cons, List.length_nil, List.length_map, List.append_eq, List.nil_append, List.cons_append, List.replicate, Nat.reduceSub, Nat.reduceAdd, Nat.reduceLeDiff, Nat.reduceLT, lineN, Nat.zero_le, Nat.zero_add, reduceIte, if_true, if_false, Bool.false_eq_true, Bool.not_true, Bool.not_false, List.zipWith, List.zipIdx, List.zipIdx_cons, List.zipIdx_nil, ix0, ix1, jx0, jx1, jx2, fMul_ok m1, fMul_ok m2, fMul_ok m3, fMul_ok m4, fMul_ok m5, fMul_ok m6, fMul_ok m7, fMul_ok m8, fMul_ok m9, fMul_ok n1, fMul_ok n2, fMul_ok n3, fMul_ok n4]
  rfl
theorem F_law_is_edge_shut_eq {k : Int} {p q s z : PI} (hk : Bz m k) (hp : BP m p) (hq : BP m q) (hs : BP m s) (hz : BP m z) (hm : m ≤ 100000) :
    F_law_is_edge_shut [.int k, pI p, pI q, pI z, pI s] = some (.bool (esB k p q s z)) := by
  have hcut := F_law_cut_eq hk hp hq hs hz hm
  have w1 := hq.x.sub hp.x
  have w2 := hq.y.sub hp.y
  have x1 := hp.x.sub hz.x
  have x2 := hp.y.sub hz.y
  have u1 := hp.x.sub hs.x
  have u2 := hp.y.sub hs.y
  have h0 := (u1.mul u1).add (u2.mul u2)
  have bA : Bz (20 * m + 40) (cA k p s z) := ((((x1.mul x1).add (x2.mul x2)).sub h0).sub (hk.mul hk)).mono (by omega)
  have bN1 : Bz (20 * m + 40) (cN1 p q s) := (bz2.mul ((u1.mul w1).add (u2.mul w2))).mono (by omega)
  have bN2 : Bz (20 * m + 40) (cN2 p q) := ((w1.mul w1).add (w2.mul w2)).mono (by omega)
  have bB : Bz (40 * m + 100) (cB p q s z) := ((bz2.mul ((x1.mul w1).add (x2.mul w2))).sub bN1).mono (by omega)
  have h0' : Bz (20 * m + 40) ((p.1 - s.1) * (p.1 - s.1) + (p.2 - s.2) * (p.2 - s.2)) := h0.mono (by omega)
  have k4 := bz4.mul hk
  have k44 := k4.mul hk
  have bc0 : Bz (80 * m + 200) (c0 k p s z) := ((bA.mul bA).sub (k44.mul h0')).mono (by omega)
  have bc1 : Bz (100 * m + 400) (c1 k p q s z) := (((bz2.mul bA).mul bB).sub (k44.mul bN1)).mono (by omega)
  have bc2 : Bz (120 * m + 400) (c2 k p q s z) := ((bB.mul bB).sub (k44.mul bN2)).mono (by omega)
  have bsg : ∀ x : Rat, Bz 1 (sg x) := fun x => by
    have := sg_abs x
    show _ < 2
    omega
  have hsg := F_law_sign_eq (c2 k p q s z)
  have m1 := bA.ok bA (by omega)
  have m2 := bz4.ok hk (by omega)
  have m3 := k4.ok hk (by omega)
  have m4 := k44.ok h0' (by omega)
  have m5 := bz2.ok bA (by omega)
  have m6 := (bz2.mul bA).ok bB (by omega)
  have m7 := k44.ok bN1 (by omega)
  have m8 := bB.ok bB (by omega)
  have m9 := k44.ok bN2 (by omega)
  have n1 := bc1.ok (bsg (c2 k p q s z)) (by omega)
  have n2 := bz2.ok bc2 (by omega)
  have n3 := (bz2.mul bc2).ok (bsg (c2 k p q s z)) (by omega)
  have n4 := (bz2.mul bA).ok bc2 (by omega)
  have n5 := bB.ok bc1 (by omega)
  have n6 := (((bz2.mul bA).mul bc2).sub (bB.mul bc1)).ok (bsg (c2 k p q s z)) (by omega)
  have n7 := bz4.ok bc0 (by omega)
  have n8 := (bz4.mul bc0).ok bc2 (by omega)
  have n9 := bc1.ok bc1 (by omega)
  have o1 := (((bz4.mul bc0).mul bc2).sub (bc1.mul bc1)).ok (bsg (c2 k p q s z)) (by omega)
  have ec0 : cA k p s z * cA k p s z - 4 * k * k * ((p.1 - s.1) * (p.1 - s.1) + (p.2 - s.2) * (p.2 - s.2)) = c0 k p s z := rfl
  have ec1 : 2 * cA k p s z * cB p q s z - 4 * k * k * cN1 p q s = c1 k p q s z := rfl
  have ec2 : cB p q s z * cB p q s z - 4 * k * k * cN2 p q = c2 k p q s z := rfl
  unfold F_law_is_edge_shut g_law_is_edge_shut
  simp only [runF, r0, outD, sSeq, sAsg, sSet, gTp, gsCons, gsNil, gNm, mCall, mCons, mNil, mVar, mTup, mBin, mC, fSub, List.map, List.set, List.length_cons, List.length_nil, Nat.reduceSub, Nat.reduceAdd, Nat.reduceLeDiff, Nat.zero_le, List.replicate, List.cons_append, List.nil_append, List.getElem?_cons_zero, List.getElem?_cons_succ, Option.bind_some, Option.map_some, hcut, ix0, ix1, jx0, jx1, jx2, fMul_ok m1, fMul_ok m2, fMul_ok m3, fMul_ok m4, fMul_ok m5, fMul_ok m6, fMul_ok m7, fMul_ok m8, fMul_ok m9, ec0, ec1, ec2, if_true]
  unfold esB
  generalize c0 k p s z = d0 at *
  generalize c1 k p q s z = d1 at *
  generalize c2 k p q s z = d2 at *
  generalize cA k p s z = a at *
  generalize cB p q s z = b at *
  generalize sg ((d2 : Int) : Rat) = v at *
  have hfin : ∀ P Q : Prop, [Decidable P] → [Decidable Q] → (if P then (if Q then true else false) else false) = decide (P ∧ Q) := fun P Q _ _ => by
    by_cases h1 : P <;> by_cases h2 : Q <;> simp [h1, h2]
  by_cases q1 : 0 < a ∧ 0 < d0
  · simp only [runF, runJ, r0, outD, sSeq, sNil, sRet, sRetN, sPass, sIf, sSet, sOwn, sPar, sAsg, sApp, sExt, sEx, sFor, sFrz, sSetI, loopS, putR, Cv.sl, pNil, pD, pO, mVar, mOwn, mC, mBin, mUn, mTst, asB, mIf, mNot, mAnd, mOr, mAndV, mOrV, mNotV, mNil, mCons, mTup, mLst, mCh, mIsN, mNotN, isN, mL, mDisp, mCall, mSl, mOn, mOs, slD, mRow, rowD, sqD, mZip, mEnum, mLc, lcS, wipeR, mYes, mLc2E, lc2E, gNm, gTp, gsCons, gsNil, gTuple, gList, gAll, bools, fAdd, fSub, fCmp, fNeg, List.map, List.set, Option.bind_some, Option.map_some, Option.bind_none, Option.map_none, List.getElem?_cons_zero, List.getElem?_cons_succ, List.length_cons, List.length_nil, List.length_map, List.append_eq, List.nil_append, List.cons_append, List.replicate, Nat.reduceSub, Nat.reduceAdd, Nat.reduceLeDiff, Nat.reduceLT, lineN, Nat.zero_le, Nat.zero_add, reduceIte, if_true, if_false, Bool.false_eq_true, Bool.not_true, Bool.not_false, List.zipWith, List.zipIdx, List.zipIdx_cons, List.zipIdx_nil, ix0, ix1, q1.1, q1.2, decide_true, true_and, true_or, if_true]
  · by_cases q2 : 0 < a + b ∧ 0 < d0 + d1 + d2
    · by_cases qa : 0 < a
      · have q0 : ¬ 0 < d0 := fun h => q1 ⟨qa, h⟩
        simp only [runF, runJ, r0, outD, sSeq, sNil, sRet, sRetN, sPass, sIf, sSet, sOwn, sPar, sAsg, sApp, sExt, sEx, sFor, sFrz, sSetI, loopS, putR, Cv.sl, pNil, pD, pO, mVar, mOwn, mC, mBin, mUn, mTst, asB, mIf, mNot, mAnd, mOr, mAndV, mOrV, mNotV, mNil, mCons, mTup, mLst, mCh, mIsN, mNotN, isN, mL, mDisp, mCall, mSl, mOn, mOs, slD, mRow, rowD, sqD, mZip, mEnum, mLc, lcS, wipeR, mYes, mLc2E, lc2E, gNm, gTp, gsCons, gsNil, gTuple, gList, gAll, bools, fAdd, fSub, fCmp, fNeg, List.map, List.set, Option.bind_some, Option.map_some, Option.bind_none, Option.map_none, List.getElem?_cons_zero, List.getElem?_cons_succ, List.length_cons, List.length_nil, List.length_map, List.append_eq, List.nil_append, List.cons_append, List.replicate, Nat.reduceSub, Nat.reduceAdd, Nat.reduceLeDiff, Nat.reduceLT, lineN, Nat.zero_le, Nat.zero_add, reduceIte, if_true, if_false, Bool.false_eq_true, Bool.not_true, Bool.not_false, List.zipWith, List.zipIdx, List.zipIdx_cons, List.zipIdx_nil, ix0, ix1, qa, q0, q2.1, q2.2, decide_true, decide_false, true_and, and_true, or_true]
      · simp only [runF, runJ, r0, outD, sSeq, sNil, sRet, sRetN, sPass, sIf, sSet, sOwn, sPar, sAsg, sApp, sExt, sEx, sFor, sFrz, sSetI, loopS, putR, Cv.sl, pNil, pD, pO, mVar, mOwn, mC, mBin, mUn, mTst, asB, mIf, mNot, mAnd, mOr, mAndV, mOrV, mNotV, mNil, mCons, mTup, mLst, mCh, mIsN, mNotN, isN, mL, mDisp, mCall, mSl, mOn, mOs, slD, mRow, rowD, sqD, mZip, mEnum, mLc, lcS, wipeR, mYes, mLc2E, lc2E, gNm, gTp, gsCons, gsNil, gTuple, gList, gAll, bools, fAdd, fSub, fCmp, fNeg, List.map, List.set, Option.bind_some, Option.map_some, Option.bind_none, Option.map_none, List.getElem?_cons_zero, List.getElem?_cons_succ, List.length_cons, List.length_nil, List.length_map, List.append_eq, List.nil_append, List.cons_append, List.replicate, Nat.reduceSub, Nat.reduceAdd, Nat.reduceLeDiff, Nat.reduceLT, lineN, Nat.zero_le, Nat.zero_add, reduceIte, if_true, if_false, Bool.false_eq_true, Bool.not_true, Bool.not_false, List.zipWith, List.zipIdx, List.zipIdx_cons, List.zipIdx_nil, ix0, ix1, qa, q2.1, q2.2, decide_true, decide_false, true_and, and_true, or_true]
    · have hor : ¬ ((0 < a ∧ 0 < d0) ∨ (0 < a + b ∧ 0 < d0 + d1 + d2)) := fun h => h.elim q1 q2
      rw [if_neg hor]
      have hA : (decide (0 < a) && decide (0 < d0)) = false := by
        rw [← Bool.decide_and, decide_eq_false_iff_not]
        exact q1
      have hB : (decide (0 < a + b) && decide (0 < d0 + d1 + d2)) = false := by
        rw [← Bool.decide_and, decide_eq_false_iff_not]
        exact q2
      have tail : ∀ A1 A0 B1 B0 : Bool, (A1 && A0) = false → (B1 && B0) = false → ((if A1 = true then (some (A0, ([] : Jr)) : Option (Bool × Jr)) else some (false, [])).bind fun p => if p.1 = true then some (true, p.2) else (if B1 = true then some (B0, p.2) else some (false, p.2))) = some (false, []) := by
        intro A1 A0 B1 B0 h1 h2
        cases A1 <;> cases A0 <;> cases B1 <;> cases B0 <;> first | rfl | exact absurd h2 (by decide) | exact absurd h1 (by decide)
      have st := tail _ _ _ _ hA hB
      simp only [sIf, mOr, mAnd, mTst, mBin, mC, mVar, fAdd, fCmp, asB, sRet, sNil, List.getElem?_cons_zero, List.getElem?_cons_succ, Option.bind_some, Option.map_some, ix0, ix1]
      rw [st]
      by_cases v0 : v = 0
      · simp only [runF, runJ, r0, outD, sSeq, sNil, sRet, sRetN, sPass, sIf, sSet, sOwn, sPar, sAsg, sApp, sExt, sEx, sFor, sFrz, sSetI, loopS, putR, Cv.sl, pNil, pD, pO, mVar, mOwn, mC, mBin, mUn, mTst, asB, mIf, mNot, mAnd, mOr, mAndV, mOrV, mNotV, mNil, mCons, mTup, mLst, mCh, mIsN, mNotN, isN, mL, mDisp, mCall, mSl, mOn, mOs, slD, mRow, rowD, sqD, mZip, mEnum, mLc, lcS, wipeR, mYes, mLc2E, lc2E, gNm, gTp, gsCons, gsNil, gTuple, gList, gAll, bools, fAdd, fSub, fCmp, fNeg, List.map, List.set, Option.bind_some, Option.map_some, Option.bind_none, Option.map_none, List.getElem?_cons_zero, List.getElem?_cons_succ, List.length_cons, List.length_nil, List.length_map, List.append_eq, List.nil_append, List.cons_append, List.replicate, Nat.reduceSub, Nat.reduceAdd, Nat.reduceLeDiff, Nat.reduceLT, lineN, Nat.zero_le, Nat.zero_add, reduceIte, if_true, if_false, Bool.false_eq_true, Bool.not_true, Bool.not_false, List.zipWith, List.zipIdx, List.zipIdx_cons, List.zipIdx_nil, hsg, fEq_int, v0, decide_true, true_or]
      · by_cases r1 : 0 < 0 - d1 * v
        · by_cases r2 : 0 - d1 * v < 2 * d2 * v
          · have rr : ¬ (v = 0 ∨ ¬ (0 < 0 - d1 * v ∧ 0 - d1 * v < 2 * d2 * v)) := fun h => h.elim v0 fun h => h ⟨r1, r2⟩
            rw [if_neg rr]
            by_cases t1 : 0 < (2 * a * d2 - b * d1) * v
            · simp only [runF, runJ, r0, outD, sSeq, sNil, sRet, sRetN, sPass, sIf, sSet, sOwn, sPar, sAsg, sApp, sExt, sEx, sFor, sFrz, sSetI, loopS, putR, Cv.sl, pNil, pD, pO, mVar, mOwn, mC, mBin, mUn, mTst, asB, mIf, mNot, mAnd, mOr, mAndV, mOrV, mNotV, mNil, mCons, mTup, mLst, mCh, mIsN, mNotN, isN, mL, mDisp, mCall, mSl, mOn, mOs, slD, mRow, rowD, sqD, mZip, mEnum, mLc, lcS, wipeR, mYes, mLc2E, lc2E, gNm, gTp, gsCons, gsNil, gTuple, gList, gAll, bools, fAdd, fSub, fCmp, fNeg, List.map, List.set, Option.bind_some, Option.map_some, Option.bind_none, Option.map_none, List.getElem?_cons_zero, List.getElem?_cons_succ, List.length_cons, List.length_nil, List.length_map, List.append_eq, List.nil_append, List.cons_append, List.replicate, Nat.reduceSub, Nat.reduceAdd, Nat.reduceLeDiff, Nat.reduceLT, lineN, Nat.zero_le, Nat.zero_add, reduceIte, if_true, if_false, Bool.false_eq_true, Bool.not_true, Bool.not_false, List.zipWith, List.zipIdx, List.zipIdx_cons, List.zipIdx_nil, hsg, fEq_int, v0, decide_false, decide_true, ix0, ix1, fMul_ok n1, fMul_ok n2, fMul_ok n3, r1, r2, fMul_ok m5, fMul_ok n4, fMul_ok n5, fMul_ok n6, fMul_ok n7, fMul_ok n8, fMul_ok n9, fMul_ok o1, t1, true_and]
            · simp only [runF, runJ, r0, outD, sSeq, sNil, sRet, sRetN, sPass, sIf, sSet, sOwn, sPar, sAsg, sApp, sExt, sEx, sFor, sFrz, sSetI, loopS, putR, Cv.sl, pNil, pD, pO, mVar, mOwn, mC, mBin, mUn, mTst, asB, mIf, mNot, mAnd, mOr, mAndV, mOrV, mNotV, mNil, mCons, mTup, mLst, mCh, mIsN, mNotN, isN, mL, mDisp, mCall, mSl, mOn, mOs, slD, mRow, rowD, sqD, mZip, mEnum, mLc, lcS, wipeR, mYes, mLc2E, lc2E, gNm, gTp, gsCons, gsNil, gTuple, gList, gAll, bools, fAdd, fSub, fCmp, fNeg, List.map, List.set, Option.bind_some, Option.map_some, Option.bind_none, Option.map_none, List.getElem?_cons_zero, List.getElem?_cons_succ, List.length_cons, List.length_nil, List.length_map, List.append_eq, List.nil_append, List.cons_append, List.replicate, Nat.reduceSub, Nat.reduceAdd, Nat.reduceLeDiff, Nat.reduceLT, lineN, Nat.zero_le, Nat.zero_add, reduceIte, if_true, if_false, Bool.false_eq_true, Bool.not_true, Bool.not_false, List.zipWith, List.zipIdx, List.zipIdx_cons, List.zipIdx_nil, hsg, fEq_int, v0, decide_false, decide_true, ix0, ix1, fMul_ok n1, fMul_ok n2, fMul_ok n3, r1, r2, fMul_ok m5, fMul_ok n4, fMul_ok n5, fMul_ok n6, fMul_ok n7, fMul_ok n8, fMul_ok n9, fMul_ok o1, t1, false_and]
          · have rr : (v = 0 ∨ ¬ (0 < 0 - d1 * v ∧ 0 - d1 * v < 2 * d2 * v)) := .inr fun h => r2 h.2
            rw [if_pos rr]
            simp only [runF, runJ, r0, outD, sSeq, sNil, sRet, sRetN, sPass, sIf, sSet, sOwn, sPar, sAsg, sApp, sExt, sEx, sFor, sFrz, sSetI, loopS, putR, Cv.sl, pNil, pD, pO, mVar, mOwn, mC, mBin, mUn, mTst, asB, mIf, mNot, mAnd, mOr, mAndV, mOrV, mNotV, mNil, mCons, mTup, mLst, mCh, mIsN, mNotN, isN, mL, mDisp, mCall, mSl, mOn, mOs, slD, mRow, rowD, sqD, mZip, mEnum, mLc, lcS, wipeR, mYes, mLc2E, lc2E, gNm, gTp, gsCons, gsNil, gTuple, gList, gAll, bools, fAdd, fSub, fCmp, fNeg, List.map, List.set, Option.bind_some, Option.map_some, Option.bind_none, Option.map_none, List.getElem?_cons_zero, List.getElem?_cons_succ, List.length_cons, List.length_nil, List.length_map, List.append_eq, List.nil_append, List.cons_append, List.replicate, Nat.reduceSub, Nat.reduceAdd, Nat.reduceLeDiff, Nat.reduceLT, lineN, Nat.zero_le, Nat.zero_add, reduceIte, if_true, if_false, Bool.false_eq_true, Bool.not_true, Bool.not_false, List.zipWith, List.zipIdx, List.zipIdx_cons, List.zipIdx_nil, hsg, fEq_int, v0, decide_false, decide_true, ix0, ix1, fMul_ok n1, fMul_ok n2, fMul_ok n3, r1, r2]
        · have rr : (v = 0 ∨ ¬ (0 < 0 - d1 * v ∧ 0 - d1 * v < 2 * d2 * v)) := .inr fun h => r1 h.1
          rw [if_pos rr]
          simp only [runF, runJ, r0, outD, sSeq, sNil, sRet, sRetN, sPass, sIf, sSet, sOwn, sPar, sAsg, sApp, sExt, sEx, sFor, sFrz, sSetI, loopS, putR, Cv.sl, pNil, pD, pO, mVar, mOwn, mC, mBin, mUn, mTst, asB, mIf, mNot, mAnd, mOr, mAndV, mOrV, mNotV, mNil, mCons, mTup, mLst, mCh, mIsN, mNotN, isN, mL, mDisp, mCall, mSl, mOn, mOs, slD, mRow, rowD, sqD, mZip, mEnum, mLc, lcS, wipeR, mYes, mLc2E, lc2E, gNm, gTp, gsCons, gsNil, gTuple, gList, gAll, bools, fAdd, fSub, fCmp, fNeg, List.map, List.set, Option.bind_some, Option.map_some, Option.bind_none, Option.map_none, List.getElem?_cons_zero, List.getElem?_cons_succ, List.length_cons, List.length_nil, List.length_map, List.append_eq, List.nil_append, List.cons_append, List.replicate, Nat.reduceSub, Nat.reduceAdd, Nat.reduceLeDiff, Nat.reduceLT, lineN, Nat.zero_le, Nat.zero_add, reduceIte, if_true, if_false, Bool.false_eq_true, Bool.not_true, Bool.not_false, List.zipWith, List.zipIdx, List.zipIdx_cons, List.zipIdx_nil, hsg, fEq_int, v0, decide_false, decide_true, ix0, ix1, fMul_ok n1, fMul_ok n2, fMul_ok n3, r1]
end
end K29
end
section
set_option Elab.async false
set_option linter.all false
set_option autoImplicit false
set_option maxRecDepth 100000
namespace K29
open PySem PySem.Spec PyProof.Rows L2 Ev Ar
def pkB (cs : List PI) (s z : PI) (k : Int) : Bool :=
  if k < 0 then cs.all (fun c => !oI s z k c.1 c.2) else if dI s z.1 z.2 ≤ k * k then true else if inB cs s = true then false else (List.range cs.length).all fun i => !esB k (pvL cs i) (atL cs i) s z
section
variable {s0 s1 s z : PI} {b : Bool} {lo hi k : Int} {cs : List PI} {m : Nat}
theorem over_eq {x y : Int} (hs : BP m s) (hz : BP m z) (hx : Bz m x) (hy : Bz m y) (hk : Bz m k) (hm : m ≤ 1000) :
    F_law_sign_three [.int (0 - k), .int 1, .int (dI z x y), .int (-1), .int (dI s x y)] = some (.int (sgTwo (-(k : Rat)) 1 (dI z x y) (-1) (dI s x y))) := by
  have d1 := dI_bz hs hx hy
  have d2 := dI_bz hz hx hy
  have hk' : Bz m (0 - k) := by
    rw [Int.zero_sub]
    exact hk.neg
  have st := F_law_sign_three_eq (m := 8 * m + 10) (p := 0 - k) (q := 1) (c := -1) (hk'.mono (by omega)) (bz1.mono (by omega)) d2 (bzm1.mono (by omega)) d1 (dI_nn ..) (dI_nn ..) (by omega) (by omega)
  have ec : (((0 - k : Int)) : Rat) = -((k : Int) : Rat) := by
    rw [cast_sub]
    show (0 : Rat) - k = _
    grind
  have e1 : ((1 : Int) : Rat) = 1 := rfl
  have em1 : ((-1 : Int) : Rat) = -1 := rfl
  rw [ec, e1, em1] at st
  exact st
theorem F_law_is_pair_kept_eq (hc : ∀ c ∈ cs, BP m c) (hs : BP m s) (hz : BP m z) (hk : Bz m k) (hl : cs.length ≤ 1000) (hm : m ≤ 1000) : F_law_is_pair_kept [.list (cs.map pI), pI s, pI z, .int k] = some (.bool (pkB cs s z k)) := by
  have f0 : fIx (pI z) (.int 0) = some (.int z.1) := rfl
  have f1 : fIx (pI z) (.int 1) = some (.int z.2) := rfl
  have hw := far_eq hs hz.x hz.y (by omega)
  have m1 := hk.ok hk (by omega)
  have hin := F_law_is_in_eq hc hs hl (by omega)
  have A := loopS_scan (t := gTp (gsCons (gNm 5) (gsCons (gNm 6) gsNil))) (b := sIf (mTst (mBin fGt (mCall F_law_sign_three (mCons (mBin fSub (mC (.int 0)) (mVar 3)) (mCons (mC (.int 1)) (mCons (mCall F_law_far (mCons (mVar 2) (mCons (mVar 5) (mCons (mVar 6) mNil)))) (mCons (mUn fNeg (mC (.int 1))) (mCons (mCall F_law_far (mCons (mVar 1) (mCons (mVar 5) (mCons (mVar 6) mNil)))) mNil)))))) (mC (.int 0)))) (sRet (mC (.bool false))) sNil) (j := [])
    (fun r => ∃ a b, r = [some (Sl.d (.list (cs.map pI))), some (Sl.d (pI s)), some (Sl.d (pI z)), some (Sl.d (.int k)), some (Sl.d (.int (dI s z.1 z.2))), a, b, none]) pI (fun c => if (!oI s z k c.1 c.2) = true then none else some (.bool false)) (L := cs) (by
      rintro c hcm r ⟨a, b, rfl⟩
      have q1 := far_eq hs (hc c hcm).x (hc c hcm).y (by omega)
      have q2 := far_eq hz (hc c hcm).x (hc c hcm).y (by omega)
      have q3 := over_eq hs hz (hc c hcm).x (hc c hcm).y hk hm
      refine ⟨_, rfl, ?_⟩
      unfold oI
      generalize sgTwo (-(k : Rat)) 1 (dI z c.1 c.2) (-1) (dI s c.1 c.2) = v at *
      by_cases q : 0 < v
      · simp only [q, decide_true, Bool.not_true, Bool.false_eq_true, if_false]
        simp only [runF, runJ, r0, outD, sSeq, sNil, sRet, sRetN, sPass, sIf, sSet, sOwn, sPar, sAsg, sApp, sExt, sEx, sFor, sFrz, sSetI, loopS, putR, Cv.sl, pNil, pD, pO, mVar, mOwn, mC, mBin, mUn, mTst, asB, mIf, mNot, mAnd, mOr, mAndV, mOrV, mNotV, mNil, mCons, mTup, mLst, mCh, mIsN, mNotN, isN, mL, mDisp, mCall, mSl, mOn, mOs, slD, mRow, rowD, sqD, mZip, mEnum, mLc, lcS, wipeR, mYes, mLc2E, lc2E, gNm, gTp, gsCons, gsNil, gTuple, gList, gAll, bools, fAdd, fSub, fCmp, fNeg, List.map, List.set, Option.bind_some, Option.map_some, Option.bind_none, Option.map_none, List.getElem?_cons_zero, List.getElem?_cons_succ, List.length_cons, List.length_nil, List.length_map, List.append_eq, List.nil_append, List.cons_append, List.replicate, Nat.reduceSub, Nat.reduceAdd, Nat.reduceLeDiff, Nat.reduceLT, lineN, Nat.zero_le, Nat.zero_add, reduceIte, if_true, if_false, Bool.false_eq_true, Bool.not_true, Bool.not_false, List.zipWith, List.zipIdx, List.zipIdx_cons, List.zipIdx_nil, q1, q2, q3, q, decide_true]
        exact ⟨_, rfl⟩
      · simp only [q, decide_false, Bool.not_false, if_true]
        refine ⟨[some (Sl.d (.list (cs.map pI))), some (Sl.d (pI s)), some (Sl.d (pI z)), some (Sl.d (.int k)), some (Sl.d (.int (dI s z.1 z.2))), some (.d (.int c.1)), some (.d (.int c.2)), none], ⟨_, _, rfl⟩, ?_⟩
        simp only [runF, runJ, r0, outD, sSeq, sNil, sRet, sRetN, sPass, sIf, sSet, sOwn, sPar, sAsg, sApp, sExt, sEx, sFor, sFrz, sSetI, loopS, putR, Cv.sl, pNil, pD, pO, mVar, mOwn, mC, mBin, mUn, mTst, asB, mIf, mNot, mAnd, mOr, mAndV, mOrV, mNotV, mNil, mCons, mTup, mLst, mCh, mIsN, mNotN, isN, mL, mDisp, mCall, mSl, mOn, mOs, slD, mRow, rowD, sqD, mZip, mEnum, mLc, lcS, wipeR, mYes, mLc2E, lc2E, gNm, gTp, gsCons, gsNil, gTuple, gList, gAll, bools, fAdd, fSub, fCmp, fNeg, List.map, List.set, Option.bind_some, Option.map_some, Option.bind_none, Option.map_none, List.getElem?_cons_zero, List.getElem?_cons_succ, List.length_cons, List.length_nil, List.length_map, List.append_eq, List.nil_append, List.cons_append, List.replicate, Nat.reduceSub, Nat.reduceAdd, Nat.reduceLeDiff, Nat.reduceLT, lineN, Nat.zero_le, Nat.zero_add, reduceIte, if_true, if_false, Bool.false_eq_true, Bool.not_true, Bool.not_false, List.zipWith, List.zipIdx, List.zipIdx_cons, List.zipIdx_nil, q1, q2, q3, q, decide_false])
  have B := loopS_scan (t := gNm 7) (b := sIf (mTst (mCall F_law_is_edge_shut (mCons (mVar 3) (mCons (mBin fIx (mVar 0) (mBin fSub (mVar 7) (mC (.int 1)))) (mCons (mBin fIx (mVar 0) (mVar 7)) (mCons (mVar 2) (mCons (mVar 1) mNil))))))) (sRet (mC (.bool false))) sNil) (j := [])
    (fun r => ∃ a, r = [some (Sl.d (.list (cs.map pI))), some (Sl.d (pI s)), some (Sl.d (pI z)), some (Sl.d (.int k)), some (Sl.d (.int (dI s z.1 z.2))), none, none, a]) (fun i : Nat => .int (0 + (i : Nat))) (fun i => if (!esB k (pvL cs i) (atL cs i) s z) = true then none else some (.bool false)) (L := List.range cs.length) (by
      rintro i hi r ⟨a, rfl⟩
      have hi := List.mem_range.mp hi
      have q3 := F_law_is_edge_shut_eq hk (hc _ (pvL_mem hi)) (hc _ (atL_mem hi)) hs hz (by omega)
      refine ⟨_, rfl, ?_⟩
      cases q : esB k (pvL cs i) (atL cs i) s z with
      | true =>
        simp only [Bool.not_true, Bool.false_eq_true, if_false]
        simp only [runF, runJ, r0, outD, sSeq, sNil, sRet, sRetN, sPass, sIf, sSet, sOwn, sPar, sAsg, sApp, sExt, sEx, sFor, sFrz, sSetI, loopS, putR, Cv.sl, pNil, pD, pO, mVar, mOwn, mC, mBin, mUn, mTst, asB, mIf, mNot, mAnd, mOr, mAndV, mOrV, mNotV, mNil, mCons, mTup, mLst, mCh, mIsN, mNotN, isN, mL, mDisp, mCall, mSl, mOn, mOs, slD, mRow, rowD, sqD, mZip, mEnum, mLc, lcS, wipeR, mYes, mLc2E, lc2E, gNm, gTp, gsCons, gsNil, gTuple, gList, gAll, bools, fAdd, fSub, fCmp, fNeg, List.map, List.set, Option.bind_some, Option.map_some, Option.bind_none, Option.map_none, List.getElem?_cons_zero, List.getElem?_cons_succ, List.length_cons, List.length_nil, List.length_map, List.append_eq, List.nil_append, List.cons_append, List.replicate, Nat.reduceSub, Nat.reduceAdd, Nat.reduceLeDiff, Nat.reduceLT, lineN, Nat.zero_le, Nat.zero_add, reduceIte, if_true, if_false, Bool.false_eq_true, Bool.not_true, Bool.not_false, List.zipWith, List.zipIdx, List.zipIdx_cons, List.zipIdx_nil, fIx_at hi, fIx_pv hi, q3, q]
        exact ⟨_, rfl⟩
      | false =>
        simp only [Bool.not_false, if_true]
        refine ⟨[some (Sl.d (.list (cs.map pI))), some (Sl.d (pI s)), some (Sl.d (pI z)), some (Sl.d (.int k)), some (Sl.d (.int (dI s z.1 z.2))), none, none, some (.d (.int (0 + (i : Nat))))], ⟨_, rfl⟩, ?_⟩
        simp only [runF, runJ, r0, outD, sSeq, sNil, sRet, sRetN, sPass, sIf, sSet, sOwn, sPar, sAsg, sApp, sExt, sEx, sFor, sFrz, sSetI, loopS, putR, Cv.sl, pNil, pD, pO, mVar, mOwn, mC, mBin, mUn, mTst, asB, mIf, mNot, mAnd, mOr, mAndV, mOrV, mNotV, mNil, mCons, mTup, mLst, mCh, mIsN, mNotN, isN, mL, mDisp, mCall, mSl, mOn, mOs, slD, mRow, rowD, sqD, mZip, mEnum, mLc, lcS, wipeR, mYes, mLc2E, lc2E, gNm, gTp, gsCons, gsNil, gTuple, gList, gAll, bools, fAdd, fSub, fCmp, fNeg, List.map, List.set, Option.bind_some, Option.map_some, Option.bind_none, Option.map_none, List.getElem?_cons_zero, List.getElem?_cons_succ, List.length_cons, List.length_nil, List.length_map, List.append_eq, List.nil_append, List.cons_append, List.replicate, Nat.reduceSub, Nat.reduceAdd, Nat.reduceLeDiff, Nat.reduceLT, lineN, Nat.zero_le, Nat.zero_add, reduceIte, if_true, if_false, Bool.false_eq_true, Bool.not_true, Bool.not_false, List.zipWith, List.zipIdx, List.zipIdx_cons, List.zipIdx_nil, fIx_at hi, fIx_pv hi, q3, q])
  have A1 := A [some (Sl.d (.list (cs.map pI))), some (Sl.d (pI s)), some (Sl.d (pI z)), some (Sl.d (.int k)), some (Sl.d (.int (dI s z.1 z.2))), none, none, none] ⟨_, _, rfl⟩
  have B1 := B [some (Sl.d (.list (cs.map pI))), some (Sl.d (pI s)), some (Sl.d (pI z)), some (Sl.d (.int k)), some (Sl.d (.int (dI s z.1 z.2))), none, none, none] ⟨_, rfl⟩
  rw [scan_all] at A1 B1
  have hr := rng_eq (r := [some (Sl.d (.list (cs.map pI))), some (Sl.d (pI s)), some (Sl.d (pI z)), some (Sl.d (.int k)), some (Sl.d (.int (dI s z.1 z.2))), none, none, none]) (j := []) (f := mUn gLen (mVar 0)) (n := cs.length) (by simp only [runF, runJ, r0, outD, sSeq, sNil, sRet, sRetN, sPass, sIf, sSet, sOwn, sPar, sAsg, sApp, sExt, sEx, sFor, sFrz, sSetI, loopS, putR, Cv.sl, pNil, pD, pO, mVar, mOwn, mC, mBin, mUn, mTst, asB, mIf, mNot, mAnd, mOr, mAndV, mOrV, mNotV, mNil, mCons, mTup, mLst, mCh, mIsN, mNotN, isN, mL, mDisp, mCall, mSl, mOn, mOs, slD, mRow, rowD, sqD, mZip, mEnum, mLc, lcS, wipeR, mYes, mLc2E, lc2E, gNm, gTp, gsCons, gsNil, gTuple, gList, gAll, bools, fAdd, fSub, fCmp, fNeg, List.map, List.set, Option.bind_some, Option.map_some, Option.bind_none, Option.map_none, List.getElem?_cons_zero, List.getElem?_cons_succ, List.length_cons, List.length_nil, List.length_map, List.append_eq, List.nil_append, List.cons_append, List.replicate, Nat.reduceSub, Nat.reduceAdd, Nat.reduceLeDiff, Nat.reduceLT, lineN, Nat.zero_le, Nat.zero_add, reduceIte, if_true, if_false, Bool.false_eq_true, Bool.not_true, Bool.not_false, List.zipWith, List.zipIdx, List.zipIdx_cons, List.zipIdx_nil, gLen_map]) hl
  unfold F_law_is_pair_kept g_law_is_pair_kept pkB
  by_cases hk0 : k < 0
  · simp only [sFor, runF, r0, outD, sSeq, sSet, sIf, mTst, asB, mCall, mCons, mNil, mVar, mBin, mC, fCmp, mRow, rowD, List.map, List.set, List.length_cons, List.length_nil, Nat.reduceSub, Nat.reduceAdd, List.replicate, List.cons_append, List.nil_append, List.getElem?_cons_zero, List.getElem?_cons_succ, Option.bind_some, Option.map_some, f0, f1, hw, hk0, decide_true, if_true]
    by_cases q : (cs.all fun c => !oI s z k c.1 c.2) = true
    · rw [if_pos q] at A1
      obtain ⟨r2, _, A1⟩ := A1
      rw [q]
      have A2 := A1
      simp only [sIf, mTst, asB, mCall, mCons, mNil, mVar, mBin, mC, fCmp, sRet, sNil] at A2 ⊢
      rw [A2]
      rfl
    · rw [if_neg q] at A1
      obtain ⟨r2, A1⟩ := A1
      rw [(Bool.not_eq_true _).mp q]
      have A2 := A1
      simp only [sIf, mTst, asB, mCall, mCons, mNil, mVar, mBin, mC, fCmp, sRet, sNil] at A2 ⊢
      rw [A2]
      rfl
  · simp only [runF, r0, outD, sSeq, sSet, sIf, mTst, asB, mCall, mCons, mNil, mVar, mBin, mC, fCmp, sNil, List.map, List.set, List.length_cons, List.length_nil, Nat.reduceSub, Nat.reduceAdd, List.replicate, List.cons_append, List.nil_append, List.getElem?_cons_zero, List.getElem?_cons_succ, Option.bind_some, Option.map_some, f0, f1, hw, hk0, decide_false, Bool.false_eq_true, if_false, fMul_ok m1, hin]
    by_cases hw0 : dI s z.1 z.2 ≤ k * k
    · simp only [hw0, decide_true, if_true, sRet, mC, Option.bind_some, Option.map_some]
    · simp only [hw0, decide_false, Bool.false_eq_true, if_false, Option.bind_some, Option.map_some, List.getElem?_cons_zero, List.getElem?_cons_succ, hin]
      cases hi0 : inB cs s with
      | true => simp only [if_true, sRet, mC, Option.bind_some, Option.map_some]
      | false =>
        simp only [Bool.false_eq_true, if_false, Option.bind_some, sFor]
        rw [hr]
        simp only [Option.bind_some]
        by_cases q : ((List.range cs.length).all fun i => !esB k (pvL cs i) (atL cs i) s z) = true
        · rw [if_pos q] at B1
          obtain ⟨r2, _, B1⟩ := B1
          rw [q]
          have B2 := B1
          simp only [sIf, mTst, asB, mCall, mCons, mNil, mVar, mBin, mC, fCmp, sRet, sNil] at B2 ⊢
          rw [B2]
          rfl
        · rw [if_neg q] at B1
          obtain ⟨r2, B1⟩ := B1
          rw [(Bool.not_eq_true _).mp q]
          have B2 := B1
          simp only [sIf, mTst, asB, mCall, mCons, mNil, mVar, mBin, mC, fCmp, sRet, sNil] at B2 ⊢
          rw [B2]
          rfl
theorem F_law_are_all_let_eq (hc : ∀ c ∈ cs, BP m c) (h0 : BP m s0) (h1 : BP m s1) (hk : Bz m (hi - lo)) (hl : cs.length ≤ 1000) (hm : m ≤ 1000) :
    F_law_are_all_let [wD s0 s1 b lo hi, .list (cs.map pI)] = some (.bool (pkB cs (nI b s0 s1) (nI (!b) s0 s1) (hi - lo))) := by
  have i0 : fIx (wD s0 s1 b lo hi) (.int 0) = some (.list [pI s0, pI s1]) := rfl
  have i1 : fIx (wD s0 s1 b lo hi) (.int 1) = some (.list [.tuple [.int (ix b), .int lo, .none], .tuple [.int (ix (!b)), .none, .int hi]]) := rfl
  have sa : ∀ b, fIx (.list [pI s0, pI s1]) (.int (ix b)) = some (pI (nI b s0 s1)) := fun b => by cases b <;> rfl
  have hp := F_law_is_pair_kept_eq hc (nI_bp h0 h1 b) (nI_bp h0 h1 (!b)) hk hl hm
  have hmm := lcS_map (t := gTp (gsCons (gNm 2) (gsCons (gNm 3) gsNil))) (c := mYes) (e := mCall F_law_is_within (mCons (mVar 0) (mCons (mVar 2) (mCons (mVar 3) mNil)))) (r0 := wipeR [some (.d (wD s0 s1 b lo hi)), some (.d (.list (cs.map pI))), none, none, none, none, none, none, none] [2, 3]) (j := []) pI (fun _ => .bool ((fun _ => true) ())) (L := cs) fun p hp => by
    refine ⟨_, rfl, rfl, ?_⟩
    simp only [runF, runJ, r0, outD, sSeq, sNil, sRet, sRetN, sPass, sIf, sSet, sOwn, sPar, sAsg, sApp, sExt, sEx, sFor, sFrz, sSetI, loopS, putR, Cv.sl, pNil, pD, pO, mVar, mOwn, mC, mBin, mUn, mTst, asB, mIf, mNot, mAnd, mOr, mAndV, mOrV, mNotV, mNil, mCons, mTup, mLst, mCh, mIsN, mNotN, isN, mL, mDisp, mCall, mSl, mOn, mOs, slD, mRow, rowD, sqD, mZip, mEnum, mLc, lcS, wipeR, mYes, mLc2E, lc2E, gNm, gTp, gsCons, gsNil, gTuple, gList, gAll, bools, fAdd, fSub, fCmp, fNeg, List.map, List.set, Option.bind_some, Option.map_some, Option.bind_none, Option.map_none, List.getElem?_cons_zero, List.getElem?_cons_succ, List.length_cons, List.length_nil, List.length_map, List.append_eq, List.nil_append, List.cons_append, List.replicate, Nat.reduceSub, Nat.reduceAdd, Nat.reduceLeDiff, Nat.reduceLT, lineN, Nat.zero_le, Nat.zero_add, reduceIte, if_true, if_false, Bool.false_eq_true, Bool.not_true, Bool.not_false, List.zipWith, List.zipIdx, List.zipIdx_cons, List.zipIdx_nil, F_law_is_within_eq]
  have ebb := bools_map (fun _ : PI => (fun _ => true) ()) cs
  have eall : (cs.map fun _ => true).all id = true := by
    rw [List.all_map, List.all_eq_true]
    exact fun _ _ => rfl
  unfold F_law_are_all_let g_law_are_all_let
  simp only [runF, r0, outD, sSeq, sIf, mNot, mTst, asB, mUn, mL, mLc, mRow, rowD, mVar, sNil, List.map, List.length_cons, List.length_nil, Nat.reduceSub, List.replicate, List.cons_append, List.nil_append, List.getElem?_cons_zero, List.getElem?_cons_succ, Option.bind_some, Option.map_some]
  rw [hmm]
  simp only [Option.bind_some, Option.map_some, gAll, ebb, eall, Bool.not_true, Bool.false_eq_true, if_false]
  generalize pkB cs (nI b s0 s1) (nI (!b) s0 s1) (hi - lo) = v at *
  cases v
  · simp only [runF, runJ, r0, outD, sSeq, sNil, sRet, sRetN, sPass, sIf, sSet, sOwn, sPar, sAsg, sApp, sExt, sEx, sFor, sFrz, sSetI, loopS, putR, Cv.sl, pNil, pD, pO, mVar, mOwn, mC, mBin, mUn, mTst, asB, mIf, mNot, mAnd, mOr, mAndV, mOrV, mNotV, mNil, mCons, mTup, mLst, mCh, mIsN, mNotN, isN, mL, mDisp, mCall, mSl, mOn, mOs, slD, mRow, rowD, sqD, mZip, mEnum, mLc, lcS, wipeR, mYes, mLc2E, lc2E, gNm, gTp, gsCons, gsNil, gTuple, gList, gAll, bools, fAdd, fSub, fCmp, fNeg, List.map, List.set, Option.bind_some, Option.map_some, Option.bind_none, Option.map_none, List.getElem?_cons_zero, List.getElem?_cons_succ, List.length_cons, List.length_nil, List.length_map, List.append_eq, List.nil_append, List.cons_append, List.replicate, Nat.reduceSub, Nat.reduceAdd, Nat.reduceLeDiff, Nat.reduceLT, lineN, Nat.zero_le, Nat.zero_add, reduceIte, if_true, if_false, Bool.false_eq_true, Bool.not_true, Bool.not_false, List.zipWith, List.zipIdx, List.zipIdx_cons, List.zipIdx_nil, i0, i1, sa, hp]
  · simp only [runF, runJ, r0, outD, sSeq, sNil, sRet, sRetN, sPass, sIf, sSet, sOwn, sPar, sAsg, sApp, sExt, sEx, sFor, sFrz, sSetI, loopS, putR, Cv.sl, pNil, pD, pO, mVar, mOwn, mC, mBin, mUn, mTst, asB, mIf, mNot, mAnd, mOr, mAndV, mOrV, mNotV, mNil, mCons, mTup, mLst, mCh, mIsN, mNotN, isN, mL, mDisp, mCall, mSl, mOn, mOs, slD, mRow, rowD, sqD, mZip, mEnum, mLc, lcS, wipeR, mYes, mLc2E, lc2E, gNm, gTp, gsCons, gsNil, gTuple, gList, gAll, bools, fAdd, fSub, fCmp, fNeg, List.map, List.set, Option.bind_some, Option.map_some, Option.bind_none, Option.map_none, List.getElem?_cons_zero, List.getElem?_cons_succ, List.length_cons, List.length_nil, List.length_map, List.append_eq, List.nil_append, List.cons_append, List.replicate, Nat.reduceSub, Nat.reduceAdd, Nat.reduceLeDiff, Nat.reduceLT, lineN, Nat.zero_le, Nat.zero_add, reduceIte, if_true, if_false, Bool.false_eq_true, Bool.not_true, Bool.not_false, List.zipWith, List.zipIdx, List.zipIdx_cons, List.zipIdx_nil, i0, i1, sa, hp]
end
end K29
end
section
set_option Elab.async false
set_option linter.all false
set_option autoImplicit false
set_option maxRecDepth 100000
namespace K29
open PySem PySem.Spec PyProof.Rows L2 Ev Ar
/-! ### scales -/
def sc (c : Rat) (p : Pt) : Pt := (c * p.1, c * p.2)
def sce (c : Rat) (e : Pt × Pt) : Pt × Pt := (sc c e.1, sc c e.2)
section
variable {c k : Rat} {s z x p q : Pt} {e : Pt × Pt}
theorem d2_sc (c : Rat) (p q : Pt) : d2 (sc c p).1 (sc c p).2 (sc c q).1 (sc c q).2 = c * c * d2 p.1 p.2 q.1 q.2 := by
  unfold d2 sc
  grind
theorem pos_mul (hc : 0 < c) {a : Rat} : 0 < c * a ↔ 0 < a := by
  constructor
  · intro h
    false_or_by_contra
    have := Rat.mul_nonneg (Rat.le_of_lt hc) (show 0 ≤ -a by grind)
    grind
  · exact Rat.mul_pos hc
theorem Ov_sc (hc : 0 < c) (f n : Rat) : Ov (c * k) (c * c * f) (c * c * n) ↔ Ov k f n := by
  have c2 := Rat.mul_pos hc hc
  have c4 := Rat.mul_pos c2 c2
  have a1 : 0 < c * c * f - c * c * n - c * k * (c * k) ↔ 0 < f - n - k * k := by
    rw [← pos_mul c2 (a := f - n - k * k)]
    constructor <;> intro h <;> grind
  have a2 : 4 * (c * k * (c * k)) * (c * c * n) < (c * c * f - c * c * n - c * k * (c * k)) * (c * c * f - c * c * n - c * k * (c * k)) ↔ 4 * (k * k) * n < (f - n - k * k) * (f - n - k * k) := by
    have := pos_mul c4 (a := (f - n - k * k) * (f - n - k * k) - 4 * (k * k) * n)
    constructor <;> intro h <;> grind
  have a3 : c * c * n - c * c * f - c * k * (c * k) < 0 ↔ n - f - k * k < 0 := by
    have := pos_mul c2 (a := -(n - f - k * k))
    constructor <;> intro h <;> grind
  have a4 : (c * c * n - c * c * f - c * k * (c * k)) * (c * c * n - c * c * f - c * k * (c * k)) < 4 * (c * k * (c * k)) * (c * c * f) ↔ (n - f - k * k) * (n - f - k * k) < 4 * (k * k) * f := by
    have := pos_mul c4 (a := 4 * (k * k) * f - (n - f - k * k) * (n - f - k * k))
    constructor <;> intro h <;> grind
  have a5 : 0 ≤ c * k ↔ 0 ≤ k := by
    have := pos_mul hc (a := -k)
    constructor <;> intro h <;> grind
  have a6 : c * k < 0 ↔ k < 0 := by
    have := pos_mul hc (a := -k)
    constructor <;> intro h <;> grind
  unfold Ov
  rw [a1, a2, a3, a4, a5, a6]
theorem OverP_sc (hc : 0 < c) : OverP (c * k) (sc c s) (sc c z) (sc c x) ↔ OverP k s z x := by
  unfold OverP Over
  rw [d2_sc, d2_sc]
  exact Ov_sc hc _ _
theorem hh_sc : hh (sce c e) (sc c x) = c * c * hh e x := by
  unfold hh sce sc cr Ar.sub
  grind
theorem stp_sc : stp (sce c e) = sc c (stp e) := by
  unfold stp sce sc Ar.sub
  ext <;> simp <;> grind
theorem cr_sc : cr (sc c p) (sc c q) = c * c * cr p q := by
  unfold cr sc
  grind
theorem ea_sc : ea (c * k) (sc c s) (sc c z) (sce c e) = c * c * ea k s z e := by
  unfold ea sce sc d2
  grind
theorem eb_sc : eb (sc c s) (sc c z) (sce c e) = c * c * eb s z e := by
  unfold eb sce sc
  grind
theorem e1_sc : e1 (c * k) (sc c s) (sc c z) (sce c e) = c * c * (c * c) * e1 k s z e := by
  unfold e1
  rw [ea_sc, eb_sc]
  unfold en1 sce sc
  grind
theorem e2_sc : e2 (c * k) (sc c s) (sc c z) (sce c e) = c * c * (c * c) * e2 k s z e := by
  unfold e2
  rw [eb_sc]
  unfold en2 sce sc
  grind
theorem tpt_sc (hc : 0 < c) : tpt (c * k) (sc c s) (sc c z) (sce c e) = tpt k s z e := by
  have c2 := Rat.mul_pos hc hc
  have c4 := Rat.mul_pos c2 c2
  unfold tpt
  rw [e1_sc, e2_sc]
  generalize c * c * (c * c) = d at *
  generalize e1 k s z e = u
  generalize e2 k s z e = v
  have h1 : d * v = 0 ↔ v = 0 := by
    constructor
    · intro h
      rcases Rat.mul_eq_zero.mp h with q | q
      · grind
      · exact q
    · intro h
      rw [h, Rat.mul_zero]
  by_cases hv : v = 0
  · rw [if_pos (h1.mpr hv), if_pos hv]
  · have h2 : -(d * u) / (2 * (d * v)) = -u / (2 * v) := by grind
    rw [if_neg (fun q => hv (h1.mp q)), if_neg hv, h2]
theorem mid_sc (t : Rat) : mid (sc c p) (sc c q) t = sc c (mid p q t) := by
  unfold mid sc
  ext <;> simp <;> grind
end
/-! ### around a list -/
theorem zip_rel {α β γ : Type} (f : α → γ) (g : β → γ) : ∀ {L : List α} {M : List β}, L.map f = M.map g → ∀ p ∈ L.zip M, f p.1 = g p.2
  | [], _, _, p, h => by simp at h
  | _ :: _, [], _, p, h => by simp at h
  | a :: L, b :: M, e, p, h => by
    simp only [List.map_cons, List.cons.injEq] at e
    rw [List.zip_cons_cons, List.mem_cons] at h
    rcases h with rfl | h
    · exact e.1
    · exact zip_rel f g e.2 p h
theorem mem_rot {α : Type} {a : α} {L : List α} : a ∈ rot L ↔ a ∈ L := by
  unfold rot
  cases L with
  | nil => simp
  | cons b r => simp [or_comm]
theorem Ed_snd (cs : List Pt) : (Ed cs).map (·.2) = rot cs := by
  unfold Ed
  exact List.map_snd_zip (by rw [rot_len]; exact Nat.le_refl _)
theorem next_ok {cs : List Pt} {p : (Pt × Pt) × (Pt × Pt)} (h : p ∈ (Ed cs).zip (rot (Ed cs))) : p.1.2 = p.2.1 := by
  refine zip_rel (fun e : Pt × Pt => e.2) (fun e : Pt × Pt => e.1) ?_ p h
  rw [Ed_snd, ← rot_map, Ed_fst]
theorem zip_mp {α β : Type} (f : α → β) (L : List α) : (L.map f).zip (rot (L.map f)) = (L.zip (rot L)).map fun p => (f p.1, f p.2) := by
  rw [rot_map, List.zip_map]
  rfl
theorem valid_of {cs : List Pt} (R : Round cs) : Valid (Ed cs) := by
  have ez : Ed (Ss cs) = ((Ed cs).zip (rot (Ed cs))).map fun p => (stp p.1, stp p.2) := by
    unfold Ss
    exact zip_mp stp (Ed cs)
  have ht : ∀ p ∈ (Ed cs).zip (rot (Ed cs)), 0 < cr (stp p.1) (stp p.2) := fun p hp =>
    R.turns (stp p.1, stp p.2) (by rw [ez]; exact List.mem_map.mpr ⟨p, hp, rfl⟩)
  have f1 : ((Ed cs).zip (rot (Ed cs))).map (·.1) = Ed cs := List.map_fst_zip (by rw [rot_len]; exact Nat.le_refl _)
  have f2 : ((Ed cs).zip (rot (Ed cs))).map (·.2) = rot (Ed cs) := List.map_snd_zip (by rw [rot_len]; exact Nat.le_refl _)
  refine ⟨fun e he => ?_, fun e he => ?_⟩
  · rw [← mem_rot, ← f2] at he
    obtain ⟨p, hp, rfl⟩ := List.mem_map.mp he
    exact ⟨p.1, (List.of_mem_zip (a := p.1) (b := p.2) hp).1, next_ok hp, ht p hp⟩
  · rw [← f1] at he
    obtain ⟨p, hp, rfl⟩ := List.mem_map.mp he
    exact ⟨p.2, mem_rot.mp (List.of_mem_zip (a := p.1) (b := p.2) hp).2, (next_ok hp).symm, ht p hp⟩
theorem find_none {α β : Type} {f : α → Option β} {L : List α} : L.findSome? f = none ↔ ∀ a ∈ L, f a = none := List.findSome?_eq_none_iff
theorem find_some {α β : Type} {f : α → Option β} {L : List α} {b : β} (h : L.findSome? f = some b) : ∃ a ∈ L, f a = some b := List.exists_of_findSome?_eq_some h
theorem overAt_some {k : Rat} {s z x y : Pt} (h : overAt k s z x = some y) : y = x ∧ OverP k s z x := by
  unfold overAt at h
  split at h
  · rename_i q
    cases h
    exact ⟨rfl, overB_iff.mp q⟩
  · cases h
theorem overAt_none {k : Rat} {s z x : Pt} : overAt k s z x = none ↔ ¬ OverP k s z x := by
  unfold overAt
  rw [← overB_iff]
  split
  · rename_i q
    simp [q]
  · rename_i q
    simp [q]
theorem turnAt_some {k : Rat} {s z y : Pt} {e : Pt × Pt} (h : turnAt k s z e = some y) : ∃ T, 0 < T ∧ T < 1 ∧ y = mid e.1 e.2 T ∧ OverP k s z y := by
  unfold turnAt at h
  obtain ⟨T, hT, h⟩ := Option.bind_eq_some_iff.mp h
  unfold tpt at hT
  split at hT
  · cases hT
  · split at hT
    · rename_i q
      cases hT
      split at h
      · rename_i o
        cases h
        exact ⟨_, q.1, q.2, rfl, overB_iff.mp o⟩
      · cases h
    · cases hT
theorem turnAt_none {k : Rat} {s z : Pt} {e : Pt × Pt} (h : turnAt k s z e = none) (h0 : e2 k s z e ≠ 0) (h1 : 0 < -e1 k s z e / (2 * e2 k s z e)) (h2 : -e1 k s z e / (2 * e2 k s z e) < 1) : ¬ OverP k s z (mid e.1 e.2 (-e1 k s z e / (2 * e2 k s z e))) := by
  unfold turnAt tpt at h
  rw [if_neg h0, if_pos ⟨h1, h2⟩, Option.bind_some] at h
  rw [← overB_iff]
  split at h
  · cases h
  · rename_i q
    exact q
/-- what is found lies in the polygon and is over -/
theorem pairS_sound {k : Rat} {s z x : Pt} {cs : List Pt} (hin : ∀ c ∈ cs, Inside (Ed cs) c) (h : pairS k s z cs = [x]) : Inside (Ed cs) x ∧ OverP k s z x := by
  unfold pairS at h
  split at h
  · rename_i c hc
    cases h
    obtain ⟨a, ha, e⟩ := find_some hc
    obtain ⟨rfl, o⟩ := overAt_some e
    exact ⟨hin _ ha, o⟩
  · split at h
    · cases h
    · split at h
      · rename_i q
        cases h
        refine ⟨fun e he => ?_, overB_iff.mp q.2⟩
        have := List.all_eq_true.mp q.1 e he
        exact of_decide_eq_true this
      · split at h
        · rename_i y hy
          cases h
          obtain ⟨e, he, q⟩ := find_some hy
          obtain ⟨T, t0, t1, rfl, o⟩ := turnAt_some q
          refine ⟨fun d hd => ?_, o⟩
          rw [hh_mid]
          have h1 := hin _ (Ed_mem he).1 d hd
          have h2 := hin _ (Ed_mem he).2 d hd
          have p1 := Rat.mul_nonneg (show 0 ≤ 1 - T by grind) h1
          have p2 := Rat.mul_nonneg (Rat.le_of_lt t0) h2
          grind
        · cases h
/-- if nothing is found nobody between the corners is over -/
theorem pairS_none {k : Rat} {s z : Pt} {cs : List Pt} (R : Round cs) (hin : ∀ c ∈ cs, Inside (Ed cs) c) (h : pairS k s z cs = []) {W : List (Rat × Pt)} {x : Pt} (hW : ∀ a ∈ W, 0 ≤ a.1 ∧ a.2 ∈ cs) (w : 0 < sW W) (hx : sW W * x.1 = sX W) (hy : sW W * x.2 = sY W) : ¬ OverP k s z x := by
  unfold pairS at h
  split at h
  · cases h
  · rename_i hf
    have hc : ∀ c ∈ cs, ¬ OverP k s z c := fun c hc => overAt_none.mp (find_none.mp hf c hc)
    by_cases hk : k < 0
    · exact let_comb hk (fun a ha => ⟨(hW a ha).1, hc _ (hW a ha).2⟩) w hx hy
    · rw [if_neg hk] at h
      split at h
      · cases h
      · rename_i q
        split at h
        · cases h
        · rename_i hn
          have hx' : Inside (Ed cs) x := inside_comb (fun a ha => ⟨(hW a ha).1, hin _ (hW a ha).2⟩) w hx hy
          refine let_inside (valid_of R) (by grind) (fun e he => ⟨hc _ (Ed_mem he).1, hc _ (Ed_mem he).2⟩) ?_ (fun e he h0 h1 h2 => turnAt_none (find_none.mp hn e he) h0 h1 h2) hx'
          by_cases hw : d2 s.1 s.2 z.1 z.2 ≤ k * k
          · exact .inl hw
          · right
            intro hi
            refine q ⟨List.all_eq_true.mpr fun e he => decide_eq_true (hi e he), overB_iff.mpr ?_⟩
            -- s itself is over
            unfold OverP Over Ov
            have e0 : d2 s.1 s.2 s.1 s.2 = 0 := by
              unfold d2
              grind
            rw [e0]
            refine .inl ⟨by grind, by grind, ?_⟩
            have := Rat.mul_pos (show 0 < d2 s.1 s.2 z.1 z.2 - k * k by grind) (show 0 < d2 s.1 s.2 z.1 z.2 - k * k by grind)
            grind
end K29
end
section
set_option Elab.async false
set_option linter.all false
set_option autoImplicit false
set_option maxRecDepth 100000
namespace K29
open PySem PySem.Spec PyProof.Rows L2 Ev Ar
def cI (p : PI) : Pt := ((p.1 : Rat), (p.2 : Rat))
theorem six_eq (p : PI) : six p = sc (1 / 6) (cI p) := by
  unfold six sc cI
  rw [Rat.divInt_eq_div, Rat.divInt_eq_div]
  have e : ((6 : Int) : Rat) = 6 := rfl
  rw [e]
  ext <;> simp <;> grind
theorem dI_cast (s : PI) (x y : Int) : ((dI s x y : Int) : Rat) = d2 (x : Rat) y s.1 s.2 := by
  unfold dI d2
  simp only [cast_add, cast_mul, cast_sub]
theorem oI_iff {s z : PI} {k x y : Int} : oI s z k x y = true ↔ OverP k (cI s) (cI z) (cI (x, y)) := by
  unfold oI OverP Over cI
  rw [decide_eq_true_eq, dI_cast, dI_cast]
  exact sgTwo_over (d2_nn ..) (d2_nn ..)
def cE (e : PI × PI) : Pt × Pt := (cI e.1, cI e.2)
theorem hI_cast (e : PI × PI) (x : PI) : ((hI e x : Int) : Rat) = hh (cE e) (cI x) := by
  unfold hI hh cE cI cr Ar.sub
  simp only [cast_mul, cast_sub]
theorem cA_cast (k : Int) (p q s z : PI) : ((cA k p s z : Int) : Rat) = ea k (cI s) (cI z) (cI p, cI q) := by
  unfold cA ea cI d2
  simp only [cast_add, cast_mul, cast_sub]
theorem two_cast : ((2 : Int) : Rat) = 2 := rfl
theorem four_cast : ((4 : Int) : Rat) = 4 := rfl
theorem cB_cast (p q s z : PI) : ((cB p q s z : Int) : Rat) = eb (cI s) (cI z) (cI p, cI q) := by
  unfold cB cN1 eb cI
  simp only [cast_add, cast_mul, cast_sub, two_cast]
  grind
theorem c0_cast (k : Int) (p q s z : PI) : ((c0 k p s z : Int) : Rat) = e0 k (cI s) (cI z) (cI p, cI q) := by
  unfold c0 e0
  rw [cast_sub, cast_mul, cA_cast k p q s z]
  unfold cI d2
  simp only [cast_add, cast_mul, cast_sub, four_cast]
  grind
theorem c1_cast (k : Int) (p q s z : PI) : ((c1 k p q s z : Int) : Rat) = e1 k (cI s) (cI z) (cI p, cI q) := by
  unfold c1 e1
  rw [cast_sub, cast_mul, cast_mul, cA_cast k p q s z, cB_cast]
  unfold cN1 en1 cI
  simp only [cast_add, cast_mul, cast_sub, four_cast, two_cast]
  grind
theorem c2_cast (k : Int) (p q s z : PI) : ((c2 k p q s z : Int) : Rat) = e2 k (cI s) (cI z) (cI p, cI q) := by
  unfold c2 e2
  rw [cast_sub, cast_mul, cB_cast]
  unfold cN2 en2 cI
  simp only [cast_add, cast_mul, cast_sub, four_cast]
  grind
/-- the turning place, told by signs -/
theorem turn_cond {a b u0 u1 u2 v T : Rat} (hv : v = 1 ∨ v = -1) (hd : 0 < u2 * v) (hT : 2 * u2 * T = -u1) :
    ((0 < -u1 * v ∧ -u1 * v < 2 * u2 * v) ↔ (0 < T ∧ T < 1)) ∧ (0 < (2 * a * u2 - b * u1) * v ↔ 0 < a + b * T) ∧ (0 < (4 * u0 * u2 - u1 * u1) * v ↔ 0 < u0 + u1 * T + u2 * (T * T)) := by
  have d2 : 0 < 2 * (u2 * v) := by grind
  have i1 : -u1 * v = 2 * (u2 * v) * T := by grind
  have i2 : (2 * a * u2 - b * u1) * v = 2 * (u2 * v) * (a + b * T) := by grind
  have i3 : (4 * u0 * u2 - u1 * u1) * v = 2 * (2 * (u2 * v)) * (u0 + u1 * T + u2 * (T * T)) := by grind
  have i4 : 2 * u2 * v - -u1 * v = 2 * (u2 * v) * (1 - T) := by grind
  refine ⟨?_, ?_, ?_⟩
  · rw [i1, pos_mul d2]
    have q := pos_mul d2 (a := 1 - T)
    rw [← i4] at q
    constructor
    · rintro ⟨h1, h2⟩
      exact ⟨h1, by grind⟩
    · rintro ⟨h1, h2⟩
      exact ⟨h1, by grind⟩
  · rw [i2, pos_mul d2]
  · rw [i3, pos_mul (by grind)]
theorem ilt {a b : Int} : a < b ↔ (a : Rat) < (b : Rat) := Rat.intCast_lt_intCast.symm
theorem ipos {a : Int} : 0 < a ↔ (0 : Rat) < (a : Rat) := rpos.symm
theorem esB_iff {k : Int} {p q s z : PI} (hk : 0 ≤ k) : esB k p q s z = true ↔ OverP k (cI s) (cI z) (cI p) ∨ OverP k (cI s) (cI z) (cI q) ∨ ∃ y, turnAt k (cI s) (cI z) (cI p, cI q) = some y := by
  have hk' : (0 : Rat) ≤ (k : Rat) := by
    have := ilt (a := k) (b := 0)
    have e0 : ((0 : Int) : Rat) = 0 := rfl
    rw [e0] at this
    false_or_by_contra
    have h := this.mpr (by grind)
    omega
  have A := cA_cast k p q s z
  have B := cB_cast p q s z
  have C0 := c0_cast k p q s z
  have C1 := c1_cast k p q s z
  have C2 := c2_cast k p q s z
  have o0 : OverP k (cI s) (cI z) (cI p) ↔ 0 < cA k p s z ∧ 0 < c0 k p s z := by
    have h := over_mid hk' (cI s) (cI z) (cI p, cI q) 0
    rw [mid0] at h
    rw [h]
    unfold At
    rw [ipos, ipos, A, C0]
    constructor
    · rintro ⟨h1, h2⟩
      exact ⟨by grind, by grind⟩
    · rintro ⟨h1, h2⟩
      exact ⟨by grind, by grind⟩
  have o1 : OverP k (cI s) (cI z) (cI q) ↔ 0 < cA k p s z + cB p q s z ∧ 0 < c0 k p s z + c1 k p q s z + c2 k p q s z := by
    have h := over_mid hk' (cI s) (cI z) (cI p, cI q) 1
    rw [mid1] at h
    rw [h]
    unfold At
    rw [ipos, ipos, cast_add, cast_add, cast_add, A, B, C0, C1, C2]
    constructor
    · rintro ⟨h1, h2⟩
      exact ⟨by grind, by grind⟩
    · rintro ⟨h1, h2⟩
      exact ⟨by grind, by grind⟩
  rw [o0, o1]
  unfold esB
  by_cases h0 : (0 < cA k p s z ∧ 0 < c0 k p s z) ∨ (0 < cA k p s z + cB p q s z ∧ 0 < c0 k p s z + c1 k p q s z + c2 k p q s z)
  · rw [if_pos h0]
    rcases h0 with h0 | h0
    · simp [h0]
    · simp [h0]
  · rw [if_neg h0]
    have n0 : ¬ (0 < cA k p s z ∧ 0 < c0 k p s z) := fun h => h0 (.inl h)
    have n1 : ¬ (0 < cA k p s z + cB p q s z ∧ 0 < c0 k p s z + c1 k p q s z + c2 k p q s z) := fun h => h0 (.inr h)
    have red : ((0 < cA k p s z ∧ 0 < c0 k p s z) ∨ (0 < cA k p s z + cB p q s z ∧ 0 < c0 k p s z + c1 k p q s z + c2 k p q s z) ∨ ∃ y, turnAt k (cI s) (cI z) (cI p, cI q) = some y) ↔ ∃ y, turnAt k (cI s) (cI z) (cI p, cI q) = some y :=
      ⟨fun h => h.elim (fun h => absurd h n0) fun h => h.elim (fun h => absurd h n1) id, fun h => .inr (.inr h)⟩
    rw [red]
    by_cases hz : e2 k (cI s) (cI z) (cI p, cI q) = 0
    · have hs : sg ((c2 k p q s z : Int) : Rat) = 0 := by rw [C2, hz]; rfl
      rw [if_pos (.inl hs)]
      unfold turnAt tpt
      rw [if_pos hz]
      simp
    · have ex : (∃ y, turnAt k (cI s) (cI z) (cI p, cI q) = some y) ↔ ((0 < -e1 k (cI s) (cI z) (cI p, cI q) / (2 * e2 k (cI s) (cI z) (cI p, cI q)) ∧ -e1 k (cI s) (cI z) (cI p, cI q) / (2 * e2 k (cI s) (cI z) (cI p, cI q)) < 1) ∧ OverP k (cI s) (cI z) (mid (cI p) (cI q) (-e1 k (cI s) (cI z) (cI p, cI q) / (2 * e2 k (cI s) (cI z) (cI p, cI q))))) := by
        constructor
        · rintro ⟨y, hy⟩
          unfold turnAt tpt at hy
          rw [if_neg hz] at hy
          obtain ⟨T, hT, hy⟩ := Option.bind_eq_some_iff.mp hy
          split at hT
          · rename_i qq
            cases hT
            split at hy
            · rename_i oo
              exact ⟨qq, overB_iff.mp oo⟩
            · cases hy
          · cases hT
        · rintro ⟨qq, oo⟩
          refine ⟨mid (cI p) (cI q) (-e1 k (cI s) (cI z) (cI p, cI q) / (2 * e2 k (cI s) (cI z) (cI p, cI q))), ?_⟩
          unfold turnAt tpt
          rw [if_neg hz, if_pos qq, Option.bind_some, if_pos (overB_iff.mpr oo)]
      rw [ex]
      have hm := over_mid hk' (cI s) (cI z) (cI p, cI q) (-e1 k (cI s) (cI z) (cI p, cI q) / (2 * e2 k (cI s) (cI z) (cI p, cI q)))
      simp only at hm
      rw [hm]
      unfold At
      have hT : 2 * e2 k (cI s) (cI z) (cI p, cI q) * (-e1 k (cI s) (cI z) (cI p, cI q) / (2 * e2 k (cI s) (cI z) (cI p, cI q))) = -e1 k (cI s) (cI z) (cI p, cI q) := by
        generalize e2 k (cI s) (cI z) (cI p, cI q) = w at *
        generalize e1 k (cI s) (cI z) (cI p, cI q) = u at *
        grind
      have hvz : ∃ v : Int, sg ((c2 k p q s z : Int) : Rat) = v ∧ (v = 1 ∨ v = -1) ∧ 0 < e2 k (cI s) (cI z) (cI p, cI q) * ((v : Int) : Rat) := by
        rw [C2]
        rcases tri (e2 k (cI s) (cI z) (cI p, cI q)) 0 with h | h | h
        · refine ⟨-1, sg_neg h, .inr rfl, ?_⟩
          have e1 : (((-1 : Int)) : Rat) = -1 := rfl
          rw [e1]
          grind
        · exact absurd h hz
        · refine ⟨1, sg_pos h, .inl rfl, ?_⟩
          have e1 : (((1 : Int)) : Rat) = 1 := rfl
          rw [e1]
          grind
      obtain ⟨v, hs, hv, hd⟩ := hvz
      have hv' : ((v : Int) : Rat) = 1 ∨ ((v : Int) : Rat) = -1 := by
        rcases hv with rfl | rfl
        · exact .inl rfl
        · exact .inr rfl
      have hv0 : v ≠ 0 := by rcases hv with rfl | rfl <;> decide
      obtain ⟨t1, t2, t3⟩ := turn_cond (a := ea k (cI s) (cI z) (cI p, cI q)) (b := eb (cI s) (cI z) (cI p, cI q)) (u0 := e0 k (cI s) (cI z) (cI p, cI q)) hv' hd hT
      rw [hs]
      have g1 : (0 < 0 - c1 k p q s z * v ∧ 0 - c1 k p q s z * v < 2 * c2 k p q s z * v) ↔ (0 < -e1 k (cI s) (cI z) (cI p, cI q) * (v : Rat) ∧ -e1 k (cI s) (cI z) (cI p, cI q) * (v : Rat) < 2 * e2 k (cI s) (cI z) (cI p, cI q) * (v : Rat)) := by
        rw [ipos, ilt]
        simp only [cast_sub, cast_mul, two_cast, C1, C2]
        have ez : ((0 : Int) : Rat) = 0 := rfl
        rw [ez]
        constructor
        · rintro ⟨h1, h2⟩
          exact ⟨by grind, by grind⟩
        · rintro ⟨h1, h2⟩
          exact ⟨by grind, by grind⟩
      have g2 : 0 < (2 * cA k p s z * c2 k p q s z - cB p q s z * c1 k p q s z) * v ↔ 0 < (2 * ea k (cI s) (cI z) (cI p, cI q) * e2 k (cI s) (cI z) (cI p, cI q) - eb (cI s) (cI z) (cI p, cI q) * e1 k (cI s) (cI z) (cI p, cI q)) * (v : Rat) := by
        rw [ipos]
        simp only [cast_sub, cast_mul, two_cast, A, B, C1, C2]
      have g3 : 0 < (4 * c0 k p s z * c2 k p q s z - c1 k p q s z * c1 k p q s z) * v ↔ 0 < (4 * e0 k (cI s) (cI z) (cI p, cI q) * e2 k (cI s) (cI z) (cI p, cI q) - e1 k (cI s) (cI z) (cI p, cI q) * e1 k (cI s) (cI z) (cI p, cI q)) * (v : Rat) := by
        rw [ipos]
        simp only [cast_sub, cast_mul, four_cast, C0, C1, C2]
      rw [← t1, ← t2, ← t3, ← g1, ← g2, ← g3]
      by_cases w1 : (0 < 0 - c1 k p q s z * v ∧ 0 - c1 k p q s z * v < 2 * c2 k p q s z * v)
      · rw [if_neg (by rintro (h | h); exact hv0 h; exact h w1), decide_eq_true_eq]
        exact ⟨fun h => ⟨w1, h⟩, fun h => h.2⟩
      · rw [if_pos (.inr w1)]
        exact ⟨fun h => absurd h (by simp), fun h => absurd h.1 w1⟩
end K29
end
section
set_option Elab.async false
set_option linter.all false
set_option autoImplicit false
set_option maxRecDepth 100000
namespace K29
open PySem PySem.Spec PyProof.Rows L2 Ev Ar
def EdI (cs : List PI) : List (PI × PI) := cs.zip (rot cs)
theorem Ed_map (f : PI → Pt) (cs : List PI) : Ed (cs.map f) = (EdI cs).map fun e => (f e.1, f e.2) := zip_mp f cs
theorem rot_get {α : Type} {cs : List α} {i : Nat} (h : i < cs.length) : (rot cs)[i]? = if i + 1 < cs.length then cs[i + 1]? else cs[0]? := by
  cases cs with
  | nil => cases h
  | cons a r =>
    unfold rot
    show (r ++ [a])[i]? = _
    simp only [List.length_cons] at h ⊢
    by_cases q : i < r.length
    · rw [List.getElem?_append_left q, if_pos (by omega)]
      simp
    · rw [List.getElem?_append_right (by omega), if_neg (by omega), show i - r.length = 0 by omega]
      rfl
theorem at_get {cs : List PI} {i : Nat} (h : i < cs.length) : cs[i]? = some (atL cs i) := by
  unfold atL
  rw [List.getD_eq_getElem?_getD, List.getElem?_eq_getElem h]
  rfl
theorem pv_at {cs : List PI} {i : Nat} (h : i < cs.length) : pvL cs i = atL cs (if i = 0 then cs.length - 1 else i - 1) := rfl
theorem edge_mem {cs : List PI} {i : Nat} (h : i < cs.length) : (pvL cs i, atL cs i) ∈ EdI cs := by
  unfold EdI
  rw [List.mem_iff_getElem?]
  by_cases hi : i = 0
  · subst hi
    refine ⟨cs.length - 1, ?_⟩
    rw [List.getElem?_zip_eq_some, rot_get (by omega), if_neg (by omega)]
    exact ⟨at_get (by omega), at_get h⟩
  · refine ⟨i - 1, ?_⟩
    rw [List.getElem?_zip_eq_some, rot_get (by omega), if_pos (by omega), show i - 1 + 1 = i by omega, pv_at h, if_neg hi]
    exact ⟨at_get (by omega), at_get h⟩
theorem mem_edge {cs : List PI} {e : PI × PI} (h : e ∈ EdI cs) : ∃ i, i < cs.length ∧ e = (pvL cs i, atL cs i) := by
  unfold EdI at h
  rw [List.mem_iff_getElem?] at h
  obtain ⟨i, h⟩ := h
  rw [List.getElem?_zip_eq_some] at h
  obtain ⟨h1, h2⟩ := h
  have hi : i < cs.length := (List.getElem?_eq_some_iff.mp h1).1
  rw [rot_get hi] at h2
  rw [at_get hi] at h1
  by_cases q : i + 1 < cs.length
  · rw [if_pos q, at_get q] at h2
    refine ⟨i + 1, q, ?_⟩
    rw [pv_at q, if_neg (by omega), Nat.add_sub_cancel]
    exact Prod.ext (Option.some.inj h1).symm (Option.some.inj h2).symm
  · have h0 : 0 < cs.length := by omega
    rw [if_neg q, at_get h0] at h2
    refine ⟨0, h0, ?_⟩
    rw [pv_at h0, if_pos rfl, show cs.length - 1 = i by omega]
    exact Prod.ext (Option.some.inj h1).symm (Option.some.inj h2).symm
theorem all_edges {cs : List PI} {P : PI × PI → Bool} : ((List.range cs.length).all fun i => P (pvL cs i, atL cs i)) = true ↔ ∀ e ∈ EdI cs, P e = true := by
  rw [List.all_eq_true]
  constructor
  · intro h e he
    obtain ⟨i, hi, rfl⟩ := mem_edge he
    exact h i (List.mem_range.mpr hi)
  · intro h i hi
    exact h _ (edge_mem (List.mem_range.mp hi))
theorem EdI_mem {cs : List PI} {e : PI × PI} (h : e ∈ EdI cs) : e.1 ∈ cs ∧ e.2 ∈ cs := by
  obtain ⟨i, hi, rfl⟩ := mem_edge h
  exact ⟨pvL_mem hi, atL_mem hi⟩
theorem mem_EdI1 {cs : List PI} {c : PI} (h : c ∈ cs) : ∃ e ∈ EdI cs, e.1 = c := by
  have : (EdI cs).map (·.1) = cs := List.map_fst_zip (by rw [rot_len]; exact Nat.le_refl _)
  rw [← this] at h
  obtain ⟨e, he, rfl⟩ := List.mem_map.mp h
  exact ⟨e, he, rfl⟩
theorem icast0 {i : Int} : 0 ≤ i ↔ (0 : Rat) ≤ (i : Rat) := by
  have := rneg (i := i)
  constructor
  · intro h
    false_or_by_contra
    have := this.mp (by grind)
    omega
  · intro h
    false_or_by_contra
    have := this.mpr (by omega)
    grind
section
variable {cs : List PI} {s z x : PI} {k : Int}
theorem sixth : (0 : Rat) < 1 / 6 := by grind
theorem inB_iff : inB cs x = true ↔ ∀ e ∈ EdI cs, 0 ≤ hh (cE e) (cI x) := by
  unfold inB
  rw [all_edges (P := fun e => decide (0 ≤ hI e x))]
  constructor
  · intro h e he
    have := of_decide_eq_true (h e he)
    rw [icast0, hI_cast] at this
    exact this
  · intro h e he
    refine decide_eq_true ?_
    rw [icast0, hI_cast]
    exact h e he
theorem in_sc {c : Rat} (hc : 0 < c) {f : PI → Pt} (hf : ∀ p, f p = sc c (cI p)) (y : Pt) : Inside (Ed (cs.map f)) (sc c y) ↔ ∀ e ∈ EdI cs, 0 ≤ hh (cE e) y := by
  unfold Inside
  rw [Ed_map]
  have c2 := Rat.mul_pos hc hc
  have key : ∀ e : PI × PI, 0 ≤ hh (f e.1, f e.2) (sc c y) ↔ 0 ≤ hh (cE e) y := fun e => by
    have e1 : (f e.1, f e.2) = sce c (cE e) := by
      rw [hf, hf]
      rfl
    rw [e1, hh_sc]
    have := pos_mul c2 (a := -hh (cE e) y)
    constructor <;> intro h <;> grind
  constructor
  · intro h e he
    exact (key e).mp (h _ (List.mem_map.mpr ⟨e, he, rfl⟩))
  · rintro h _ he
    obtain ⟨e, he2, rfl⟩ := List.mem_map.mp he
    exact (key e).mpr (h e he2)
theorem sc_six (p : Pt) : sc (1 / 6) (sc 6 p) = p := by
  unfold sc
  ext <;> simp <;> grind
/-- the law's word of a pair and the program's -/
theorem pk_iff : pkB cs s z k = true ↔ pairS ((1 / 6 : Rat) * k) (six s) (six z) (cs.map six) = [] := by
  have hov : ∀ c : PI, OverP ((1 / 6 : Rat) * k) (six s) (six z) (six c) ↔ OverP k (cI s) (cI z) (cI c) := fun c => by
    rw [six_eq, six_eq, six_eq]
    exact OverP_sc sixth
  have hkn : (1 / 6 : Rat) * k < 0 ↔ k < 0 := by
    rw [← rneg (i := k)]
    constructor <;> intro h <;> grind
  have hcs : (cs.map six).findSome? (overAt ((1 / 6 : Rat) * k) (six s) (six z)) = none ↔ ∀ c ∈ cs, ¬ OverP k (cI s) (cI z) (cI c) := by
    rw [find_none]
    constructor
    · intro h c hc
      rw [← hov]
      exact overAt_none.mp (h _ (List.mem_map.mpr ⟨c, hc, rfl⟩))
    · rintro h _ hc
      obtain ⟨c, hc2, rfl⟩ := List.mem_map.mp hc
      rw [overAt_none, hov]
      exact h c hc2
  have hoI : ∀ c : PI, (!oI s z k c.1 c.2) = true ↔ ¬ OverP k (cI s) (cI z) (cI c) := fun c => by
    rw [Bool.not_eq_true', ← Bool.not_eq_true, oI_iff]
  unfold pkB pairS
  by_cases hk : k < 0
  · rw [if_pos hk, List.all_eq_true]
    have e1 : (∀ c ∈ cs, (!oI s z k c.1 c.2) = true) ↔ ∀ c ∈ cs, ¬ OverP k (cI s) (cI z) (cI c) := ⟨fun h c hc => (hoI c).mp (h c hc), fun h c hc => (hoI c).mpr (h c hc)⟩
    rw [e1, ← hcs]
    constructor
    · intro h
      rw [h]
      simp only
      rw [if_pos (hkn.mpr hk)]
    · intro h
      split at h
      · cases h
      · assumption
  · rw [if_neg hk]
    have hk0 : (0 : Rat) ≤ k := by
      have := rneg (i := k)
      false_or_by_contra
      exact hk (this.mp (by grind))
    have hk1 : ¬ (1 / 6 : Rat) * k < 0 := fun h => hk (hkn.mp h)
    have hw : dI s z.1 z.2 ≤ k * k ↔ d2 (cI s).1 (cI s).2 (cI z).1 (cI z).2 ≤ (k : Rat) * k := by
      have h1 := Rat.intCast_le_intCast (a := dI s z.1 z.2) (b := k * k)
      rw [dI_cast, cast_mul] at h1
      have e : d2 (z.1 : Rat) z.2 s.1 s.2 = d2 (cI s).1 (cI s).2 (cI z).1 (cI z).2 := by
        unfold d2 cI
        grind
      rw [e] at h1
      exact h1.symm
    by_cases hw0 : dI s z.1 z.2 ≤ k * k
    · rw [if_pos hw0]
      have nv : ∀ y : Pt, ¬ OverP k (cI s) (cI z) y := fun y => never hk0 (hw.mp hw0)
      have nv6 : ∀ y : Pt, ¬ OverP ((1 / 6 : Rat) * k) (six s) (six z) y := fun y h => by
        rw [← sc_six y, six_eq, six_eq, OverP_sc sixth] at h
        exact nv _ h
      have h1 : (cs.map six).findSome? (overAt ((1 / 6 : Rat) * k) (six s) (six z)) = none := hcs.mpr fun c _ => nv _
      have h2 : (Ed (cs.map six)).findSome? (turnAt ((1 / 6 : Rat) * k) (six s) (six z)) = none := find_none.mpr fun e _ => by
        cases q : turnAt ((1 / 6 : Rat) * k) (six s) (six z) e with
        | none => rfl
        | some y =>
          obtain ⟨_, _, _, _, o⟩ := turnAt_some q
          exact absurd o (nv6 y)
      rw [h1, h2]
      simp only
      rw [if_neg hk1, if_neg (fun q => nv6 _ (overB_iff.mp q.2))]
      simp
    · rw [if_neg hw0]
      have hin : ((Ed (cs.map six)).all fun e => decide (0 ≤ hh e (six s))) = true ↔ inB cs s = true := by
        rw [inB_iff, List.all_eq_true]
        have := in_sc (cs := cs) sixth six_eq (cI s)
        rw [← six_eq] at this
        rw [← this]
        exact ⟨fun h e he => of_decide_eq_true (h e he), fun h e he => decide_eq_true (h e he)⟩
      have hself : overB ((1 / 6 : Rat) * k) (six s) (six z) (six s) = true := by
        rw [overB_iff, hov]
        unfold OverP Over Ov
        have z0 : d2 (cI s).1 (cI s).2 (cI s).1 (cI s).2 = 0 := by
          unfold d2
          grind
        rw [z0]
        have h1 : ¬ d2 (cI s).1 (cI s).2 (cI z).1 (cI z).2 ≤ (k : Rat) * k := fun q => hw0 (hw.mpr q)
        refine .inl ⟨hk0, by grind, ?_⟩
        have := Rat.mul_pos (show 0 < d2 (cI s).1 (cI s).2 (cI z).1 (cI z).2 - (k : Rat) * k by grind) (show 0 < d2 (cI s).1 (cI s).2 (cI z).1 (cI z).2 - (k : Rat) * k by grind)
        grind
      by_cases hi : inB cs s = true
      · rw [if_pos hi]
        constructor
        · intro h
          cases h
        · intro h
          split at h
          · cases h
          · rw [if_neg hk1, if_pos ⟨hin.mpr hi, hself⟩] at h
            cases h
      · rw [if_neg hi, all_edges (P := fun e => !esB k e.1 e.2 s z)]
        have hn : ¬ (((Ed (cs.map six)).all fun e => decide (0 ≤ hh e (six s))) = true ∧ overB ((1 / 6 : Rat) * k) (six s) (six z) (six s) = true) := fun q => hi (hin.mp q.1)
        have hte : ∀ e : PI × PI, turnAt ((1 / 6 : Rat) * k) (six s) (six z) (six e.1, six e.2) = none ↔ turnAt k (cI s) (cI z) (cI e.1, cI e.2) = none := fun e => by
          have e1 : (six e.1, six e.2) = sce (1 / 6) (cI e.1, cI e.2) := by
            rw [six_eq, six_eq]
            rfl
          unfold turnAt
          rw [e1, six_eq, six_eq, tpt_sc sixth]
          cases tpt k (cI s) (cI z) (cI e.1, cI e.2) with
          | none => simp
          | some T =>
            simp only [Option.bind_some]
            have e2 : mid (sce (1 / 6) (cI e.1, cI e.2)).1 (sce (1 / 6) (cI e.1, cI e.2)).2 T = sc (1 / 6) (mid (cI e.1) (cI e.2) T) := mid_sc T
            rw [e2]
            have o : overB ((1 / 6 : Rat) * k) (sc (1 / 6) (cI s)) (sc (1 / 6) (cI z)) (sc (1 / 6) (mid (cI e.1) (cI e.2) T)) = true ↔ overB k (cI s) (cI z) (mid (cI e.1) (cI e.2) T) = true := by
              rw [overB_iff, overB_iff]
              exact OverP_sc sixth
            by_cases q : overB k (cI s) (cI z) (mid (cI e.1) (cI e.2) T) = true
            · rw [if_pos q, if_pos (o.mpr q)]
              simp
            · rw [if_neg q, if_neg (fun w => q (o.mp w))]
        have hk2 : (0 : Int) ≤ k := by omega
        constructor
        · intro h
          have h' : ∀ e ∈ EdI cs, ¬ OverP k (cI s) (cI z) (cI e.1) ∧ ¬ OverP k (cI s) (cI z) (cI e.2) ∧ turnAt k (cI s) (cI z) (cI e.1, cI e.2) = none := fun e he => by
            have q := h e he
            rw [Bool.not_eq_true', ← Bool.not_eq_true, esB_iff hk2] at q
            refine ⟨fun w => q (.inl w), fun w => q (.inr (.inl w)), ?_⟩
            cases w : turnAt k (cI s) (cI z) (cI e.1, cI e.2) with
            | none => rfl
            | some y => exact absurd (.inr (.inr ⟨y, w⟩)) q
          have h1 := hcs.mpr fun c hc => by
            obtain ⟨e, he, rfl⟩ := mem_EdI1 hc
            exact (h' e he).1
          have h2 : (Ed (cs.map six)).findSome? (turnAt ((1 / 6 : Rat) * k) (six s) (six z)) = none := find_none.mpr fun e he => by
            rw [Ed_map] at he
            obtain ⟨e, he2, rfl⟩ := List.mem_map.mp he
            exact (hte e).mpr (h' e he2).2.2
          rw [h1, h2]
          simp only
          rw [if_neg hk1, if_neg hn]
        · intro h e he
          rw [Bool.not_eq_true', ← Bool.not_eq_true, esB_iff hk2]
          split at h
          · cases h
          · rename_i hf
            have h1 := hcs.mp hf
            rw [if_neg hk1, if_neg hn] at h
            split at h
            · cases h
            · rename_i ht
              have h2 := (hte e).mp (find_none.mp ht _ (by rw [Ed_map]; exact List.mem_map.mpr ⟨e, he, rfl⟩))
              rintro (w | w | ⟨y, w⟩)
              · exact h1 _ (EdI_mem he).1 w
              · exact h1 _ (EdI_mem he).2 w
              · rw [h2] at w
                cases w
end
end K29
end
section
set_option Elab.async false
set_option linter.all false
set_option autoImplicit false
set_option maxRecDepth 100000
namespace K29
open PySem PySem.Spec PyProof.Rows L2 Ev Ar
theorem Bz.add' {n : Nat} {a b : Int} (ha : Bz n a) (hb : Bz n b) : Bz (n + 1) (a + b) := by
  unfold Bz at *
  rw [Nat.pow_succ]
  omega
theorem Bz.sub' {n : Nat} {a b : Int} (ha : Bz n a) (hb : Bz n b) : Bz (n + 1) (a - b) := by
  rw [Int.sub_eq_add_neg]
  exact ha.add' hb.neg
structure GoodP (cs : List PI) : Prop where
  bp : ∀ c ∈ cs, BP 14 c
  l3 : 3 ≤ cs.length
  l8 : cs.length ≤ 8
  rnd : Round (cs.map six)
  ins : ∀ c ∈ cs, ∀ e ∈ EdI cs, 0 ≤ hI e c
section
variable {cs : List PI} {s z s0 s1 : PI} {k lo hi : Int} {b : Bool}
theorem six_sz {p : PI} (h : BP 14 p) : PSz 16 (six p) :=
  ⟨sz_divInt (by decide) (h.x.mono (by decide)) (by decide), sz_divInt (by decide) (h.y.mono (by decide)) (by decide)⟩
theorem GoodP.inside (g : GoodP cs) : ∀ c ∈ cs.map six, Inside (Ed (cs.map six)) c := by
  intro c hc
  obtain ⟨c, hc2, rfl⟩ := List.mem_map.mp hc
  rw [six_eq, in_sc sixth six_eq]
  intro e he
  have := g.ins c hc2 e he
  rw [icast0, hI_cast] at this
  exact this
theorem GoodP.szs (g : GoodP cs) : ∀ c ∈ cs.map six, PSz 16 c := by
  intro c hc
  obtain ⟨c, hc2, rfl⟩ := List.mem_map.mp hc
  exact six_sz (g.bp c hc2)
/-- the turning places are short -/
theorem tpt_sz (g : GoodP cs) (hs : BP 14 s) (hz : BP 14 z) (hk : Bz 14 k) : ∀ e ∈ Ed (cs.map six), ∀ T, tpt ((1 / 6 : Rat) * k) (six s) (six z) e = some T → Sz 190 T := by
  intro e he T hT
  rw [Ed_map] at he
  obtain ⟨e, he2, rfl⟩ := List.mem_map.mp he
  have e1' : (six e.1, six e.2) = sce (1 / 6) (cI e.1, cI e.2) := by
    rw [six_eq, six_eq]
    rfl
  rw [e1', six_eq, six_eq, tpt_sc sixth] at hT
  unfold tpt at hT
  split at hT
  · cases hT
  · rename_i h0
    split at hT
    · cases hT
      have hp := g.bp _ (EdI_mem he2).1
      have hq := g.bp _ (EdI_mem he2).2
      have x1 := hp.x.sub' hz.x
      have x2 := hp.y.sub' hz.y
      have u1 := hp.x.sub' hs.x
      have u2 := hp.y.sub' hs.y
      have w1 := hq.x.sub' hp.x
      have w2 := hq.y.sub' hp.y
      have bA : Bz 33 (cA k e.1 s z) := (((x1.mul x1).add' (x2.mul x2)).sub' ((u1.mul u1).add' (u2.mul u2))).sub' ((hk.mul hk).mono (by decide))
      have bN1 : Bz 33 (cN1 e.1 e.2 s) := bz2.mul ((u1.mul w1).add' (u2.mul w2))
      have bN2 : Bz 31 (cN2 e.1 e.2) := (w1.mul w1).add' (w2.mul w2)
      have bB : Bz 34 (cB e.1 e.2 s z) := (bz2.mul ((x1.mul w1).add' (x2.mul w2))).sub' bN1
      have k44 : Bz 31 (4 * k * k) := (bz4.mul hk).mul hk
      have b1 : Bz 70 (c1 k e.1 e.2 s z) := ((bz2.mul bA).mul bB).sub' ((k44.mul bN1).mono (by decide))
      have b2 : Bz 69 (c2 k e.1 e.2 s z) := (bB.mul bB).sub' ((k44.mul bN2).mono (by decide))
      have hne : (2 * c2 k e.1 e.2 s z : Int) ≠ 0 := by
        intro h
        apply h0
        rw [← c2_cast]
        have : c2 k e.1 e.2 s z = 0 := by omega
        rw [this]
        rfl
      have hd := sz_div (n := 190) hne (a := -(c1 k e.1 e.2 s z)) (b1.neg.mono (by decide)) ((bz2.mul b2).mono (by decide))
      have ec : (((-(c1 k e.1 e.2 s z) : Int)) : Rat) = -e1 k (cI s) (cI z) (cI e.1, cI e.2) := by
        rw [← c1_cast]
        simp
      rw [ec, cast_mul, two_cast, c2_cast] at hd
      exact hd
    · cases hT
theorem pairS_sz (g : GoodP cs) (hs : BP 14 s) (hz : BP 14 z) (hk : Bz 14 k) {x : Pt} (h : pairS ((1 / 6 : Rat) * k) (six s) (six z) (cs.map six) = [x]) : PSz 250 x := by
  unfold pairS at h
  have up : ∀ {p : Pt}, PSz 16 p → PSz 250 p := fun h => ⟨h.x.mono (by decide), h.y.mono (by decide)⟩
  split at h
  · rename_i c hc
    cases h
    obtain ⟨a, ha, e⟩ := find_some hc
    obtain ⟨rfl, _⟩ := overAt_some e
    exact up (g.szs _ ha)
  · split at h
    · cases h
    · split at h
      · cases h
        exact up (six_sz hs)
      · split at h
        · rename_i y hy
          cases h
          obtain ⟨e, he, q⟩ := find_some hy
          have h1 := g.szs _ (Ed_mem he).1
          have h2 := g.szs _ (Ed_mem he).2
          unfold turnAt at q
          obtain ⟨T, hT, q⟩ := Option.bind_eq_some_iff.mp q
          have sT := tpt_sz g hs hz hk e he T hT
          split at q
          · cases q
            unfold mid
            exact ⟨(h1.x.add (sT.mul (h2.x.sub h1.x))).mono (by decide), (h1.y.add (sT.mul (h2.y.sub h1.y))).mono (by decide)⟩
          · cases q
        · cases h
theorem den_mul_eq (q : Rat) : (q.num : Rat) = q * (q.den : Int) := by
  have h := Rat.num_divInt_den q
  rw [Rat.divInt_eq_div] at h
  have hd : ((q.den : Int) : Rat) ≠ 0 := by
    rw [Ne, rzero]
    have := den_pos q
    omega
  generalize ((q.den : Int) : Rat) = d at *
  generalize (q.num : Rat) = n at *
  grind
theorem at_cast (x : Pt) : cI (atD x).1 = sc ((atD x).2 : Int) (sc 6 x) := by
  have h1 := den_mul_eq x.1
  have h2 := den_mul_eq x.2
  have e6 : ((6 : Int) : Rat) = 6 := rfl
  unfold atD cI sc
  simp only [cast_mul, e6, h1, h2]
  ext <;> simp only <;> grind
theorem at_pos (x : Pt) : 0 < (atD x).2 := by
  have h1 := den_pos x.1
  have h2 := den_pos x.2
  exact Int.mul_pos (by omega) (by omega)
theorem tm_cast (t : Int) (p : PI) : cI (tm t p) = sc (t : Rat) (cI p) := by
  unfold tm cI sc
  simp only [cast_mul]
  ext <;> simp only <;> grind
theorem map_tm (t : Int) : (cs.map pI).map (fun d => d) = cs.map pI := by simp
theorem nI_tm (t : Int) : nI b (tm t s0) (tm t s1) = tm t (nI b s0 s1) := by cases b <;> rfl
theorem F_law_is_answer_eq (g : GoodP cs) (h0 : BP 14 s0) (h1 : BP 14 s1) (hl : Bz 13 lo) (hh : Bz 13 hi) :
    F_law_is_answer [ansD (pairS ((1 / 6 : Rat) * ((hi - lo : Int) : Rat)) (six (nI b s0 s1)) (six (nI (!b) s0 s1)) (cs.map six)), wD s0 s1 b lo hi, .list (cs.map pI)] = some (.bool true) := by
  have hk : Bz 14 (hi - lo) := hh.sub' hl
  have hs := nI_bp h0 h1 b
  have hz := nI_bp h0 h1 (!b)
  have hal := F_law_are_all_let_eq (b := b) (lo := lo) (hi := hi) g.bp h0 h1 hk (by have := g.l8; omega) (by decide)
  have hpk := pk_iff (cs := cs) (s := nI b s0 s1) (z := nI (!b) s0 s1) (k := hi - lo)
  unfold F_law_is_answer g_law_is_answer
  rcases pairS_len ((1 / 6 : Rat) * ((hi - lo : Int) : Rat)) (six (nI b s0 s1)) (six (nI (!b) s0 s1)) (cs.map six) with e | ⟨x, e⟩
  · rw [hpk.mpr e] at hal
    rw [e]
    simp only [runF, runJ, r0, outD, sSeq, sNil, sRet, sRetN, sPass, sIf, sSet, sOwn, sPar, sAsg, sApp, sExt, sEx, sFor, sFrz, sSetI, loopS, putR, Cv.sl, pNil, pD, pO, mVar, mOwn, mC, mBin, mUn, mTst, asB, mIf, mNot, mAnd, mOr, mAndV, mOrV, mNotV, mNil, mCons, mTup, mLst, mCh, mIsN, mNotN, isN, mL, mDisp, mCall, mSl, mOn, mOs, slD, mRow, rowD, sqD, mZip, mEnum, mLc, lcS, wipeR, mYes, mLc2E, lc2E, gNm, gTp, gsCons, gsNil, gTuple, gList, gAll, bools, fAdd, fSub, fCmp, fNeg, List.map, List.set, Option.bind_some, Option.map_some, Option.bind_none, Option.map_none, List.getElem?_cons_zero, List.getElem?_cons_succ, List.length_cons, List.length_nil, List.length_map, List.append_eq, List.nil_append, List.cons_append, List.replicate, Nat.reduceSub, Nat.reduceAdd, Nat.reduceLeDiff, Nat.reduceLT, lineN, Nat.zero_le, Nat.zero_add, reduceIte, if_true, if_false, Bool.false_eq_true, Bool.not_true, Bool.not_false, List.zipWith, List.zipIdx, List.zipIdx_cons, List.zipIdx_nil, ansD, hal]
  · have hn : pkB cs (nI b s0 s1) (nI (!b) s0 s1) (hi - lo) = false := by
      cases q : pkB cs (nI b s0 s1) (nI (!b) s0 s1) (hi - lo) with
      | false => rfl
      | true =>
        have := hpk.mp q
        rw [e] at this
        cases this
    rw [hn] at hal
    have hx := pairS_sz g hs hz hk e
    obtain ⟨hin, hov⟩ := pairS_sound g.inside e
    have hpl := F_law_is_place_eq hx (by decide)
    have hat := F_law_at_eq hx (by decide)
    have bx : Bz 503 (atD x).1.1 := (bz6.mul hx.x.1).mul (dn hx.y)
    have by_ : Bz 503 (atD x).1.2 := (bz6.mul hx.y.1).mul (dn hx.x)
    have bt : Bz 500 (atD x).2 := Bz.mul (dn hx.x) (dn hx.y)
    have tp := at_pos x
    have ac := at_cast x
    have tr : (0 : Rat) < ((atD x).2 : Int) := rpos.mpr tp
    generalize (atD x).2 = t at *
    obtain ⟨⟨X, Y⟩, hXY⟩ : ∃ q : PI, q = (atD x).1 := ⟨_, rfl⟩
    rw [← hXY] at ac bx by_ hat
    have hsc : ∀ c ∈ cs.map (tm t), BP 520 c := fun c hc => by
      obtain ⟨c, hc2, rfl⟩ := List.mem_map.mp hc
      exact ⟨((g.bp c hc2).x.mul bt).mono (by decide), ((g.bp c hc2).y.mul bt).mono (by decide)⟩
    have hin2 := F_law_is_in_eq (cs := cs.map (tm t)) (x := (X, Y)) hsc ⟨bx.mono (by decide), by_.mono (by decide)⟩ (by rw [List.length_map]; have := g.l8; omega) (by decide)
    have hib : inB (cs.map (tm t)) (X, Y) = true := by
      rw [inB_iff]
      have ee : EdI (cs.map (tm t)) = (EdI cs).map fun e => (tm t e.1, tm t e.2) := by
        unfold EdI
        rw [rot_map, List.zip_map]
        rfl
      rw [ee]
      intro e he
      obtain ⟨e, he2, rfl⟩ := List.mem_map.mp he
      have e1' : cE (tm t e.1, tm t e.2) = sce (t : Rat) (cE e) := by
        unfold cE
        simp only
        rw [tm_cast, tm_cast]
        rfl
      rw [e1', ac, hh_sc]
      have h6 := (in_sc (cs := cs) sixth six_eq (sc 6 x)).mp (by rw [sc_six]; exact hin) e he2
      exact Rat.mul_nonneg (Rat.le_of_lt (Rat.mul_pos tr tr)) h6
    rw [hib] at hin2
    have hm := lcS_map (t := gTp (gsCons (gNm 6) (gsCons (gNm 7) gsNil))) (c := mYes) (e := mTup (mCons (mBin fMul (mVar 6) (mVar 5)) (mCons (mBin fMul (mVar 7) (mVar 5)) mNil)))
      (r0 := wipeR [some (.d (ptD x)), some (.d (wD s0 s1 b lo hi)), some (.d (.list (cs.map pI))), some (.d (.int X)), some (.d (.int Y)), some (.d (.int t)), none, none] [6, 7]) (j := []) pI (fun c => pI (tm t c)) (L := cs) fun c hc => by
      have m1 := (g.bp c hc).x.ok bt (by decide)
      have m2 := (g.bp c hc).y.ok bt (by decide)
      refine ⟨_, rfl, rfl, ?_⟩
      simp only [runF, runJ, r0, outD, sSeq, sNil, sRet, sRetN, sPass, sIf, sSet, sOwn, sPar, sAsg, sApp, sExt, sEx, sFor, sFrz, sSetI, loopS, putR, Cv.sl, pNil, pD, pO, mVar, mOwn, mC, mBin, mUn, mTst, asB, mIf, mNot, mAnd, mOr, mAndV, mOrV, mNotV, mNil, mCons, mTup, mLst, mCh, mIsN, mNotN, isN, mL, mDisp, mCall, mSl, mOn, mOs, slD, mRow, rowD, sqD, mZip, mEnum, mLc, lcS, wipeR, mYes, mLc2E, lc2E, gNm, gTp, gsCons, gsNil, gTuple, gList, gAll, bools, fAdd, fSub, fCmp, fNeg, List.map, List.set, Option.bind_some, Option.map_some, Option.bind_none, Option.map_none, List.getElem?_cons_zero, List.getElem?_cons_succ, List.length_cons, List.length_nil, List.length_map, List.append_eq, List.nil_append, List.cons_append, List.replicate, Nat.reduceSub, Nat.reduceAdd, Nat.reduceLeDiff, Nat.reduceLT, lineN, Nat.zero_le, Nat.zero_add, reduceIte, if_true, if_false, Bool.false_eq_true, Bool.not_true, Bool.not_false, List.zipWith, List.zipIdx, List.zipIdx_cons, List.zipIdx_nil, fMul_ok m1, fMul_ok m2]
      rfl
    have emap : (cs.map fun c => pI (tm t c)) = (cs.map (tm t)).map pI := by
      rw [List.map_map]
      rfl
    rw [emap] at hm
    have hla := F_law_is_let_at_eq (b := b) (m := 520) (s0 := s0) (s1 := s1) (lo := lo) (hi := hi) (x := X) (y := Y) (t := t) ⟨h0.x.mono (by decide), h0.y.mono (by decide)⟩ ⟨h1.x.mono (by decide), h1.y.mono (by decide)⟩ (bx.mono (by decide)) (by_.mono (by decide)) (hl.mono (by decide)) (hh.mono (by decide)) (bt.mono (by decide)) (by decide)
    have hoo : oI (nI b (tm t s0) (tm t s1)) (nI (!b) (tm t s0) (tm t s1)) (hi * t - lo * t) X Y = true := by
      rw [oI_iff, nI_tm, nI_tm, tm_cast, tm_cast, ac]
      have ek : (((hi * t - lo * t : Int)) : Rat) = (t : Rat) * ((hi - lo : Int) : Rat) := by
        rw [cast_sub, cast_mul, cast_mul, cast_sub]
        grind
      rw [ek, OverP_sc tr]
      have := hov
      rw [← sc_six x, six_eq, six_eq, OverP_sc sixth] at this
      exact this
    rw [hoo] at hla
    rw [e]
    have row : rowD (.list (cs.map pI)) = some (cs.map pI) := rfl
    have eXY : pI (X, Y) = .tuple [.int X, .int Y] := rfl
    rw [eXY] at hin2
    simp only [runF, r0, outD, sSeq, sIf, sRet, sNil, sAsg, mNot, mTst, asB, mCall, mCons, mNil, mVar, mL, mLc, mRow, rowD, mTup, List.map, List.length_cons, List.length_nil, Nat.reduceSub, Nat.reduceAdd, Nat.reduceLeDiff, List.replicate, List.cons_append, List.nil_append, List.getElem?_cons_zero, List.getElem?_cons_succ, Option.bind_some, Option.map_some, ansD, hal, hpl, hat, Bool.false_eq_true, if_false, Bool.not_true, gTp, gsCons, gsNil, gNm, List.set, if_true]
    rw [hm]
    simp only [Option.bind_some, Option.map_some, hin2, Bool.not_true, Bool.false_eq_true, if_false, List.getElem?_cons_zero, List.getElem?_cons_succ, mNotV, mTst, asB, mCall, mCons, mNil, mVar, mTup, hla, List.length_cons, List.length_nil, Nat.reduceAdd, Nat.reduceLeDiff, if_true, Bool.not_false]
end
end K29
end
section
set_option Elab.async false
set_option linter.all false
set_option autoImplicit false
set_option maxRecDepth 100000
namespace K29
open PySem PySem.Spec PyProof.Rows L2 Ev Ar
def J3 (j : Jr) : Prop := j.length = 3
theorem j3 {j : Jr} (h : J3 j) : ∃ a b c, j = [a, b, c] := by
  match j, h with
  | [a, b, c], _ => exact ⟨a, b, c, rfl⟩
theorem jx {a b c : Int} : L2.atI [a, b, c] 0 = some a ∧ L2.atI [a, b, c] 1 = some b ∧ L2.atI [a, b, c] 2 = some c := ⟨rfl, rfl, rfl⟩
theorem fm {a : Int} {n : Int} (h : 0 < n) : 0 ≤ a.fmod n ∧ a.fmod n < n := by
  rw [Int.fmod_eq_emod_of_nonneg _ (by omega)]
  exact ⟨Int.emod_nonneg _ (by omega), Int.emod_lt_of_pos _ h⟩
theorem draw_eq {j : Jr} {n : Int} (hj : J3 j) (h1 : 1 ≤ n) (h2 : n ≤ 1000000) : ∃ v j', J_law_draw [.int n] j = some (.int v, j') ∧ J3 j' ∧ 0 ≤ v ∧ v < n := by
  obtain ⟨a, b, c, rfl⟩ := j3 hj
  by_cases ha : 0 < a
  · refine ⟨a % n, [a / n, b, c], ?_, rfl, Int.emod_nonneg _ (by omega), Int.emod_lt_of_pos _ (by omega)⟩
    have hd : gDivmod (.int a) (.int n) = some (.tuple [.int (a / n), .int (a % n)]) := if_pos ⟨by omega, by omega⟩
    unfold J_law_draw g_law_draw
    simp only [runF, runJ, r0, outD, sSeq, sNil, sRet, sRetN, sPass, sIf, sSet, sOwn, sPar, sAsg, sApp, sExt, sEx, sFor, sFrz, sSetI, loopS, putR, Cv.sl, pNil, pD, pO, mVar, mOwn, mC, mBin, mUn, mTst, asB, mIf, mNot, mAnd, mOr, mAndV, mOrV, mNotV, mNil, mCons, mTup, mLst, mCh, mIsN, mNotN, isN, mL, mDisp, mCall, mSl, mOn, mOs, slD, mRow, rowD, sqD, mZip, mEnum, mLc, lcS, wipeR, mYes, mLc2E, lc2E, gNm, gTp, gsCons, gsNil, gTuple, gList, gAll, bools, fAdd, fSub, fCmp, fNeg, List.map, List.set, Option.bind_some, Option.map_some, Option.bind_none, Option.map_none, List.getElem?_cons_zero, List.getElem?_cons_succ, List.length_cons, List.length_nil, List.length_map, List.append_eq, List.nil_append, List.cons_append, List.replicate, Nat.reduceSub, Nat.reduceAdd, Nat.reduceLeDiff, Nat.reduceLT, lineN, Nat.zero_le, Nat.zero_add, reduceIte, if_true, if_false, Bool.false_eq_true, Bool.not_true, Bool.not_false, List.zipWith, List.zipIdx, List.zipIdx_cons, List.zipIdx_nil, mJix, gJar, jx.1, jx.2.1, jx.2.2, ha, decide_true, hd, Nat.reduceLT]
  · have hs := fm (a := b * 48271 + 46337 * (c + 1) + 13) (n := 2147483423) (by decide)
    have m1 : mulOk b 48271 = true := mul_sm2 (by decide)
    have m2 : mulOk 46337 (c + 1) = true := mul_sm (by decide)
    have q1 : (2147483423 : Int) ≠ 0 := by decide
    have q2 : (7001 : Int) ≠ 0 := by decide
    have q3 : n ≠ 0 := by omega
    have d1 : divOk 907 = true := by decide
    have hs2 := fm (a := (b * 48271 + 46337 * (c + 1) + 13).fmod 2147483423) (n := 7001) (by decide)
    generalize hS : (b * 48271 + 46337 * (c + 1) + 13).fmod 2147483423 = S at *
    have m3 : mulOk S (S.fmod 7001 + 40013) = true := mul_sm2 (by omega)
    have hv := fm (a := (S * (S.fmod 7001 + 40013)).fdiv 907) (n := n) (by omega)
    refine ⟨((S * (S.fmod 7001 + 40013)).fdiv 907).fmod n, [a, S, c + 1], ?_, rfl, hv.1, hv.2⟩
    unfold J_law_draw g_law_draw
    simp only [runF, runJ, r0, outD, sSeq, sNil, sRet, sRetN, sPass, sIf, sSet, sOwn, sPar, sAsg, sApp, sExt, sEx, sFor, sFrz, sSetI, loopS, putR, Cv.sl, pNil, pD, pO, mVar, mOwn, mC, mBin, mUn, mTst, asB, mIf, mNot, mAnd, mOr, mAndV, mOrV, mNotV, mNil, mCons, mTup, mLst, mCh, mIsN, mNotN, isN, mL, mDisp, mCall, mSl, mOn, mOs, slD, mRow, rowD, sqD, mZip, mEnum, mLc, lcS, wipeR, mYes, mLc2E, lc2E, gNm, gTp, gsCons, gsNil, gTuple, gList, gAll, bools, fAdd, fSub, fCmp, fNeg, List.map, List.set, Option.bind_some, Option.map_some, Option.bind_none, Option.map_none, List.getElem?_cons_zero, List.getElem?_cons_succ, List.length_cons, List.length_nil, List.length_map, List.append_eq, List.nil_append, List.cons_append, List.replicate, Nat.reduceSub, Nat.reduceAdd, Nat.reduceLeDiff, Nat.reduceLT, lineN, Nat.zero_le, Nat.zero_add, reduceIte, if_true, if_false, Bool.false_eq_true, Bool.not_true, Bool.not_false, List.zipWith, List.zipIdx, List.zipIdx_cons, List.zipIdx_nil, mJix, gJar, jx.1, jx.2.1, jx.2.2, ha, decide_false, gInt_int, fMul_ok m1, fMul_ok m2, fMod_ok q1, fMod_ok q2, fMod_ok q3, hS, fMul_ok m3, fDiv_ok d1, Nat.reduceLT]
theorem pick_eq {j : Jr} {ds : List Dt} (hj : J3 j) (h1 : 1 ≤ ds.length) (h2 : ds.length ≤ 1000) : ∃ d j', J_law_pick [.tuple ds] j = some (d, j') ∧ J3 j' ∧ d ∈ ds := by
  obtain ⟨v, j', e, h3, v0, v1⟩ := draw_eq (n := ds.length) hj (by omega) (by omega)
  have hl : v.toNat < ds.length := by omega
  refine ⟨ds[v.toNat], j', ?_, h3, List.getElem_mem hl⟩
  have ei : fIx (.tuple ds) (.int v) = some ds[v.toNat] := by
    show L2.atI ds v = _
    unfold L2.atI ixN
    rw [if_pos v0, if_pos v1]
    simp [hl]
  have el : gLen (.tuple ds) = some (.int ds.length) := rfl
  unfold J_law_pick g_law_pick
  simp only [runF, runJ, r0, outD, sSeq, sNil, sRet, sRetN, sPass, sIf, sSet, sOwn, sPar, sAsg, sApp, sExt, sEx, sFor, sFrz, sSetI, loopS, putR, Cv.sl, pNil, pD, pO, mVar, mOwn, mC, mBin, mUn, mTst, asB, mIf, mNot, mAnd, mOr, mAndV, mOrV, mNotV, mNil, mCons, mTup, mLst, mCh, mIsN, mNotN, isN, mL, mDisp, mCall, mSl, mOn, mOs, slD, mRow, rowD, sqD, mZip, mEnum, mLc, lcS, wipeR, mYes, mLc2E, lc2E, gNm, gTp, gsCons, gsNil, gTuple, gList, gAll, bools, fAdd, fSub, fCmp, fNeg, List.map, List.set, Option.bind_some, Option.map_some, Option.bind_none, Option.map_none, List.getElem?_cons_zero, List.getElem?_cons_succ, List.length_cons, List.length_nil, List.length_map, List.append_eq, List.nil_append, List.cons_append, List.replicate, Nat.reduceSub, Nat.reduceAdd, Nat.reduceLeDiff, Nat.reduceLT, lineN, Nat.zero_le, Nat.zero_add, reduceIte, if_true, if_false, Bool.false_eq_true, Bool.not_true, Bool.not_false, List.zipWith, List.zipIdx, List.zipIdx_cons, List.zipIdx_nil, mCallJ, el, e, ei]
theorem pick6 {j : Jr} (hj : J3 j) : ∃ v j', J_law_pick [.tuple [.int 0, .int 1, .int 1, .int 2, .int 5, .int 0]] j = some (.int v, j') ∧ J3 j' ∧ 0 ≤ v ∧ v ≤ 5 := by
  obtain ⟨d, j', e, h3, hm⟩ := pick_eq (ds := [.int 0, .int 1, .int 1, .int 2, .int 5, .int 0]) hj (by decide) (by decide)
  simp only [List.mem_cons, List.not_mem_nil, or_false] at hm
  rcases hm with rfl | rfl | rfl | rfl | rfl | rfl
  · exact ⟨0, j', e, h3, by decide, by decide⟩
  · exact ⟨1, j', e, h3, by decide, by decide⟩
  · exact ⟨1, j', e, h3, by decide, by decide⟩
  · exact ⟨2, j', e, h3, by decide, by decide⟩
  · exact ⟨5, j', e, h3, by decide, by decide⟩
  · exact ⟨0, j', e, h3, by decide, by decide⟩
/-! ### points within -/
def wS : List (Int × PI) → Int
  | [] => 0
  | a :: r => a.1 + wS r
def xS : List (Int × PI) → Int
  | [] => 0
  | a :: r => a.1 * a.2.1 + xS r
def yS : List (Int × PI) → Int
  | [] => 0
  | a :: r => a.1 * a.2.2 + yS r
theorem inner_loop {cs0 : List PI} : ∀ (cs : List PI) (ws : List Int) (x y : Int) (a b : Option Sl) (j : Jr), J3 j → (∀ c ∈ cs, BP 14 c) → cs.length + ws.length ≤ 1000 →
    ∃ (W : List (Int × PI)) (a' b' : Option Sl) (j' : Jr), J3 j' ∧ W.map (·.2) = cs ∧ (∀ w ∈ W, 0 ≤ w.1 ∧ w.1 ≤ 5) ∧
      loopS (gNm 5) (sSeq (sSet 6 (mCallJ 0 J_law_pick (mCons (mTup (mCons (mC (.int 0)) (mCons (mC (.int 1)) (mCons (mC (.int 1)) (mCons (mC (.int 2)) (mCons (mC (.int 5)) (mCons (mC (.int 0)) mNil))))))) mNil))) (sSeq (sApp 2 (mVar 6)) (sPar [3, 4] (pD (mBin fAdd (mVar 3) (mBin fMul (mVar 6) (mBin fIx (mVar 5) (mC (.int 0))))) (pD (mBin fAdd (mVar 4) (mBin fMul (mVar 6) (mBin fIx (mVar 5) (mC (.int 1))))) pNil))))) (cs.map pI)
        [some .jar, some (.d (.list (cs0.map pI))), some (.own (ws.map .int)), some (.d (.int x)), some (.d (.int y)), a, b, none] j =
      some (.nx, [some .jar, some (.d (.list (cs0.map pI))), some (.own ((ws ++ W.map (·.1)).map .int)), some (.d (.int (x + xS W))), some (.d (.int (y + yS W))), a', b', none], j')
  | [], ws, x, y, a, b, j, hj, _, _ => ⟨[], a, b, j, hj, rfl, (fun w h => nomatch h), by simp [loopS, xS, yS]⟩
  | c :: cs, ws, x, y, a, b, j, hj, hc, hl => by
    obtain ⟨v, j1, e, h3, v0, v5⟩ := pick6 hj
    have m1 : mulOk v c.1 = true := mul_sm (by omega)
    have m2 : mulOk v c.2 = true := mul_sm (by omega)
    obtain ⟨W, a', b', j', h3', hW, hw, ih⟩ := inner_loop (cs0 := cs0) cs (ws ++ [v]) (x + v * c.1) (y + v * c.2) (some (.d (pI c))) (some (.d (.int v))) j1 h3 (fun d hd => hc d (List.mem_cons_of_mem _ hd)) (by simp at hl ⊢; omega)
    refine ⟨(v, c) :: W, a', b', j', h3', by simp [hW], fun w hw' => ?_, ?_⟩
    · rcases List.mem_cons.mp hw' with rfl | h
      · exact ⟨v0, v5⟩
      · exact hw w h
    · have i0 : fIx (pI c) (.int 0) = some (.int c.1) := rfl
      have i1 : fIx (pI c) (.int 1) = some (.int c.2) := rfl
      have hlen : ws.length < 16777216 := by
        simp at hl
        omega
      have ea : (ws ++ [v]).map PyData.int = ws.map PyData.int ++ [.int v] := by simp
      rw [ea] at ih
      have er : ((ws ++ ((v, c) :: W).map (·.1)).map PyData.int) = ((ws ++ [v]) ++ W.map (·.1)).map PyData.int := by simp
      have ex : x + xS ((v, c) :: W) = x + v * c.1 + xS W := by simp only [xS]; omega
      have ey : y + yS ((v, c) :: W) = y + v * c.2 + yS W := by simp only [yS]; omega
      rw [List.map_cons, er, ex, ey, ← ih]
      simp only [runF, runJ, r0, outD, sSeq, sNil, sRet, sRetN, sPass, sIf, sSet, sOwn, sPar, sAsg, sApp, sExt, sEx, sFor, sFrz, sSetI, loopS, putR, Cv.sl, pNil, pD, pO, mVar, mOwn, mC, mBin, mUn, mTst, asB, mIf, mNot, mAnd, mOr, mAndV, mOrV, mNotV, mNil, mCons, mTup, mLst, mCh, mIsN, mNotN, isN, mL, mDisp, mCall, mSl, mOn, mOs, slD, mRow, rowD, sqD, mZip, mEnum, mLc, lcS, wipeR, mYes, mLc2E, lc2E, gNm, gTp, gsCons, gsNil, gTuple, gList, gAll, bools, fAdd, fSub, fCmp, fNeg, List.map, List.set, Option.bind_some, Option.map_some, Option.bind_none, Option.map_none, List.getElem?_cons_zero, List.getElem?_cons_succ, List.length_cons, List.length_nil, List.length_map, List.append_eq, List.nil_append, List.cons_append, List.replicate, Nat.reduceSub, Nat.reduceAdd, Nat.reduceLeDiff, Nat.reduceLT, lineN, Nat.zero_le, Nat.zero_add, reduceIte, if_true, if_false, Bool.false_eq_true, Bool.not_true, Bool.not_false, List.zipWith, List.zipIdx, List.zipIdx_cons, List.zipIdx_nil, mCallJ, e, i0, i1, fMul_ok m1, fMul_ok m2, hlen]
theorem sum_ints : ∀ (W : List (Int × PI)), asInts (W.map fun w => PyData.int w.1) = some (W.map (·.1))
  | [] => rfl
  | w :: W => by simp only [List.map_cons, asInts, sum_ints W, Option.map_some]
end K29
end
section
set_option Elab.async false
set_option linter.all false
set_option autoImplicit false
set_option maxRecDepth 100000
namespace K29
open PySem PySem.Spec PyProof.Rows L2 Ev Ar
theorem asInts_map : ∀ ns : List Int, asInts (ns.map PyData.int) = some ns
  | [] => rfl
  | n :: ns => by simp only [List.map_cons, asInts, asInts_map ns, Option.map_some]
theorem sum_wS : ∀ W : List (Int × PI), (W.map (·.1)).sum = wS W
  | [] => rfl
  | w :: W => by simp only [List.map_cons, List.sum_cons, sum_wS W, wS]
theorem inner_eq {cs : List PI} {j : Jr} (hj : J3 j) (hc : ∀ c ∈ cs, BP 14 c) (h1 : 1 ≤ cs.length) (hl : cs.length ≤ 8) :
    ∃ W j', J_law_inner [.list (cs.map pI)] j = some (.tuple [.int (xS W), .int (yS W), .int (wS W)], j') ∧ J3 j' ∧ 0 < wS W ∧ W.length ≤ 8 ∧ ∀ w ∈ W, (0 ≤ w.1 ∧ w.1 ≤ 5) ∧ w.2 ∈ cs := by
  obtain ⟨W, a', b', j', h3, hW, hw, e⟩ := inner_loop (cs0 := cs) cs [] 0 0 none none j hj hc (by simp; omega)
  have hs : gSum (.list ((W.map (·.1)).map PyData.int)) = some (.int (wS W)) := by
    unfold gSum
    simp only [asInts_map, Option.map_some, sum_wS]
  have e' := e
  simp only [List.map_nil, List.nil_append, Int.zero_add] at e'
  have hmem : ∀ w ∈ W, w.2 ∈ cs := fun w h => by
    rw [← hW]
    exact List.mem_map.mpr ⟨w, h, rfl⟩
  have hlen : W.length ≤ 8 := by
    have : (W.map (·.2)).length = cs.length := by rw [hW]
    rw [List.length_map] at this
    omega
  have run : ∀ (P : Option (Dt × Jr)), outD ((sFrz 2 (sSeq (sSet 7 (mUn gSum (mVar 2))) (sRet (mIf (mTst (mBin fGt (mVar 7) (mC (.int 0)))) (mTup (mCons (mVar 3) (mCons (mVar 4) (mCons (mVar 7) mNil)))) (mTup (mCons (mBin fIx (mBin fIx (mVar 1) (mC (.int 0))) (mC (.int 0))) (mCons (mBin fIx (mBin fIx (mVar 1) (mC (.int 0))) (mC (.int 1))) (mCons (mC (.int 1)) mNil))))))))
      [some .jar, some (.d (.list (cs.map pI))), some (.own ((W.map (·.1)).map PyData.int)), some (.d (.int (xS W))), some (.d (.int (yS W))), a', b', none] j') = P → J_law_inner [.list (cs.map pI)] j = P := by
    intro P hP
    rw [← hP]
    unfold J_law_inner g_law_inner
    simp only [runJ, r0, List.map, List.length_cons, List.length_nil, Nat.reduceSub, List.replicate, List.cons_append, List.nil_append, sSeq, sPar, pO, pD, pNil, mDisp, mNil, mC, putR, Cv.sl, List.set, Option.bind_some, Option.map_some, Nat.zero_le, if_true, Nat.reduceAdd, Nat.zero_add, sFor, mRow, mVar, rowD, List.getElem?_cons_zero, List.getElem?_cons_succ]
    rw [e']
    rfl
  by_cases hp : 0 < wS W
  · refine ⟨W, j', ?_, h3, hp, hlen, fun w h => ⟨hw w h, hmem w h⟩⟩
    apply run
    simp only [sFrz, runF, runJ, r0, outD, sSeq, sNil, sRet, sRetN, sPass, sIf, sSet, sOwn, sPar, sAsg, sApp, sExt, sEx, sFor, sFrz, sSetI, loopS, putR, Cv.sl, pNil, pD, pO, mVar, mOwn, mC, mBin, mUn, mTst, asB, mIf, mNot, mAnd, mOr, mAndV, mOrV, mNotV, mNil, mCons, mTup, mLst, mCh, mIsN, mNotN, isN, mL, mDisp, mCall, mSl, mOn, mOs, slD, mRow, rowD, sqD, mZip, mEnum, mLc, lcS, wipeR, mYes, mLc2E, lc2E, gNm, gTp, gsCons, gsNil, gTuple, gList, gAll, bools, fAdd, fSub, fCmp, fNeg, List.map, List.set, Option.bind_some, Option.map_some, Option.bind_none, Option.map_none, List.getElem?_cons_zero, List.getElem?_cons_succ, List.length_cons, List.length_nil, List.length_map, List.append_eq, List.nil_append, List.cons_append, List.replicate, Nat.reduceSub, Nat.reduceAdd, Nat.reduceLeDiff, Nat.reduceLT, lineN, Nat.zero_le, Nat.zero_add, reduceIte, if_true, if_false, Bool.false_eq_true, Bool.not_true, Bool.not_false, List.zipWith, List.zipIdx, List.zipIdx_cons, List.zipIdx_nil, hs, hp, decide_true]
  · obtain ⟨c, r, rfl⟩ : ∃ c r, cs = c :: r := by
      cases cs with
      | nil => simp at h1
      | cons c r => exact ⟨c, r, rfl⟩
    refine ⟨[(1, c)], j', ?_, h3, (show (0 : Int) < 1 + 0 by decide), by simp, fun w h => ?_⟩
    · apply run
      have i0 : fIx (.list ((c :: r).map pI)) (.int 0) = some (pI c) := by
        have q := fIx_at (cs := c :: r) (i := 0) (by simp)
        exact q
      have i1 : fIx (pI c) (.int 0) = some (.int c.1) := rfl
      have i2 : fIx (pI c) (.int 1) = some (.int c.2) := rfl
      have z1 : xS [(1, c)] = c.1 := by simp [xS]
      have z2 : yS [(1, c)] = c.2 := by simp [yS]
      rw [z1, z2]
      simp only [List.map_cons] at i0 hs ⊢
      simp only [sFrz, mUn, mTup, mVar, mBin, mC, mIf, mTst, asB, mCons, mNil, sSeq, sSet, sRet, fCmp, List.set, List.getElem?_cons_zero, List.getElem?_cons_succ, Option.bind_some, Option.map_some, hs, hp, decide_false, Bool.false_eq_true, if_false, i0, i1, i2, List.length_cons, List.length_nil, Nat.reduceAdd, Nat.reduceLeDiff, if_true, outD]
      rfl
    · simp only [List.mem_cons, List.not_mem_nil, or_false] at h
      subst h
      exact ⟨⟨(show (0 : Int) ≤ 1 by decide), (show (1 : Int) ≤ 5 by decide)⟩, List.mem_cons_self⟩
def rW (W : List (Int × PI)) : List (Rat × Pt) := W.map fun w => ((w.1 : Rat), six w.2)
theorem rW_w : ∀ W, sW (rW W) = (wS W : Int)
  | [] => rfl
  | w :: W => by
    have ih := rW_w W
    unfold rW at ih ⊢
    simp only [List.map_cons, sW, wS, cast_add, ih]
theorem rW_x : ∀ W, sX (rW W) = 1 / 6 * (xS W : Int)
  | [] => by
    have : ((0 : Int) : Rat) = 0 := rfl
    simp [rW, sX, xS, this]
  | w :: W => by
    have ih := rW_x W
    unfold rW at ih ⊢
    simp only [List.map_cons, sX, xS, cast_add, cast_mul, ih]
    rw [six_eq]
    unfold sc cI
    grind
theorem rW_y : ∀ W, sY (rW W) = 1 / 6 * (yS W : Int)
  | [] => by
    have : ((0 : Int) : Rat) = 0 := rfl
    simp [rW, sY, yS, this]
  | w :: W => by
    have ih := rW_y W
    unfold rW at ih ⊢
    simp only [List.map_cons, sY, yS, cast_add, cast_mul, ih]
    rw [six_eq]
    unfold sc cI
    grind
theorem w_bd : ∀ W : List (Int × PI), (∀ w ∈ W, (0 ≤ w.1 ∧ w.1 ≤ 5) ∧ BP 14 w.2) → (xS W).natAbs ≤ W.length * 81920 ∧ (yS W).natAbs ≤ W.length * 81920 ∧ 0 ≤ wS W ∧ wS W ≤ W.length * 5
  | [], _ => by simp [xS, yS, wS]
  | w :: W, h => by
    obtain ⟨i1, i2, i3, i4⟩ := w_bd W fun v hv => h v (List.mem_cons_of_mem _ hv)
    obtain ⟨⟨a1, a2⟩, bx, by_⟩ := h w List.mem_cons_self
    have bx' : w.2.1.natAbs < 16384 := bx
    have by' : w.2.2.natAbs < 16384 := by_
    have m1 : (w.1 * w.2.1).natAbs ≤ 5 * 16384 := by
      rw [Int.natAbs_mul]
      exact Nat.mul_le_mul (by omega) (by omega)
    have m2 : (w.1 * w.2.2).natAbs ≤ 5 * 16384 := by
      rw [Int.natAbs_mul]
      exact Nat.mul_le_mul (by omega) (by omega)
    simp only [xS, yS, wS, List.length_cons]
    refine ⟨?_, ?_, by omega, ?_⟩
    · have := Int.natAbs_add_le (w.1 * w.2.1) (xS W)
      omega
    · have := Int.natAbs_add_le (w.1 * w.2.2) (yS W)
      omega
    · omega
/-- nobody between the corners is refused where nothing was found -/
theorem inner_let {cs : List PI} {s0 s1 : PI} {lo hi : Int} {b : Bool} (g : GoodP cs) (h0 : BP 14 s0) (h1 : BP 14 s1) (hl : Bz 13 lo) (hh : Bz 13 hi)
    (he : pairS ((1 / 6 : Rat) * ((hi - lo : Int) : Rat)) (six (nI b s0 s1)) (six (nI (!b) s0 s1)) (cs.map six) = []) {W : List (Int × PI)} (hp : 0 < wS W) (hW : W.length ≤ 8) (hw : ∀ w ∈ W, (0 ≤ w.1 ∧ w.1 ≤ 5) ∧ w.2 ∈ cs) :
    F_law_is_let_at [wD s0 s1 b lo hi, .tuple [.int (xS W), .int (yS W), .int (wS W)]] = some (.bool true) := by
  obtain ⟨b1, b2, b3, b4⟩ := w_bd W fun w h => ⟨(hw w h).1, g.bp _ (hw w h).2⟩
  have bx : Bz 30 (xS W) := show _ < 1073741824 by omega
  have by_ : Bz 30 (yS W) := show _ < 1073741824 by omega
  have bw : Bz 30 (wS W) := show _ < 1073741824 by omega
  have hla := F_law_is_let_at_eq (b := b) (m := 30) (s0 := s0) (s1 := s1) (lo := lo) (hi := hi) (x := xS W) (y := yS W) (t := wS W) ⟨h0.x.mono (by decide), h0.y.mono (by decide)⟩ ⟨h1.x.mono (by decide), h1.y.mono (by decide)⟩ bx by_ (hl.mono (by decide)) (hh.mono (by decide)) bw (by decide)
  have tr : (0 : Rat) < (wS W : Int) := rpos.mpr hp
  have hno : oI (nI b (tm (wS W) s0) (tm (wS W) s1)) (nI (!b) (tm (wS W) s0) (tm (wS W) s1)) (hi * wS W - lo * wS W) (xS W) (yS W) = false := by
    rw [← Bool.not_eq_true, oI_iff, nI_tm, nI_tm, tm_cast, tm_cast]
    have ek : (((hi * wS W - lo * wS W : Int)) : Rat) = (wS W : Rat) * ((hi - lo : Int) : Rat) := by
      rw [cast_sub, cast_mul, cast_mul, cast_sub]
      grind
    rw [ek]
    have hnn := pairS_none (x := sc (1 / 6) (sc ((wS W : Rat)⁻¹) (cI (xS W, yS W)))) g.rnd g.inside he (W := rW W) (fun a ha => by
      unfold rW at ha
      obtain ⟨w, hw2, rfl⟩ := List.mem_map.mp ha
      exact ⟨icast0.mp (hw w hw2).1.1, List.mem_map.mpr ⟨_, (hw w hw2).2, rfl⟩⟩) (by rw [rW_w]; exact tr) (by
        rw [rW_w, rW_x]
        unfold sc cI
        grind) (by
        rw [rW_w, rW_y]
        unfold sc cI
        grind)
    intro o
    apply hnn
    rw [six_eq, six_eq, OverP_sc sixth, ← OverP_sc tr]
    have eb : sc (wS W : Rat) (sc ((wS W : Rat)⁻¹) (cI (xS W, yS W))) = cI (xS W, yS W) := by
      unfold sc
      ext <;> simp only <;> grind
    rw [eb]
    exact o
  rw [hno] at hla
  exact hla
/-! ### turned, sized -/
def trn (p : PI) : Nat → PI
  | 0 => p
  | n + 1 => trn (0 - p.2, p.1) n
theorem turned_eq (p : PI) (w : Nat) (hw : w < 4) : F_law_turned [.int w, pI p] = some (pI (trn p w)) := by
  match w, hw with
  | 0, _ => kernel_rfl
  | 1, _ => kernel_rfl
  | 2, _ => kernel_rfl
  | 3, _ => kernel_rfl
end K29
end
section
set_option Elab.async false
set_option linter.all false
set_option autoImplicit false
set_option maxRecDepth 100000
namespace K29
open PySem PySem.Spec PyProof.Rows L2 Ev Ar
/-! ### the law's polygons -/
def stI (e : PI × PI) : PI := (e.2.1 - e.1.1, e.2.2 - e.1.2)
def SsI (cs : List PI) : List PI := (EdI cs).map stI
def crI (p q : PI) : Int := p.1 * q.2 - p.2 * q.1
def upI (p : PI) : Bool := decide (0 < p.2) || (decide (p.2 = 0) && decide (0 < p.1))
def okB (cs : List PI) : Bool :=
  (decide (3 ≤ cs.length) && decide (cs.length ≤ 8)) && (cs.all (fun c => decide (c.1.natAbs < 16000) && decide (c.2.natAbs < 16000)) &&
    ((EdI (SsI cs)).all (fun e => decide (0 < crI e.1 e.2)) && (decide (((EdI (SsI cs)).filter fun e => !upI e.1 && upI e.2).length = 1) && cs.all fun c => (EdI cs).all fun e => decide (0 ≤ hI e c))))
def tr (e n : Int) (p : PI) : PI := (p.1 + e, p.2 + n)
theorem EdI_map (f : PI → PI) (cs : List PI) : EdI (cs.map f) = (EdI cs).map fun e => (f e.1, f e.2) := by
  unfold EdI
  rw [rot_map, List.zip_map]
  rfl
theorem SsI_tr (e n : Int) (cs : List PI) : SsI (cs.map (tr e n)) = SsI cs := by
  unfold SsI
  rw [EdI_map, List.map_map]
  refine List.map_congr_left fun d _ => ?_
  unfold stI tr
  ext <;> simp <;> omega
theorem hI_tr (e n : Int) (d : PI × PI) (x : PI) : hI (tr e n d.1, tr e n d.2) (tr e n x) = hI d x := by
  unfold hI tr
  simp only
  have a1 : d.2.1 + e - (d.1.1 + e) = d.2.1 - d.1.1 := by omega
  have a2 : x.2 + n - (d.1.2 + n) = x.2 - d.1.2 := by omega
  have a3 : d.2.2 + n - (d.1.2 + n) = d.2.2 - d.1.2 := by omega
  have a4 : x.1 + e - (d.1.1 + e) = x.1 - d.1.1 := by omega
  rw [a1, a2, a3, a4]
theorem Ss_six (cs : List PI) : Ss (cs.map six) = (SsI cs).map six := by
  unfold Ss SsI
  rw [Ed_map, List.map_map, List.map_map]
  refine List.map_congr_left fun d _ => ?_
  show stp (six d.1, six d.2) = six (stI d)
  rw [six_eq, six_eq, six_eq]
  unfold stp Ar.sub sc cI stI
  simp only [cast_sub]
  ext <;> simp only <;> grind
theorem cr_six (p q : PI) : 0 < cr (six p) (six q) ↔ 0 < crI p q := by
  have e : cr (six p) (six q) = 1 / 36 * ((crI p q : Int) : Rat) := by
    rw [six_eq, six_eq]
    unfold cr sc cI crI
    simp only [cast_sub, cast_mul]
    grind
  rw [e, ← rpos (i := crI p q), pos_mul (by grind)]
theorem up_six (p : PI) : upB (six p) = upI p := by
  have h1 : (0 < (six p).2) ↔ 0 < p.2 := by
    rw [six_eq]
    unfold sc cI
    simp only
    rw [pos_mul sixth, rpos]
  have h2 : (0 < (six p).1) ↔ 0 < p.1 := by
    rw [six_eq]
    unfold sc cI
    simp only
    rw [pos_mul sixth, rpos]
  have h3 : (six p).2 = 0 ↔ p.2 = 0 := by
    rw [← rzero (i := p.2), six_eq]
    unfold sc cI
    simp only
    constructor <;> intro h <;> grind
  unfold upB upI
  simp only [h1, h2, h3]
theorem good_of {cs : List PI} (h : okB cs = true) {e n : Int} (he : 0 ≤ e ∧ e ≤ 31) (hn : 0 ≤ n ∧ n ≤ 31) : GoodP (cs.map (tr e n)) := by
  unfold okB at h
  simp only [Bool.and_eq_true, decide_eq_true_eq, List.all_eq_true] at h
  obtain ⟨⟨l3, l8⟩, hb, ht, ho, hi⟩ := h
  refine ⟨fun c hc => ?_, by rw [List.length_map]; exact l3, by rw [List.length_map]; exact l8, ⟨fun d hd => ?_, ?_⟩, fun c hc d hd => ?_⟩
  · obtain ⟨c, hc2, rfl⟩ := List.mem_map.mp hc
    obtain ⟨b1, b2⟩ := hb c hc2
    refine ⟨show _ < 16384 from ?_, show _ < 16384 from ?_⟩
    · unfold tr
      simp only
      omega
    · unfold tr
      simp only
      omega
  · rw [Ss_six, SsI_tr, Ed_map] at hd
    obtain ⟨d, hd2, rfl⟩ := List.mem_map.mp hd
    exact (cr_six _ _).mpr (ht d hd2)
  · rw [Ss_six, SsI_tr, Ed_map, List.filter_map, List.length_map, ← ho]
    congr 2
    funext d
    simp only [Function.comp, up_six]
  · obtain ⟨c, hc2, rfl⟩ := List.mem_map.mp hc
    rw [EdI_map] at hd
    obtain ⟨d, hd2, rfl⟩ := List.mem_map.mp hd
    rw [hI_tr]
    exact hi c hc2 d hd2
/-- h, a, b, near, wide -/
abbrev Cs := Int × Int × Int × Int × Int
def szd (h d : Int) : PI := ((h * h / d - d) / 2, (h * h / d + d) / 2)
def mkC (h d d' : Int) : Cs := (h, (szd h d').1, (szd h d).1, (szd h d').2, (szd h d).2)
def tbl : List Cs := [mkC 12 2 4, mkC 12 4 6, mkC 12 6 8, mkC 24 2 4, mkC 24 4 6, mkC 24 6 8, mkC 24 8 12, mkC 24 12 16, mkC 24 16 18, mkC 8 2 4]
def shp (a b h : Int) : List (List PI) :=
  [[(a, -h), (b, -h), (b, h), (a, h)], [(a, -h), (a + b + 16, 0), (a, h)], [(b, h), (a, h), ((a + b) / 2, 0)], [(a, -h), (b, -h), (a + b + 6, 0), (b, h), (a, h)], [(b, -h), (a + b, 0), (b, h)],
   [((a + b) / 2 - 1, 0), ((a + b) / 2 + 1, -1), (b, h)], [(b, -h), (a + b + 2, -1), (a + b + 2, 1), (b, h)]]
def lay (t : Int) (w : Nat) (cs : List PI) : List PI := cs.map fun p => (t * (trn p w).1, t * (trn p w).2)
def bump (i : Nat) (u v : Int) (cs : List PI) : List PI := cs.set i ((atL cs i).1 + u - 1, (atL cs i).2 + v - 1)
def okC (c : Cs) (t : Int) (w : Nat) : Bool := (shp c.2.1 c.2.2.1 c.1).all fun cs =>
  okB (lay t w cs) && (List.range cs.length).all fun i => [(0 : Int), 1, 2].all fun u => [(0 : Int), 1, 2].all fun v => okB (bump i u v (lay t w cs))
theorem ok_0_6_0 : okC (mkC 12 2 4) 6 0 = true := by decide +kernel
theorem ok_0_6_1 : okC (mkC 12 2 4) 6 1 = true := by decide +kernel
theorem ok_0_6_2 : okC (mkC 12 2 4) 6 2 = true := by decide +kernel
theorem ok_0_6_3 : okC (mkC 12 2 4) 6 3 = true := by decide +kernel
theorem ok_0_12_0 : okC (mkC 12 2 4) 12 0 = true := by decide +kernel
theorem ok_0_12_1 : okC (mkC 12 2 4) 12 1 = true := by decide +kernel
theorem ok_0_12_2 : okC (mkC 12 2 4) 12 2 = true := by decide +kernel
theorem ok_0_12_3 : okC (mkC 12 2 4) 12 3 = true := by decide +kernel
theorem ok_1_6_0 : okC (mkC 12 4 6) 6 0 = true := by decide +kernel
theorem ok_1_6_1 : okC (mkC 12 4 6) 6 1 = true := by decide +kernel
theorem ok_1_6_2 : okC (mkC 12 4 6) 6 2 = true := by decide +kernel
theorem ok_1_6_3 : okC (mkC 12 4 6) 6 3 = true := by decide +kernel
theorem ok_1_12_0 : okC (mkC 12 4 6) 12 0 = true := by decide +kernel
theorem ok_1_12_1 : okC (mkC 12 4 6) 12 1 = true := by decide +kernel
theorem ok_1_12_2 : okC (mkC 12 4 6) 12 2 = true := by decide +kernel
theorem ok_1_12_3 : okC (mkC 12 4 6) 12 3 = true := by decide +kernel
theorem ok_2_6_0 : okC (mkC 12 6 8) 6 0 = true := by decide +kernel
theorem ok_2_6_1 : okC (mkC 12 6 8) 6 1 = true := by decide +kernel
theorem ok_2_6_2 : okC (mkC 12 6 8) 6 2 = true := by decide +kernel
theorem ok_2_6_3 : okC (mkC 12 6 8) 6 3 = true := by decide +kernel
theorem ok_2_12_0 : okC (mkC 12 6 8) 12 0 = true := by decide +kernel
theorem ok_2_12_1 : okC (mkC 12 6 8) 12 1 = true := by decide +kernel
theorem ok_2_12_2 : okC (mkC 12 6 8) 12 2 = true := by decide +kernel
theorem ok_2_12_3 : okC (mkC 12 6 8) 12 3 = true := by decide +kernel
theorem ok_3_6_0 : okC (mkC 24 2 4) 6 0 = true := by decide +kernel
theorem ok_3_6_1 : okC (mkC 24 2 4) 6 1 = true := by decide +kernel
theorem ok_3_6_2 : okC (mkC 24 2 4) 6 2 = true := by decide +kernel
theorem ok_3_6_3 : okC (mkC 24 2 4) 6 3 = true := by decide +kernel
theorem ok_3_12_0 : okC (mkC 24 2 4) 12 0 = true := by decide +kernel
theorem ok_3_12_1 : okC (mkC 24 2 4) 12 1 = true := by decide +kernel
theorem ok_3_12_2 : okC (mkC 24 2 4) 12 2 = true := by decide +kernel
theorem ok_3_12_3 : okC (mkC 24 2 4) 12 3 = true := by decide +kernel
theorem ok_4_6_0 : okC (mkC 24 4 6) 6 0 = true := by decide +kernel
theorem ok_4_6_1 : okC (mkC 24 4 6) 6 1 = true := by decide +kernel
theorem ok_4_6_2 : okC (mkC 24 4 6) 6 2 = true := by decide +kernel
theorem ok_4_6_3 : okC (mkC 24 4 6) 6 3 = true := by decide +kernel
theorem ok_4_12_0 : okC (mkC 24 4 6) 12 0 = true := by decide +kernel
theorem ok_4_12_1 : okC (mkC 24 4 6) 12 1 = true := by decide +kernel
theorem ok_4_12_2 : okC (mkC 24 4 6) 12 2 = true := by decide +kernel
theorem ok_4_12_3 : okC (mkC 24 4 6) 12 3 = true := by decide +kernel
theorem ok_5_6_0 : okC (mkC 24 6 8) 6 0 = true := by decide +kernel
theorem ok_5_6_1 : okC (mkC 24 6 8) 6 1 = true := by decide +kernel
theorem ok_5_6_2 : okC (mkC 24 6 8) 6 2 = true := by decide +kernel
theorem ok_5_6_3 : okC (mkC 24 6 8) 6 3 = true := by decide +kernel
theorem ok_5_12_0 : okC (mkC 24 6 8) 12 0 = true := by decide +kernel
theorem ok_5_12_1 : okC (mkC 24 6 8) 12 1 = true := by decide +kernel
theorem ok_5_12_2 : okC (mkC 24 6 8) 12 2 = true := by decide +kernel
theorem ok_5_12_3 : okC (mkC 24 6 8) 12 3 = true := by decide +kernel
theorem ok_6_6_0 : okC (mkC 24 8 12) 6 0 = true := by decide +kernel
theorem ok_6_6_1 : okC (mkC 24 8 12) 6 1 = true := by decide +kernel
theorem ok_6_6_2 : okC (mkC 24 8 12) 6 2 = true := by decide +kernel
theorem ok_6_6_3 : okC (mkC 24 8 12) 6 3 = true := by decide +kernel
theorem ok_6_12_0 : okC (mkC 24 8 12) 12 0 = true := by decide +kernel
theorem ok_6_12_1 : okC (mkC 24 8 12) 12 1 = true := by decide +kernel
theorem ok_6_12_2 : okC (mkC 24 8 12) 12 2 = true := by decide +kernel
theorem ok_6_12_3 : okC (mkC 24 8 12) 12 3 = true := by decide +kernel
theorem ok_7_6_0 : okC (mkC 24 12 16) 6 0 = true := by decide +kernel
theorem ok_7_6_1 : okC (mkC 24 12 16) 6 1 = true := by decide +kernel
theorem ok_7_6_2 : okC (mkC 24 12 16) 6 2 = true := by decide +kernel
theorem ok_7_6_3 : okC (mkC 24 12 16) 6 3 = true := by decide +kernel
theorem ok_7_12_0 : okC (mkC 24 12 16) 12 0 = true := by decide +kernel
theorem ok_7_12_1 : okC (mkC 24 12 16) 12 1 = true := by decide +kernel
theorem ok_7_12_2 : okC (mkC 24 12 16) 12 2 = true := by decide +kernel
theorem ok_7_12_3 : okC (mkC 24 12 16) 12 3 = true := by decide +kernel
theorem ok_8_6_0 : okC (mkC 24 16 18) 6 0 = true := by decide +kernel
theorem ok_8_6_1 : okC (mkC 24 16 18) 6 1 = true := by decide +kernel
theorem ok_8_6_2 : okC (mkC 24 16 18) 6 2 = true := by decide +kernel
theorem ok_8_6_3 : okC (mkC 24 16 18) 6 3 = true := by decide +kernel
theorem ok_8_12_0 : okC (mkC 24 16 18) 12 0 = true := by decide +kernel
theorem ok_8_12_1 : okC (mkC 24 16 18) 12 1 = true := by decide +kernel
theorem ok_8_12_2 : okC (mkC 24 16 18) 12 2 = true := by decide +kernel
theorem ok_8_12_3 : okC (mkC 24 16 18) 12 3 = true := by decide +kernel
theorem ok_9_6_0 : okC (mkC 8 2 4) 6 0 = true := by decide +kernel
theorem ok_9_6_1 : okC (mkC 8 2 4) 6 1 = true := by decide +kernel
theorem ok_9_6_2 : okC (mkC 8 2 4) 6 2 = true := by decide +kernel
theorem ok_9_6_3 : okC (mkC 8 2 4) 6 3 = true := by decide +kernel
theorem ok_9_12_0 : okC (mkC 8 2 4) 12 0 = true := by decide +kernel
theorem ok_9_12_1 : okC (mkC 8 2 4) 12 1 = true := by decide +kernel
theorem ok_9_12_2 : okC (mkC 8 2 4) 12 2 = true := by decide +kernel
theorem ok_9_12_3 : okC (mkC 8 2 4) 12 3 = true := by decide +kernel
theorem all_ok {c : Cs} (hc : c ∈ tbl) {t : Int} (ht : t = 6 ∨ t = 12) {w : Nat} (hw : w < 4) : okC c t w = true := by
  simp only [tbl, List.mem_cons, List.not_mem_nil, or_false] at hc
  have hw' : w = 0 ∨ w = 1 ∨ w = 2 ∨ w = 3 := by omega
  rcases hc with rfl | rfl | rfl | rfl | rfl | rfl | rfl | rfl | rfl | rfl
  · rcases ht with rfl | rfl <;> rcases hw' with rfl | rfl | rfl | rfl
    · exact ok_0_6_0
    · exact ok_0_6_1
    · exact ok_0_6_2
    · exact ok_0_6_3
    · exact ok_0_12_0
    · exact ok_0_12_1
    · exact ok_0_12_2
    · exact ok_0_12_3
  · rcases ht with rfl | rfl <;> rcases hw' with rfl | rfl | rfl | rfl
    · exact ok_1_6_0
    · exact ok_1_6_1
    · exact ok_1_6_2
    · exact ok_1_6_3
    · exact ok_1_12_0
    · exact ok_1_12_1
    · exact ok_1_12_2
    · exact ok_1_12_3
  · rcases ht with rfl | rfl <;> rcases hw' with rfl | rfl | rfl | rfl
    · exact ok_2_6_0
    · exact ok_2_6_1
    · exact ok_2_6_2
    · exact ok_2_6_3
    · exact ok_2_12_0
    · exact ok_2_12_1
    · exact ok_2_12_2
    · exact ok_2_12_3
  · rcases ht with rfl | rfl <;> rcases hw' with rfl | rfl | rfl | rfl
    · exact ok_3_6_0
    · exact ok_3_6_1
    · exact ok_3_6_2
    · exact ok_3_6_3
    · exact ok_3_12_0
    · exact ok_3_12_1
    · exact ok_3_12_2
    · exact ok_3_12_3
  · rcases ht with rfl | rfl <;> rcases hw' with rfl | rfl | rfl | rfl
    · exact ok_4_6_0
    · exact ok_4_6_1
    · exact ok_4_6_2
    · exact ok_4_6_3
    · exact ok_4_12_0
    · exact ok_4_12_1
    · exact ok_4_12_2
    · exact ok_4_12_3
  · rcases ht with rfl | rfl <;> rcases hw' with rfl | rfl | rfl | rfl
    · exact ok_5_6_0
    · exact ok_5_6_1
    · exact ok_5_6_2
    · exact ok_5_6_3
    · exact ok_5_12_0
    · exact ok_5_12_1
    · exact ok_5_12_2
    · exact ok_5_12_3
  · rcases ht with rfl | rfl <;> rcases hw' with rfl | rfl | rfl | rfl
    · exact ok_6_6_0
    · exact ok_6_6_1
    · exact ok_6_6_2
    · exact ok_6_6_3
    · exact ok_6_12_0
    · exact ok_6_12_1
    · exact ok_6_12_2
    · exact ok_6_12_3
  · rcases ht with rfl | rfl <;> rcases hw' with rfl | rfl | rfl | rfl
    · exact ok_7_6_0
    · exact ok_7_6_1
    · exact ok_7_6_2
    · exact ok_7_6_3
    · exact ok_7_12_0
    · exact ok_7_12_1
    · exact ok_7_12_2
    · exact ok_7_12_3
  · rcases ht with rfl | rfl <;> rcases hw' with rfl | rfl | rfl | rfl
    · exact ok_8_6_0
    · exact ok_8_6_1
    · exact ok_8_6_2
    · exact ok_8_6_3
    · exact ok_8_12_0
    · exact ok_8_12_1
    · exact ok_8_12_2
    · exact ok_8_12_3
  · rcases ht with rfl | rfl <;> rcases hw' with rfl | rfl | rfl | rfl
    · exact ok_9_6_0
    · exact ok_9_6_1
    · exact ok_9_6_2
    · exact ok_9_6_3
    · exact ok_9_12_0
    · exact ok_9_12_1
    · exact ok_9_12_2
    · exact ok_9_12_3
end K29
end
section
set_option Elab.async false
set_option linter.all false
set_option autoImplicit false
set_option maxRecDepth 100000
namespace K29
open PySem PySem.Spec PyProof.Rows L2 Ev Ar
theorem loopS_inv {t : Ev.Tm} {b : Sm} (I : Rg → Jr → Prop) : ∀ {L : List Dt}, (∀ d ∈ L, ∀ r j, I r j → ∃ r1 j1, t d r j = some (r1, j1) ∧ ∃ r2 j2, b r1 j1 = some (.nx, r2, j2) ∧ I r2 j2) →
    ∀ r j, I r j → ∃ r2 j2, loopS t b L r j = some (.nx, r2, j2) ∧ I r2 j2
  | [], _, r, j, h => ⟨r, j, rfl, h⟩
  | d :: L, hb, r, j, h => by
    obtain ⟨r1, j1, e1, r2, j2, e2, h2⟩ := hb d List.mem_cons_self r j h
    obtain ⟨r3, j3, e3, h3⟩ := loopS_inv I (L := L) (fun d hd => hb d (List.mem_cons_of_mem _ hd)) r2 j2 h2
    exact ⟨r3, j3, by simp only [loopS, e1, Option.bind_some, e2, e3], h3⟩
def gT17 : Sm := (sSeq (sPar [23, 24] (pD (mTup (mCons (mVar 21) (mCons (mVar 22) (mCons (mLst mNil) mNil)))) (pD (mCall F_law_shown_corners (mCons (mVar 13) mNil)) pNil))) (sSeq (sSet 25 (mCall F_shut_place (mCons (mCall F_law_scene (mCons (mVar 23) mNil)) (mCons (mVar 24) mNil)))) (sSeq (sIf (mNot (mTst (mCall F_law_is_answer (mCons (mVar 25) (mCons (mVar 23) (mCons (mVar 13) mNil)))))) (sRet (mC (.bool false))) sNil) (sSeq (sFor (mRng1 (mCons (mC (.int 6)) mNil)) (gNm 26) (sIf (mAnd (mTst (mIsN (mVar 25))) (mNot (mTst (mCall F_law_is_let_at (mCons (mVar 23) (mCons (mCallJ 0 J_law_inner (mCons (mVar 13) mNil)) mNil)))))) (sRet (mC (.bool false))) sNil)) (sRet (mC (.bool true)))))))
def gT10 : Sm := (sSeq (sSet 17 (mCall F_law_turned (mCons (mVar 10) (mCons (mTup (mCons (mBin fAdd (mVar 5) (mVar 7)) (mCons (mC (.int 0)) mNil))) mNil)))) (sSeq (sPar [18, 19] (pD (mBin fSub (mCallJ 0 J_law_draw (mCons (mC (.int 41)) mNil)) (mC (.int 20))) (pD (mBin fSub (mVar 8) (mVar 6)) pNil))) (sSeq (sSet 20 (mBin fMul (mCallJ 0 J_law_pick (mCons (mTup (mCons (mVar 19) (mCons (mVar 19) (mCons (mBin fSub (mC (.int 0)) (mVar 19)) (mCons (mC (.int 0)) (mCons (mBin fAdd (mVar 5) (mVar 7)) (mCons (mBin fSub (mBin fSub (mC (.int 0)) (mVar 5)) (mVar 7)) (mCons (mVar 19) mNil)))))))) mNil)) (mVar 9))) (sSeq (sSet 20 (mBin fAdd (mVar 20) (mCallJ 0 J_law_pick (mCons (mTup (mCons (mC (.int 0)) (mCons (mC (.int 0)) (mCons (mC (.int 0)) (mCons (mC (.int 1)) (mCons (mUn fNeg (mC (.int 1))) mNil)))))) mNil)))) (sSeq (sSet 21 (mLst (mCons (mTup (mCons (mVar 11) (mCons (mVar 12) mNil))) (mCons (mTup (mCons (mBin fAdd (mBin fMul (mVar 9) (mBin fIx (mVar 17) (mC (.int 0)))) (mVar 11)) (mCons (mBin fAdd (mBin fMul (mVar 9) (mBin fIx (mVar 17) (mC (.int 1)))) (mVar 12)) mNil))) mNil)))) (sSeq (sSet 22 (mLst (mCons (mTup (mCons (mC (.int 0)) (mCons (mVar 18) (mCons (mC .none) mNil)))) (mCons (mTup (mCons (mC (.int 1)) (mCons (mC .none) (mCons (mBin fAdd (mVar 18) (mVar 20)) mNil)))) mNil)))) (sSeq (sIf (mTst (mBin fEq (mCallJ 0 J_law_draw (mCons (mC (.int 2)) mNil)) (mC (.int 0)))) (sSet 22 (mLst (mCons (mTup (mCons (mC (.int 1)) (mCons (mVar 18) (mCons (mC .none) mNil)))) (mCons (mTup (mCons (mC (.int 0)) (mCons (mC .none) (mCons (mBin fAdd (mVar 18) (mVar 20)) mNil)))) mNil)))) sNil) (sSeq (sPar [23, 24] (pD (mTup (mCons (mVar 21) (mCons (mVar 22) (mCons (mLst mNil) mNil)))) (pD (mCall F_law_shown_corners (mCons (mVar 13) mNil)) pNil))) (sSeq (sSet 25 (mCall F_shut_place (mCons (mCall F_law_scene (mCons (mVar 23) mNil)) (mCons (mVar 24) mNil)))) (sSeq (sIf (mNot (mTst (mCall F_law_is_answer (mCons (mVar 25) (mCons (mVar 23) (mCons (mVar 13) mNil)))))) (sRet (mC (.bool false))) sNil) (sSeq (sFor (mRng1 (mCons (mC (.int 6)) mNil)) (gNm 26) (sIf (mAnd (mTst (mIsN (mVar 25))) (mNot (mTst (mCall F_law_is_let_at (mCons (mVar 23) (mCons (mCallJ 0 J_law_inner (mCons (mVar 13) mNil)) mNil)))))) (sRet (mC (.bool false))) sNil)) (sRet (mC (.bool true))))))))))))))
theorem divsub (lo hi : Int) : Rat.divInt hi 6 - Rat.divInt lo 6 = 1 / 6 * ((hi - lo : Int) : Rat) := by
  rw [Rat.divInt_eq_div, Rat.divInt_eq_div, cast_sub]
  have e6 : ((6 : Int) : Rat) = 6 := rfl
  rw [e6]
  grind
theorem ns_six (b : Bool) (s0 s1 : PI) : ns b (six s0) (six s1) = six (nI b s0 s1) := by cases b <;> rfl
theorem six_inj {p q : PI} (h : p ≠ q) : six p ≠ six q := by
  intro e
  apply h
  rw [six_eq, six_eq] at e
  unfold sc cI at e
  simp only [Prod.mk.injEq] at e
  obtain ⟨e1, e2⟩ := e
  have h1 : (p.1 : Rat) = q.1 := by grind
  have h2 : (p.2 : Rat) = q.2 := by grind
  have i1 : p.1 = q.1 := by
    have a := rzero (i := p.1 - q.1)
    rw [cast_sub] at a
    have := a.mp (by grind)
    omega
  have i2 : p.2 = q.2 := by
    have a := rzero (i := p.2 - q.2)
    rw [cast_sub] at a
    have := a.mp (by grind)
    omega
  exact Prod.ext i1 i2
section
variable {cs : List PI} {s0 s1 : PI} {lo hi : Int} {b : Bool} {a1 a2 a3 a4 a5 a6 a7 a8 a9 a10 a11 a12 a14 a15 a16 a17 a18 a19 a20 a23 a24 a25 a26 : Option Sl} {j : Jr}
theorem tail17 (hj : J3 j) (g : GoodP cs) (h0 : BP 14 s0) (h1 : BP 14 s1) (hne : s0 ≠ s1) (hl : Bz 13 lo) (hh : Bz 13 hi) :
    ∃ r' j', gT17 [some .jar, a1, a2, a3, a4, a5, a6, a7, a8, a9, a10, a11, a12, some (.d (.list (cs.map pI))), a14, a15, a16, a17, a18, a19, a20, some (.d (.list [pI s0, pI s1])), some (.d (.list [.tuple [.int (ix b), .int lo, .none], .tuple [.int (ix (!b)), .none, .int hi]])), a23, a24, a25, a26] j = some (.rt (.bool true), r', j') := by
  have hk : Bz 14 (hi - lo) := hh.sub' hl
  have q1 := F_law_shown_eq (cs := cs)
  have q2 := F_law_scene_eq (s0 := s0) (s1 := s1) (b := b) (lo := lo) (hi := hi)
  have hsz : ∀ i : Int, Bz 13 i → Sz 16 (Rat.divInt i 6) := fun i h => sz_divInt (by decide) (h.mono (by decide)) (by decide)
  have q3 := F_shut_place_eq (b := b) g.szs (by rw [List.length_map]; exact g.l3) (by rw [List.length_map]; exact g.l8) g.rnd (six_inj hne) (six_sz h0) (six_sz h1) (hsz lo hl) (hsz hi hh) (by
    rw [divsub, ns_six, ns_six]
    exact tpt_sz g (nI_bp h0 h1 b) (nI_bp h0 h1 (!b)) hk)
  rw [divsub, ns_six, ns_six] at q3
  have q4 := F_law_is_answer_eq (b := b) g h0 h1 hl hh
  have ew : (PyData.tuple [.list [pI s0, pI s1], .list [.tuple [.int (ix b), .int lo, .none], .tuple [.int (ix (!b)), .none, .int hi]], .list []] : Dt) = wD s0 s1 b lo hi := rfl
  obtain ⟨P, hP⟩ : ∃ P, P = pairS ((1 / 6 : Rat) * ((hi - lo : Int) : Rat)) (six (nI b s0 s1)) (six (nI (!b) s0 s1)) (cs.map six) := ⟨_, rfl⟩
  rw [← hP] at q3 q4
  have loop := loopS_inv (t := gNm 26) (b := sIf (mAnd (mTst (mIsN (mVar 25))) (mNot (mTst (mCall F_law_is_let_at (mCons (mVar 23) (mCons (mCallJ 0 J_law_inner (mCons (mVar 13) mNil)) mNil)))))) (sRet (mC (.bool false))) sNil)
    (fun r j => J3 j ∧ ∃ a26, r = [some .jar, a1, a2, a3, a4, a5, a6, a7, a8, a9, a10, a11, a12, some (.d (.list (cs.map pI))), a14, a15, a16, a17, a18, a19, a20, some (.d (.list [pI s0, pI s1])), some (.d (.list [.tuple [.int (ix b), .int lo, .none], .tuple [.int (ix (!b)), .none, .int hi]])), some (.d (wD s0 s1 b lo hi)), some (.d (.tuple ((cs.map six).map ptD))), some (.d (ansD P)), a26]) (L := rangeL 0 6) (by
      rintro d hd r j ⟨hj, a, rfl⟩
      refine ⟨_, j, rfl, ?_⟩
      rcases pairS_len ((1 / 6 : Rat) * ((hi - lo : Int) : Rat)) (six (nI b s0 s1)) (six (nI (!b) s0 s1)) (cs.map six) with e | ⟨x, e⟩
      · obtain ⟨W, j', e1, h3, w0, w8, hw⟩ := inner_eq hj g.bp (by have := g.l3; omega) g.l8
        have e2 := inner_let (b := b) g h0 h1 hl hh e w0 w8 hw
        rw [hP, e]
        refine ⟨_, j', ?_, h3, some (.d d), rfl⟩
        simp only [runF, runJ, r0, outD, sSeq, sNil, sRet, sRetN, sPass, sIf, sSet, sOwn, sPar, sAsg, sApp, sExt, sEx, sFor, sFrz, sSetI, loopS, putR, Cv.sl, pNil, pD, pO, mVar, mOwn, mC, mBin, mUn, mTst, asB, mIf, mNot, mAnd, mOr, mAndV, mOrV, mNotV, mNil, mCons, mTup, mLst, mCh, mIsN, mNotN, isN, mL, mDisp, mCall, mSl, mOn, mOs, slD, mRow, rowD, sqD, mZip, mEnum, mLc, lcS, wipeR, mYes, mLc2E, lc2E, gNm, gTp, gsCons, gsNil, gTuple, gList, gAll, bools, fAdd, fSub, fCmp, fNeg, List.map, List.set, Option.bind_some, Option.map_some, Option.bind_none, Option.map_none, List.getElem?_cons_zero, List.getElem?_cons_succ, List.length_cons, List.length_nil, List.length_map, List.append_eq, List.nil_append, List.cons_append, List.replicate, Nat.reduceSub, Nat.reduceAdd, Nat.reduceLeDiff, Nat.reduceLT, lineN, Nat.zero_le, Nat.zero_add, reduceIte, if_true, if_false, Bool.false_eq_true, Bool.not_true, Bool.not_false, List.zipWith, List.zipIdx, List.zipIdx_cons, List.zipIdx_nil, mCallJ, ansD, e1, e2]
      · rw [hP, e]
        have en : isN (ptD x) = false := rfl
        refine ⟨_, j, ?_, hj, some (.d d), rfl⟩
        simp only [sIf, mAnd, mTst, mIsN, mVar, asB, sNil, List.set, List.getElem?_cons_zero, List.getElem?_cons_succ, Option.bind_some, Option.map_some, ansD, en, Bool.false_eq_true, if_false])
  obtain ⟨r2, j2, e2, _⟩ := loop _ j ⟨hj, a26, rfl⟩
  unfold gT17
  simp only [sSeq, sPar, pD, pNil, putR, Cv.sl, sSet, sIf, sRet, sNil, mTup, mCons, mNil, mLst, mCall, mVar, mNot, mTst, asB, mC, List.set, List.length_cons, List.length_nil, Nat.reduceAdd, Nat.reduceLeDiff, Nat.zero_le, if_true, List.getElem?_cons_zero, List.getElem?_cons_succ, Option.bind_some, Option.map_some, ew, q1, q2, q3, q4, Bool.not_true, Bool.false_eq_true, if_false, sFor]
  have er : ∀ (r : Rg) (j : Jr), mRng1 (mCons (mC (.int 6)) mNil) r j = some (rangeL 0 6, j) := fun r j => rfl
  simp only [er, Option.bind_some, e2]
  exact ⟨_, _, rfl⟩
end
end K29
end
section
set_option Elab.async false
set_option linter.all false
set_option autoImplicit false
set_option maxRecDepth 100000
namespace K29
open PySem PySem.Spec PyProof.Rows L2 Ev Ar
def gT14 : Sm := (sSeq (sSet 21 (mLst (mCons (mTup (mCons (mVar 11) (mCons (mVar 12) mNil))) (mCons (mTup (mCons (mBin fAdd (mBin fMul (mVar 9) (mBin fIx (mVar 17) (mC (.int 0)))) (mVar 11)) (mCons (mBin fAdd (mBin fMul (mVar 9) (mBin fIx (mVar 17) (mC (.int 1)))) (mVar 12)) mNil))) mNil)))) (sSeq (sSet 22 (mLst (mCons (mTup (mCons (mC (.int 0)) (mCons (mVar 18) (mCons (mC .none) mNil)))) (mCons (mTup (mCons (mC (.int 1)) (mCons (mC .none) (mCons (mBin fAdd (mVar 18) (mVar 20)) mNil)))) mNil)))) (sSeq (sIf (mTst (mBin fEq (mCallJ 0 J_law_draw (mCons (mC (.int 2)) mNil)) (mC (.int 0)))) (sSet 22 (mLst (mCons (mTup (mCons (mC (.int 1)) (mCons (mVar 18) (mCons (mC .none) mNil)))) (mCons (mTup (mCons (mC (.int 0)) (mCons (mC .none) (mCons (mBin fAdd (mVar 18) (mVar 20)) mNil)))) mNil)))) sNil) (sSeq (sPar [23, 24] (pD (mTup (mCons (mVar 21) (mCons (mVar 22) (mCons (mLst mNil) mNil)))) (pD (mCall F_law_shown_corners (mCons (mVar 13) mNil)) pNil))) (sSeq (sSet 25 (mCall F_shut_place (mCons (mCall F_law_scene (mCons (mVar 23) mNil)) (mCons (mVar 24) mNil)))) (sSeq (sIf (mNot (mTst (mCall F_law_is_answer (mCons (mVar 25) (mCons (mVar 23) (mCons (mVar 13) mNil)))))) (sRet (mC (.bool false))) sNil) (sSeq (sFor (mRng1 (mCons (mC (.int 6)) mNil)) (gNm 26) (sIf (mAnd (mTst (mIsN (mVar 25))) (mNot (mTst (mCall F_law_is_let_at (mCons (mVar 23) (mCons (mCallJ 0 J_law_inner (mCons (mVar 13) mNil)) mNil)))))) (sRet (mC (.bool false))) sNil)) (sRet (mC (.bool true))))))))))
def gM10 (X : Sm) : Sm := (sSeq (sSet 17 (mCall F_law_turned (mCons (mVar 10) (mCons (mTup (mCons (mBin fAdd (mVar 5) (mVar 7)) (mCons (mC (.int 0)) mNil))) mNil)))) (sSeq (sPar [18, 19] (pD (mBin fSub (mCallJ 0 J_law_draw (mCons (mC (.int 41)) mNil)) (mC (.int 20))) (pD (mBin fSub (mVar 8) (mVar 6)) pNil))) (sSeq (sSet 20 (mBin fMul (mCallJ 0 J_law_pick (mCons (mTup (mCons (mVar 19) (mCons (mVar 19) (mCons (mBin fSub (mC (.int 0)) (mVar 19)) (mCons (mC (.int 0)) (mCons (mBin fAdd (mVar 5) (mVar 7)) (mCons (mBin fSub (mBin fSub (mC (.int 0)) (mVar 5)) (mVar 7)) (mCons (mVar 19) mNil)))))))) mNil)) (mVar 9))) (sSeq (sSet 20 (mBin fAdd (mVar 20) (mCallJ 0 J_law_pick (mCons (mTup (mCons (mC (.int 0)) (mCons (mC (.int 0)) (mCons (mC (.int 0)) (mCons (mC (.int 1)) (mCons (mUn fNeg (mC (.int 1))) mNil)))))) mNil)))) X))))
def gM14 (X : Sm) : Sm := (sSeq (sSet 21 (mLst (mCons (mTup (mCons (mVar 11) (mCons (mVar 12) mNil))) (mCons (mTup (mCons (mBin fAdd (mBin fMul (mVar 9) (mBin fIx (mVar 17) (mC (.int 0)))) (mVar 11)) (mCons (mBin fAdd (mBin fMul (mVar 9) (mBin fIx (mVar 17) (mC (.int 1)))) (mVar 12)) mNil))) mNil)))) (sSeq (sSet 22 (mLst (mCons (mTup (mCons (mC (.int 0)) (mCons (mVar 18) (mCons (mC .none) mNil)))) (mCons (mTup (mCons (mC (.int 1)) (mCons (mC .none) (mCons (mBin fAdd (mVar 18) (mVar 20)) mNil)))) mNil)))) (sSeq (sIf (mTst (mBin fEq (mCallJ 0 J_law_draw (mCons (mC (.int 2)) mNil)) (mC (.int 0)))) (sSet 22 (mLst (mCons (mTup (mCons (mC (.int 1)) (mCons (mVar 18) (mCons (mC .none) mNil)))) (mCons (mTup (mCons (mC (.int 0)) (mCons (mC .none) (mCons (mBin fAdd (mVar 18) (mVar 20)) mNil)))) mNil)))) sNil) X)))
theorem gT10_split : gT10 = gM10 gT14 := rfl
theorem gT14_split : gT14 = gM14 gT17 := rfl
theorem tbl_bd : ∀ c ∈ tbl, (0 ≤ c.1 ∧ c.1 ≤ 24) ∧ (0 ≤ c.2.1 ∧ c.2.1 ≤ 145) ∧ (0 ≤ c.2.2.1 ∧ c.2.2.1 ≤ 145) ∧ (0 ≤ c.2.2.2.1 ∧ c.2.2.2.1 ≤ 145) ∧ (0 ≤ c.2.2.2.2 ∧ c.2.2.2.2 ≤ 145) ∧ 0 < c.2.1 + c.2.2.1 := by decide +kernel
theorem trn_far {x : Int} (h : 0 < x) (h2 : x ≤ 290) {w : Nat} (hw : w < 4) : (trn (x, 0) w ≠ (0, 0)) ∧ (trn (x, 0) w).1.natAbs ≤ 290 ∧ (trn (x, 0) w).2.natAbs ≤ 290 := by
  match w, hw with
  | 0, _ => simp only [trn, ne_eq, Prod.mk.injEq]; omega
  | 1, _ => simp only [trn, ne_eq, Prod.mk.injEq]; omega
  | 2, _ => simp only [trn, ne_eq, Prod.mk.injEq]; omega
  | 3, _ => simp only [trn, ne_eq, Prod.mk.injEq]; omega
section
variable {cs : List PI} {a near b wide t e n : Int} {w : Nat} {h : Int} {low ap : Int} {q : PI} {a1 a2 a3 a4 a5 a6 a7 a8 a10 a14 a15 a16 a17 a18 a19 a20 a21 a22 a23 a24 a25 a26 : Option Sl} {j : Jr}
theorem tail14 (hj : J3 j) (g : GoodP cs) (ht : t = 6 ∨ t = 12) (he : 0 ≤ e ∧ e ≤ 31) (hn : 0 ≤ n ∧ n ≤ 31) (hq : q ≠ (0, 0)) (q1 : q.1.natAbs ≤ 290) (q2 : q.2.natAbs ≤ 290) (hl : low.natAbs ≤ 20) (ha : ap.natAbs ≤ 4000) :
    ∃ r' j', gT14 [some .jar, a1, a2, a3, a4, a5, a6, a7, a8, some (.d (.int t)), a10, some (.d (.int e)), some (.d (.int n)), some (.d (.list (cs.map pI))), a14, a15, a16, some (.d (pI q)), some (.d (.int low)), a19, some (.d (.int ap)), a21, a22, a23, a24, a25, a26] j = some (.rt (.bool true), r', j') := by
  obtain ⟨v, j1, ed, h3, v0, v1⟩ := draw_eq (n := 2) hj (by decide) (by decide)
  have m1 : mulOk t q.1 = true := mul_sm (by omega)
  have m2 : mulOk t q.2 = true := mul_sm (by omega)
  have i0 : fIx (pI q) (.int 0) = some (.int q.1) := rfl
  have i1 : fIx (pI q) (.int 1) = some (.int q.2) := rfl
  have b1 : (t * q.1).natAbs ≤ 3480 := by
    rw [Int.natAbs_mul]
    exact Nat.le_trans (Nat.mul_le_mul (show t.natAbs ≤ 12 by omega) q1) (by decide)
  have b2 : (t * q.2).natAbs ≤ 3480 := by
    rw [Int.natAbs_mul]
    exact Nat.le_trans (Nat.mul_le_mul (show t.natAbs ≤ 12 by omega) q2) (by decide)
  have h0 : BP 14 (e, n) := ⟨show e.natAbs < 16384 by omega, show n.natAbs < 16384 by omega⟩
  have h1 : BP 14 (t * q.1 + e, t * q.2 + n) := ⟨show (t * q.1 + e).natAbs < 16384 by omega, show (t * q.2 + n).natAbs < 16384 by omega⟩
  have hne : ((e, n) : PI) ≠ (t * q.1 + e, t * q.2 + n) := by
    intro E
    simp only [Prod.mk.injEq] at E
    obtain ⟨E1, E2⟩ := E
    have z1 : t * q.1 = 0 := by omega
    have z2 : t * q.2 = 0 := by omega
    have tz : t ≠ 0 := by omega
    have y1 := (Int.mul_eq_zero.mp z1).resolve_left tz
    have y2 := (Int.mul_eq_zero.mp z2).resolve_left tz
    exact hq (Prod.ext y1 y2)
  have hlo : Bz 13 low := show low.natAbs < 8192 by omega
  have hhi : Bz 13 (low + ap) := show (low + ap).natAbs < 8192 by omega
  rw [gT14_split]
  unfold gM14
  by_cases hv : v = 0
  · obtain ⟨r', j', E⟩ := tail17 (b := true) (a1 := a1) (a2 := a2) (a3 := a3) (a4 := a4) (a5 := a5) (a6 := a6) (a7 := a7) (a8 := a8) (a9 := some (.d (.int t))) (a10 := a10) (a11 := some (.d (.int e))) (a12 := some (.d (.int n))) (a14 := a14) (a15 := a15) (a16 := a16) (a17 := some (.d (pI q))) (a18 := some (.d (.int low))) (a19 := a19) (a20 := some (.d (.int ap))) (a23 := a23) (a24 := a24) (a25 := a25) (a26 := a26) h3 g h0 h1 hne hlo hhi
    refine ⟨r', j', ?_⟩
    subst hv
    rw [← E]
    simp only [runF, runJ, r0, outD, sSeq, sNil, sRet, sRetN, sPass, sIf, sSet, sOwn, sPar, sAsg, sApp, sExt, sEx, sFor, sFrz, sSetI, loopS, putR, Cv.sl, pNil, pD, pO, mVar, mOwn, mC, mBin, mUn, mTst, asB, mIf, mNot, mAnd, mOr, mAndV, mOrV, mNotV, mNil, mCons, mTup, mLst, mCh, mIsN, mNotN, isN, mL, mDisp, mCall, mSl, mOn, mOs, slD, mRow, rowD, sqD, mZip, mEnum, mLc, lcS, wipeR, mYes, mLc2E, lc2E, gNm, gTp, gsCons, gsNil, gTuple, gList, gAll, bools, fAdd, fSub, fCmp, fNeg, List.map, List.set, Option.bind_some, Option.map_some, Option.bind_none, Option.map_none, List.getElem?_cons_zero, List.getElem?_cons_succ, List.length_cons, List.length_nil, List.length_map, List.append_eq, List.nil_append, List.cons_append, List.replicate, Nat.reduceSub, Nat.reduceAdd, Nat.reduceLeDiff, Nat.reduceLT, lineN, Nat.zero_le, Nat.zero_add, reduceIte, if_true, if_false, Bool.false_eq_true, Bool.not_true, Bool.not_false, List.zipWith, List.zipIdx, List.zipIdx_cons, List.zipIdx_nil, mCallJ, i0, i1, fMul_ok m1, fMul_ok m2, ed, fEq, fCmp]
    rfl
  · obtain ⟨r', j', E⟩ := tail17 (b := false) (a1 := a1) (a2 := a2) (a3 := a3) (a4 := a4) (a5 := a5) (a6 := a6) (a7 := a7) (a8 := a8) (a9 := some (.d (.int t))) (a10 := a10) (a11 := some (.d (.int e))) (a12 := some (.d (.int n))) (a14 := a14) (a15 := a15) (a16 := a16) (a17 := some (.d (pI q))) (a18 := some (.d (.int low))) (a19 := a19) (a20 := some (.d (.int ap))) (a23 := a23) (a24 := a24) (a25 := a25) (a26 := a26) h3 g h0 h1 hne hlo hhi
    refine ⟨r', j', ?_⟩
    obtain rfl : v = 1 := by omega
    rw [← E]
    simp only [runF, runJ, r0, outD, sSeq, sNil, sRet, sRetN, sPass, sIf, sSet, sOwn, sPar, sAsg, sApp, sExt, sEx, sFor, sFrz, sSetI, loopS, putR, Cv.sl, pNil, pD, pO, mVar, mOwn, mC, mBin, mUn, mTst, asB, mIf, mNot, mAnd, mOr, mAndV, mOrV, mNotV, mNil, mCons, mTup, mLst, mCh, mIsN, mNotN, isN, mL, mDisp, mCall, mSl, mOn, mOs, slD, mRow, rowD, sqD, mZip, mEnum, mLc, lcS, wipeR, mYes, mLc2E, lc2E, gNm, gTp, gsCons, gsNil, gTuple, gList, gAll, bools, fAdd, fSub, fCmp, fNeg, List.map, List.set, Option.bind_some, Option.map_some, Option.bind_none, Option.map_none, List.getElem?_cons_zero, List.getElem?_cons_succ, List.length_cons, List.length_nil, List.length_map, List.append_eq, List.nil_append, List.cons_append, List.replicate, Nat.reduceSub, Nat.reduceAdd, Nat.reduceLeDiff, Nat.reduceLT, lineN, Nat.zero_le, Nat.zero_add, reduceIte, if_true, if_false, Bool.false_eq_true, Bool.not_true, Bool.not_false, List.zipWith, List.zipIdx, List.zipIdx_cons, List.zipIdx_nil, mCallJ, i0, i1, fMul_ok m1, fMul_ok m2, ed, fEq, fCmp]
    rfl
theorem tail10 (hj : J3 j) (g : GoodP cs) (hc : (h, a, b, near, wide) ∈ tbl) (ht : t = 6 ∨ t = 12) (hw : w < 4) (he : 0 ≤ e ∧ e ≤ 31) (hn : 0 ≤ n ∧ n ≤ 31) :
    ∃ r' j', gT10 [some .jar, a1, a2, a3, a4, some (.d (.int a)), some (.d (.int near)), some (.d (.int b)), some (.d (.int wide)), some (.d (.int t)), some (.d (.int w)), some (.d (.int e)), some (.d (.int n)), some (.d (.list (cs.map pI))), a14, a15, a16, a17, a18, a19, a20, a21, a22, a23, a24, a25, a26] j = some (.rt (.bool true), r', j') := by
  have bd := tbl_bd _ hc
  dsimp only at bd
  obtain ⟨b0, b1, b2, b3, b4, b5⟩ := bd
  obtain ⟨f0, f1, f2⟩ := trn_far b5 (by omega) hw
  have eT := turned_eq (a + b, 0) w hw
  have eT' : F_law_turned [.int w, .tuple [.int (a + b), .int 0]] = some (pI (trn (a + b, 0) w)) := eT
  obtain ⟨v, j1, ed, h3, v0, v1⟩ := draw_eq (n := 41) hj (by decide) (by decide)
  obtain ⟨d, j2, e7, h4, hm⟩ := pick_eq (ds := [.int (wide - near), .int (wide - near), .int (0 - (wide - near)), .int 0, .int (a + b), .int (0 - a - b), .int (wide - near)]) h3 (by simp) (by simp)
  obtain ⟨d2, j3, e5, h5, hm2⟩ := pick_eq (ds := [.int 0, .int 0, .int 0, .int 1, .int (-1)]) h4 (by decide) (by decide)
  obtain ⟨x, rfl, hx⟩ : ∃ x : Int, d = .int x ∧ x.natAbs ≤ 300 := by
    simp only [List.mem_cons, List.not_mem_nil, or_false] at hm
    rcases hm with rfl | rfl | rfl | rfl | rfl | rfl | rfl <;> exact ⟨_, rfl, by omega⟩
  obtain ⟨y, rfl, hy⟩ : ∃ y : Int, d2 = .int y ∧ y.natAbs ≤ 1 := by
    simp only [List.mem_cons, List.not_mem_nil, or_false] at hm2
    rcases hm2 with rfl | rfl | rfl | rfl | rfl <;> exact ⟨_, rfl, by decide⟩
  have m1 : mulOk x t = true := mul_sm (by omega)
  have bx : (x * t).natAbs ≤ 3600 := by
    rw [Int.natAbs_mul]
    exact Nat.le_trans (Nat.mul_le_mul hx (show t.natAbs ≤ 12 by omega)) (by decide)
  obtain ⟨r', j', E⟩ := tail14 (q := trn (a + b, 0) w) (low := v - 20) (ap := x * t + y) (a1 := a1) (a2 := a2) (a3 := a3) (a4 := a4) (a5 := some (.d (.int a))) (a6 := some (.d (.int near))) (a7 := some (.d (.int b))) (a8 := some (.d (.int wide))) (a10 := some (.d (.int w))) (a14 := a14) (a15 := a15) (a16 := a16) (a19 := some (.d (.int (wide - near)))) (a21 := a21) (a22 := a22) (a23 := a23) (a24 := a24) (a25 := a25) (a26 := a26) h5 g ht he hn f0 f1 f2 (by omega) (by omega)
  refine ⟨r', j', ?_⟩
  rw [← E, gT10_split]
  unfold gM10
  have n1 : fNeg (.int 1) = some (.int (-1)) := rfl
  simp only [runF, runJ, r0, outD, sSeq, sNil, sRet, sRetN, sPass, sIf, sSet, sOwn, sPar, sAsg, sApp, sExt, sEx, sFor, sFrz, sSetI, loopS, putR, Cv.sl, pNil, pD, pO, mVar, mOwn, mC, mBin, mUn, mTst, asB, mIf, mNot, mAnd, mOr, mAndV, mOrV, mNotV, mNil, mCons, mTup, mLst, mCh, mIsN, mNotN, isN, mL, mDisp, mCall, mSl, mOn, mOs, slD, mRow, rowD, sqD, mZip, mEnum, mLc, lcS, wipeR, mYes, mLc2E, lc2E, gNm, gTp, gsCons, gsNil, gTuple, gList, gAll, bools, fAdd, fSub, fCmp, fNeg, List.map, List.set, Option.bind_some, Option.map_some, Option.bind_none, Option.map_none, List.getElem?_cons_zero, List.getElem?_cons_succ, List.length_cons, List.length_nil, List.length_map, List.append_eq, List.nil_append, List.cons_append, List.replicate, Nat.reduceSub, Nat.reduceAdd, Nat.reduceLeDiff, Nat.reduceLT, lineN, Nat.zero_le, Nat.zero_add, reduceIte, if_true, if_false, Bool.false_eq_true, Bool.not_true, Bool.not_false, List.zipWith, List.zipIdx, List.zipIdx_cons, List.zipIdx_nil, mCallJ, eT', ed, e7, e5, fMul_ok m1, n1]
end
end K29
end
section
set_option Elab.async false
set_option linter.all false
set_option autoImplicit false
set_option maxRecDepth 100000
namespace K29
open PySem PySem.Spec PyProof.Rows L2 Ev Ar
theorem shape_eq {a b h : Int} {j : Jr} (hj : J3 j) : ∃ cs j', J_law_shape [.int a, .int b, .int h] j = some (.tuple (cs.map pI), j') ∧ J3 j' ∧ cs ∈ shp a b h := by
  have d2 : divOk 2 = true := by decide
  have n1 : fNeg (.int 1) = some (.int (-1)) := rfl
  have nh : fNeg (.int h) = some (.int (-h)) := rfl
  have ef : (a + b).fdiv 2 = (a + b) / 2 := by rw [Int.fdiv_eq_ediv_of_nonneg _ (by decide)]
  obtain ⟨d, j', e, h3, hm⟩ := pick_eq (ds := (shp a b h).map fun cs => PyData.tuple (cs.map pI)) hj (by simp [shp]) (by simp [shp])
  obtain ⟨cs, hcs, rfl⟩ := List.mem_map.mp hm
  refine ⟨cs, j', ?_, h3, hcs⟩
  rw [← e]
  unfold J_law_shape g_law_shape
  simp only [runF, runJ, r0, outD, sSeq, sNil, sRet, sRetN, sPass, sIf, sSet, sOwn, sPar, sAsg, sApp, sExt, sEx, sFor, sFrz, sSetI, loopS, putR, Cv.sl, pNil, pD, pO, mVar, mOwn, mC, mBin, mUn, mTst, asB, mIf, mNot, mAnd, mOr, mAndV, mOrV, mNotV, mNil, mCons, mTup, mLst, mCh, mIsN, mNotN, isN, mL, mDisp, mCall, mSl, mOn, mOs, slD, mRow, rowD, sqD, mZip, mEnum, mLc, lcS, wipeR, mYes, mLc2E, lc2E, gNm, gTp, gsCons, gsNil, gTuple, gList, gAll, bools, fAdd, fSub, fCmp, fNeg, List.map, List.set, Option.bind_some, Option.map_some, Option.bind_none, Option.map_none, List.getElem?_cons_zero, List.getElem?_cons_succ, List.length_cons, List.length_nil, List.length_map, List.append_eq, List.nil_append, List.cons_append, List.replicate, Nat.reduceSub, Nat.reduceAdd, Nat.reduceLeDiff, Nat.reduceLT, lineN, Nat.zero_le, Nat.zero_add, reduceIte, if_true, if_false, Bool.false_eq_true, Bool.not_true, Bool.not_false, List.zipWith, List.zipIdx, List.zipIdx_cons, List.zipIdx_nil, mCallJ, fDiv_ok d2, n1, nh, ef]
  cases hP : J_law_pick [PyData.tuple ((shp a b h).map fun cs => PyData.tuple (cs.map pI))] j with
  | none => rw [hP] at e; cases e
  | some p =>
    have hP' := hP
    simp only [shp, List.map, pI] at hP'
    simp only [hP', Option.map_some, Option.bind_some]
section
variable {t e n : Int} {w : Nat} {a1 a2 a3 a4 a5 a6 a7 a8 a14 a15 a16 a17 a18 a19 a20 a21 a22 a23 a24 a25 a26 : Option Sl} {j : Jr}
theorem corner_loop (ht : t = 6 ∨ t = 12) (hw : w < 4) : ∀ (cs : List PI) (ds : List PI) (b14 b15 b16 : Option Sl), cs.length + ds.length ≤ 1000 →
    ∃ (c14 c15 c16 : Option Sl), loopS (gNm 14) (sSeq (sAsg (mCall F_law_turned (mCons (mVar 10) (mCons (mVar 14) mNil))) (gTp (gsCons (gNm 15) (gsCons (gNm 16) gsNil)))) (sApp 13 (mTup (mCons (mBin fAdd (mBin fMul (mVar 9) (mVar 15)) (mVar 11)) (mCons (mBin fAdd (mBin fMul (mVar 9) (mVar 16)) (mVar 12)) mNil))))) (cs.map pI)
      [some .jar, a1, a2, a3, a4, a5, a6, a7, a8, some (.d (.int t)), some (.d (.int w)), some (.d (.int e)), some (.d (.int n)), some (.own (ds.map pI)), b14, b15, b16, a17, a18, a19, a20, a21, a22, a23, a24, a25, a26] j =
    some (.nx, [some .jar, a1, a2, a3, a4, a5, a6, a7, a8, some (.d (.int t)), some (.d (.int w)), some (.d (.int e)), some (.d (.int n)), some (.own ((ds ++ (lay t w cs).map (tr e n)).map pI)), c14, c15, c16, a17, a18, a19, a20, a21, a22, a23, a24, a25, a26], j)
  | [], ds, b14, b15, b16, _ => ⟨b14, b15, b16, by simp [loopS, lay]⟩
  | c :: cs, ds, b14, b15, b16, hl => by
    obtain ⟨c14, c15, c16, ih⟩ := corner_loop ht hw cs (ds ++ [(t * (trn c w).1 + e, t * (trn c w).2 + n)]) (some (.d (pI c))) (some (.d (.int (trn c w).1))) (some (.d (.int (trn c w).2))) (by simp at hl ⊢; omega)
    refine ⟨c14, c15, c16, ?_⟩
    have eT := turned_eq c w hw
    have m1 : mulOk t (trn c w).1 = true := mul_sm (by omega)
    have m2 : mulOk t (trn c w).2 = true := mul_sm (by omega)
    have hlen : ds.length < 16777216 := by
      simp at hl
      omega
    have ea : ((ds ++ [(t * (trn c w).1 + e, t * (trn c w).2 + n)]).map pI) = ds.map pI ++ [.tuple [.int (t * (trn c w).1 + e), .int (t * (trn c w).2 + n)]] := by simp [pI]
    rw [ea] at ih
    have er : (ds ++ (lay t w (c :: cs)).map (tr e n)) = (ds ++ [(t * (trn c w).1 + e, t * (trn c w).2 + n)]) ++ (lay t w cs).map (tr e n) := by simp [lay, tr]
    have ep : pI (trn c w) = .tuple [.int (trn c w).1, .int (trn c w).2] := rfl
    rw [ep] at eT
    rw [List.map_cons, er, ← ih]
    simp only [runF, runJ, r0, outD, sSeq, sNil, sRet, sRetN, sPass, sIf, sSet, sOwn, sPar, sAsg, sApp, sExt, sEx, sFor, sFrz, sSetI, loopS, putR, Cv.sl, pNil, pD, pO, mVar, mOwn, mC, mBin, mUn, mTst, asB, mIf, mNot, mAnd, mOr, mAndV, mOrV, mNotV, mNil, mCons, mTup, mLst, mCh, mIsN, mNotN, isN, mL, mDisp, mCall, mSl, mOn, mOs, slD, mRow, rowD, sqD, mZip, mEnum, mLc, lcS, wipeR, mYes, mLc2E, lc2E, gNm, gTp, gsCons, gsNil, gTuple, gList, gAll, bools, fAdd, fSub, fCmp, fNeg, List.map, List.set, Option.bind_some, Option.map_some, Option.bind_none, Option.map_none, List.getElem?_cons_zero, List.getElem?_cons_succ, List.length_cons, List.length_nil, List.length_map, List.append_eq, List.nil_append, List.cons_append, List.replicate, Nat.reduceSub, Nat.reduceAdd, Nat.reduceLeDiff, Nat.reduceLT, lineN, Nat.zero_le, Nat.zero_add, reduceIte, if_true, if_false, Bool.false_eq_true, Bool.not_true, Bool.not_false, List.zipWith, List.zipIdx, List.zipIdx_cons, List.zipIdx_nil, mCallJ, eT, fMul_ok m1, fMul_ok m2, hlen]
end
def gT4 : Sm := (sSeq (sPar [9, 10] (pD (mBin fMul (mC (.int 6)) (mCallJ 0 J_law_pick (mCons (mTup (mCons (mC (.int 1)) (mCons (mC (.int 2)) (mCons (mC (.int 1)) mNil)))) mNil))) (pD (mCallJ 0 J_law_draw (mCons (mC (.int 4)) mNil)) pNil))) (sSeq (sPar [11, 12] (pD (mCallJ 0 J_law_draw (mCons (mC (.int 31)) mNil)) (pD (mCallJ 0 J_law_draw (mCons (mC (.int 31)) mNil)) pNil))) (sSeq (sOwn 13 (mDisp mNil)) (sSeq (sFor (mRow (mCallJ 0 J_law_shape (mCons (mVar 5) (mCons (mVar 7) (mCons (mVar 1) mNil))))) (gNm 14) (sSeq (sAsg (mCall F_law_turned (mCons (mVar 10) (mCons (mVar 14) mNil))) (gTp (gsCons (gNm 15) (gsCons (gNm 16) gsNil)))) (sApp 13 (mTup (mCons (mBin fAdd (mBin fMul (mVar 9) (mVar 15)) (mVar 11)) (mCons (mBin fAdd (mBin fMul (mVar 9) (mVar 16)) (mVar 12)) mNil)))))) (sSeq (sIf (mTst (mBin fEq (mCallJ 0 J_law_draw (mCons (mC (.int 3)) mNil)) (mC (.int 0)))) (sSeq (sSet 4 (mCallJ 0 J_law_draw (mCons (mUn gLen (mOwn 13)) mNil))) (sSetI 13 (mTup (mCons (mBin fSub (mBin fAdd (mBin fIx (mBin fIx (mOwn 13) (mVar 4)) (mC (.int 0))) (mCallJ 0 J_law_draw (mCons (mC (.int 3)) mNil))) (mC (.int 1))) (mCons (mBin fSub (mBin fAdd (mBin fIx (mBin fIx (mOwn 13) (mVar 4)) (mC (.int 1))) (mCallJ 0 J_law_draw (mCons (mC (.int 3)) mNil))) (mC (.int 1))) mNil))) (mVar 4))) sNil) (sFrz 13 (sSeq (sSet 17 (mCall F_law_turned (mCons (mVar 10) (mCons (mTup (mCons (mBin fAdd (mVar 5) (mVar 7)) (mCons (mC (.int 0)) mNil))) mNil)))) (sSeq (sPar [18, 19] (pD (mBin fSub (mCallJ 0 J_law_draw (mCons (mC (.int 41)) mNil)) (mC (.int 20))) (pD (mBin fSub (mVar 8) (mVar 6)) pNil))) (sSeq (sSet 20 (mBin fMul (mCallJ 0 J_law_pick (mCons (mTup (mCons (mVar 19) (mCons (mVar 19) (mCons (mBin fSub (mC (.int 0)) (mVar 19)) (mCons (mC (.int 0)) (mCons (mBin fAdd (mVar 5) (mVar 7)) (mCons (mBin fSub (mBin fSub (mC (.int 0)) (mVar 5)) (mVar 7)) (mCons (mVar 19) mNil)))))))) mNil)) (mVar 9))) (sSeq (sSet 20 (mBin fAdd (mVar 20) (mCallJ 0 J_law_pick (mCons (mTup (mCons (mC (.int 0)) (mCons (mC (.int 0)) (mCons (mC (.int 0)) (mCons (mC (.int 1)) (mCons (mUn fNeg (mC (.int 1))) mNil)))))) mNil)))) (sSeq (sSet 21 (mLst (mCons (mTup (mCons (mVar 11) (mCons (mVar 12) mNil))) (mCons (mTup (mCons (mBin fAdd (mBin fMul (mVar 9) (mBin fIx (mVar 17) (mC (.int 0)))) (mVar 11)) (mCons (mBin fAdd (mBin fMul (mVar 9) (mBin fIx (mVar 17) (mC (.int 1)))) (mVar 12)) mNil))) mNil)))) (sSeq (sSet 22 (mLst (mCons (mTup (mCons (mC (.int 0)) (mCons (mVar 18) (mCons (mC .none) mNil)))) (mCons (mTup (mCons (mC (.int 1)) (mCons (mC .none) (mCons (mBin fAdd (mVar 18) (mVar 20)) mNil)))) mNil)))) (sSeq (sIf (mTst (mBin fEq (mCallJ 0 J_law_draw (mCons (mC (.int 2)) mNil)) (mC (.int 0)))) (sSet 22 (mLst (mCons (mTup (mCons (mC (.int 1)) (mCons (mVar 18) (mCons (mC .none) mNil)))) (mCons (mTup (mCons (mC (.int 0)) (mCons (mC .none) (mCons (mBin fAdd (mVar 18) (mVar 20)) mNil)))) mNil)))) sNil) (sSeq (sPar [23, 24] (pD (mTup (mCons (mVar 21) (mCons (mVar 22) (mCons (mLst mNil) mNil)))) (pD (mCall F_law_shown_corners (mCons (mVar 13) mNil)) pNil))) (sSeq (sSet 25 (mCall F_shut_place (mCons (mCall F_law_scene (mCons (mVar 23) mNil)) (mCons (mVar 24) mNil)))) (sSeq (sIf (mNot (mTst (mCall F_law_is_answer (mCons (mVar 25) (mCons (mVar 23) (mCons (mVar 13) mNil)))))) (sRet (mC (.bool false))) sNil) (sSeq (sFor (mRng1 (mCons (mC (.int 6)) mNil)) (gNm 26) (sIf (mAnd (mTst (mIsN (mVar 25))) (mNot (mTst (mCall F_law_is_let_at (mCons (mVar 23) (mCons (mCallJ 0 J_law_inner (mCons (mVar 13) mNil)) mNil)))))) (sRet (mC (.bool false))) sNil)) (sRet (mC (.bool true))))))))))))))))))))
def gT7 : Sm := (sSeq (sFor (mRow (mCallJ 0 J_law_shape (mCons (mVar 5) (mCons (mVar 7) (mCons (mVar 1) mNil))))) (gNm 14) (sSeq (sAsg (mCall F_law_turned (mCons (mVar 10) (mCons (mVar 14) mNil))) (gTp (gsCons (gNm 15) (gsCons (gNm 16) gsNil)))) (sApp 13 (mTup (mCons (mBin fAdd (mBin fMul (mVar 9) (mVar 15)) (mVar 11)) (mCons (mBin fAdd (mBin fMul (mVar 9) (mVar 16)) (mVar 12)) mNil)))))) (sSeq (sIf (mTst (mBin fEq (mCallJ 0 J_law_draw (mCons (mC (.int 3)) mNil)) (mC (.int 0)))) (sSeq (sSet 4 (mCallJ 0 J_law_draw (mCons (mUn gLen (mOwn 13)) mNil))) (sSetI 13 (mTup (mCons (mBin fSub (mBin fAdd (mBin fIx (mBin fIx (mOwn 13) (mVar 4)) (mC (.int 0))) (mCallJ 0 J_law_draw (mCons (mC (.int 3)) mNil))) (mC (.int 1))) (mCons (mBin fSub (mBin fAdd (mBin fIx (mBin fIx (mOwn 13) (mVar 4)) (mC (.int 1))) (mCallJ 0 J_law_draw (mCons (mC (.int 3)) mNil))) (mC (.int 1))) mNil))) (mVar 4))) sNil) (sFrz 13 (sSeq (sSet 17 (mCall F_law_turned (mCons (mVar 10) (mCons (mTup (mCons (mBin fAdd (mVar 5) (mVar 7)) (mCons (mC (.int 0)) mNil))) mNil)))) (sSeq (sPar [18, 19] (pD (mBin fSub (mCallJ 0 J_law_draw (mCons (mC (.int 41)) mNil)) (mC (.int 20))) (pD (mBin fSub (mVar 8) (mVar 6)) pNil))) (sSeq (sSet 20 (mBin fMul (mCallJ 0 J_law_pick (mCons (mTup (mCons (mVar 19) (mCons (mVar 19) (mCons (mBin fSub (mC (.int 0)) (mVar 19)) (mCons (mC (.int 0)) (mCons (mBin fAdd (mVar 5) (mVar 7)) (mCons (mBin fSub (mBin fSub (mC (.int 0)) (mVar 5)) (mVar 7)) (mCons (mVar 19) mNil)))))))) mNil)) (mVar 9))) (sSeq (sSet 20 (mBin fAdd (mVar 20) (mCallJ 0 J_law_pick (mCons (mTup (mCons (mC (.int 0)) (mCons (mC (.int 0)) (mCons (mC (.int 0)) (mCons (mC (.int 1)) (mCons (mUn fNeg (mC (.int 1))) mNil)))))) mNil)))) (sSeq (sSet 21 (mLst (mCons (mTup (mCons (mVar 11) (mCons (mVar 12) mNil))) (mCons (mTup (mCons (mBin fAdd (mBin fMul (mVar 9) (mBin fIx (mVar 17) (mC (.int 0)))) (mVar 11)) (mCons (mBin fAdd (mBin fMul (mVar 9) (mBin fIx (mVar 17) (mC (.int 1)))) (mVar 12)) mNil))) mNil)))) (sSeq (sSet 22 (mLst (mCons (mTup (mCons (mC (.int 0)) (mCons (mVar 18) (mCons (mC .none) mNil)))) (mCons (mTup (mCons (mC (.int 1)) (mCons (mC .none) (mCons (mBin fAdd (mVar 18) (mVar 20)) mNil)))) mNil)))) (sSeq (sIf (mTst (mBin fEq (mCallJ 0 J_law_draw (mCons (mC (.int 2)) mNil)) (mC (.int 0)))) (sSet 22 (mLst (mCons (mTup (mCons (mC (.int 1)) (mCons (mVar 18) (mCons (mC .none) mNil)))) (mCons (mTup (mCons (mC (.int 0)) (mCons (mC .none) (mCons (mBin fAdd (mVar 18) (mVar 20)) mNil)))) mNil)))) sNil) (sSeq (sPar [23, 24] (pD (mTup (mCons (mVar 21) (mCons (mVar 22) (mCons (mLst mNil) mNil)))) (pD (mCall F_law_shown_corners (mCons (mVar 13) mNil)) pNil))) (sSeq (sSet 25 (mCall F_shut_place (mCons (mCall F_law_scene (mCons (mVar 23) mNil)) (mCons (mVar 24) mNil)))) (sSeq (sIf (mNot (mTst (mCall F_law_is_answer (mCons (mVar 25) (mCons (mVar 23) (mCons (mVar 13) mNil)))))) (sRet (mC (.bool false))) sNil) (sSeq (sFor (mRng1 (mCons (mC (.int 6)) mNil)) (gNm 26) (sIf (mAnd (mTst (mIsN (mVar 25))) (mNot (mTst (mCall F_law_is_let_at (mCons (mVar 23) (mCons (mCallJ 0 J_law_inner (mCons (mVar 13) mNil)) mNil)))))) (sRet (mC (.bool false))) sNil)) (sRet (mC (.bool true)))))))))))))))))
def gT8 : Sm := (sSeq (sIf (mTst (mBin fEq (mCallJ 0 J_law_draw (mCons (mC (.int 3)) mNil)) (mC (.int 0)))) (sSeq (sSet 4 (mCallJ 0 J_law_draw (mCons (mUn gLen (mOwn 13)) mNil))) (sSetI 13 (mTup (mCons (mBin fSub (mBin fAdd (mBin fIx (mBin fIx (mOwn 13) (mVar 4)) (mC (.int 0))) (mCallJ 0 J_law_draw (mCons (mC (.int 3)) mNil))) (mC (.int 1))) (mCons (mBin fSub (mBin fAdd (mBin fIx (mBin fIx (mOwn 13) (mVar 4)) (mC (.int 1))) (mCallJ 0 J_law_draw (mCons (mC (.int 3)) mNil))) (mC (.int 1))) mNil))) (mVar 4))) sNil) (sFrz 13 (sSeq (sSet 17 (mCall F_law_turned (mCons (mVar 10) (mCons (mTup (mCons (mBin fAdd (mVar 5) (mVar 7)) (mCons (mC (.int 0)) mNil))) mNil)))) (sSeq (sPar [18, 19] (pD (mBin fSub (mCallJ 0 J_law_draw (mCons (mC (.int 41)) mNil)) (mC (.int 20))) (pD (mBin fSub (mVar 8) (mVar 6)) pNil))) (sSeq (sSet 20 (mBin fMul (mCallJ 0 J_law_pick (mCons (mTup (mCons (mVar 19) (mCons (mVar 19) (mCons (mBin fSub (mC (.int 0)) (mVar 19)) (mCons (mC (.int 0)) (mCons (mBin fAdd (mVar 5) (mVar 7)) (mCons (mBin fSub (mBin fSub (mC (.int 0)) (mVar 5)) (mVar 7)) (mCons (mVar 19) mNil)))))))) mNil)) (mVar 9))) (sSeq (sSet 20 (mBin fAdd (mVar 20) (mCallJ 0 J_law_pick (mCons (mTup (mCons (mC (.int 0)) (mCons (mC (.int 0)) (mCons (mC (.int 0)) (mCons (mC (.int 1)) (mCons (mUn fNeg (mC (.int 1))) mNil)))))) mNil)))) (sSeq (sSet 21 (mLst (mCons (mTup (mCons (mVar 11) (mCons (mVar 12) mNil))) (mCons (mTup (mCons (mBin fAdd (mBin fMul (mVar 9) (mBin fIx (mVar 17) (mC (.int 0)))) (mVar 11)) (mCons (mBin fAdd (mBin fMul (mVar 9) (mBin fIx (mVar 17) (mC (.int 1)))) (mVar 12)) mNil))) mNil)))) (sSeq (sSet 22 (mLst (mCons (mTup (mCons (mC (.int 0)) (mCons (mVar 18) (mCons (mC .none) mNil)))) (mCons (mTup (mCons (mC (.int 1)) (mCons (mC .none) (mCons (mBin fAdd (mVar 18) (mVar 20)) mNil)))) mNil)))) (sSeq (sIf (mTst (mBin fEq (mCallJ 0 J_law_draw (mCons (mC (.int 2)) mNil)) (mC (.int 0)))) (sSet 22 (mLst (mCons (mTup (mCons (mC (.int 1)) (mCons (mVar 18) (mCons (mC .none) mNil)))) (mCons (mTup (mCons (mC (.int 0)) (mCons (mC .none) (mCons (mBin fAdd (mVar 18) (mVar 20)) mNil)))) mNil)))) sNil) (sSeq (sPar [23, 24] (pD (mTup (mCons (mVar 21) (mCons (mVar 22) (mCons (mLst mNil) mNil)))) (pD (mCall F_law_shown_corners (mCons (mVar 13) mNil)) pNil))) (sSeq (sSet 25 (mCall F_shut_place (mCons (mCall F_law_scene (mCons (mVar 23) mNil)) (mCons (mVar 24) mNil)))) (sSeq (sIf (mNot (mTst (mCall F_law_is_answer (mCons (mVar 25) (mCons (mVar 23) (mCons (mVar 13) mNil)))))) (sRet (mC (.bool false))) sNil) (sSeq (sFor (mRng1 (mCons (mC (.int 6)) mNil)) (gNm 26) (sIf (mAnd (mTst (mIsN (mVar 25))) (mNot (mTst (mCall F_law_is_let_at (mCons (mVar 23) (mCons (mCallJ 0 J_law_inner (mCons (mVar 13) mNil)) mNil)))))) (sRet (mC (.bool false))) sNil)) (sRet (mC (.bool true))))))))))))))))
def gM8 (X : Sm) : Sm := (sSeq (sIf (mTst (mBin fEq (mCallJ 0 J_law_draw (mCons (mC (.int 3)) mNil)) (mC (.int 0)))) (sSeq (sSet 4 (mCallJ 0 J_law_draw (mCons (mUn gLen (mOwn 13)) mNil))) (sSetI 13 (mTup (mCons (mBin fSub (mBin fAdd (mBin fIx (mBin fIx (mOwn 13) (mVar 4)) (mC (.int 0))) (mCallJ 0 J_law_draw (mCons (mC (.int 3)) mNil))) (mC (.int 1))) (mCons (mBin fSub (mBin fAdd (mBin fIx (mBin fIx (mOwn 13) (mVar 4)) (mC (.int 1))) (mCallJ 0 J_law_draw (mCons (mC (.int 3)) mNil))) (mC (.int 1))) mNil))) (mVar 4))) sNil) X)
theorem gT8_split : gT8 = gM8 (sFrz 13 gT10) := rfl
section
variable {a near b wide t e n h : Int} {w : Nat} {a1 a2 a3 a4 a14 a15 a16 a17 a18 a19 a20 a21 a22 a23 a24 a25 a26 : Option Sl} {j : Jr}
theorem tail8 {cs : List PI} (hj : J3 j) (hcs : cs ∈ shp a b h) (hc : (h, a, b, near, wide) ∈ tbl) (ht : t = 6 ∨ t = 12) (hw : w < 4) (he : 0 ≤ e ∧ e ≤ 31) (hn : 0 ≤ n ∧ n ≤ 31) :
    ∃ r' j', gT8 [some .jar, a1, a2, a3, a4, some (.d (.int a)), some (.d (.int near)), some (.d (.int b)), some (.d (.int wide)), some (.d (.int t)), some (.d (.int w)), some (.d (.int e)), some (.d (.int n)), some (.own (((lay t w cs).map (tr e n)).map pI)), a14, a15, a16, a17, a18, a19, a20, a21, a22, a23, a24, a25, a26] j = some (.rt (.bool true), r', j') := by
  have ok := all_ok hc ht hw
  unfold okC at ok
  simp only [List.all_eq_true] at ok
  have ok1 := ok cs hcs
  simp only [Bool.and_eq_true, List.all_eq_true, List.mem_range] at ok1
  obtain ⟨ok1, ok2⟩ := ok1
  have hlen : 1 ≤ cs.length ∧ cs.length ≤ 8 := by
    have g := good_of ok1 he hn
    have l3 := g.l3
    have l8 := g.l8
    simp only [List.length_map, lay] at l3 l8
    omega
  rw [gT8_split]
  unfold gM8
  obtain ⟨v, j1, ed, h3, v0, v1⟩ := draw_eq (n := 3) hj (by decide) (by decide)
  by_cases hv : v = 0
  · subst hv
    obtain ⟨i, j2, ei, h4, i0, i1⟩ := draw_eq (n := ((((lay t w cs).map (tr e n)).map pI).length : Nat)) h3 (by simp [lay]; omega) (by simp [lay]; omega)
    obtain ⟨u, j3, eu, h5, u0, u1⟩ := draw_eq (n := 3) h4 (by decide) (by decide)
    obtain ⟨z, j4, ez, h6, z0, z1⟩ := draw_eq (n := 3) h5 (by decide) (by decide)
    have hi : i.toNat < cs.length := by
      simp only [List.length_map, lay] at i1
      omega
    have hu : u ∈ [(0 : Int), 1, 2] := by simp; omega
    have hz : z ∈ [(0 : Int), 1, 2] := by simp; omega
    have okb := ok2 i.toNat hi u hu z hz
    have g := good_of okb he hn
    obtain ⟨r', j', E⟩ := tail10 (a1 := a1) (a2 := a2) (a3 := a3) (a4 := some (.d (.int i))) (a14 := a14) (a15 := a15) (a16 := a16) (a17 := a17) (a18 := a18) (a19 := a19) (a20 := a20) (a21 := a21) (a22 := a22) (a23 := a23) (a24 := a24) (a25 := a25) (a26 := a26) h6 g hc ht hw he hn
    refine ⟨r', j', ?_⟩
    rw [← E]
    have hl2 : i.toNat < ((lay t w cs).map (tr e n)).length := by simp only [List.length_map, lay]; exact hi
    have eix : fIx (.list (((lay t w cs).map (tr e n)).map pI)) (.int i) = some (pI (tr e n (atL (lay t w cs) i.toNat))) := by
      have q := fIx_at hl2
      have e1 : (0 : Int) + (i.toNat : Int) = i := by omega
      rw [e1] at q
      rw [q]
      congr 2
      unfold atL
      have hl3 : i.toNat < (lay t w cs).length := by simp only [List.length_map] at hl2; exact hl2
      simp [hl3]
    have c0 : fIx (pI (tr e n (atL (lay t w cs) i.toNat))) (.int 0) = some (.int ((atL (lay t w cs) i.toNat).1 + e)) := rfl
    have c1 : fIx (pI (tr e n (atL (lay t w cs) i.toNat))) (.int 1) = some (.int ((atL (lay t w cs) i.toNat).2 + n)) := rfl
    have el : gLen (.list (((lay t w cs).map (tr e n)).map pI)) = some (.int ((((lay t w cs).map (tr e n)).map pI).length : Nat)) := rfl
    have eb : ((bump i.toNat u z (lay t w cs)).map (tr e n)).map pI = (((lay t w cs).map (tr e n)).map pI).set i.toNat (.tuple [.int ((atL (lay t w cs) i.toNat).1 + e + u - 1), .int ((atL (lay t w cs) i.toNat).2 + n + z - 1)]) := by
      unfold bump
      rw [List.map_set, List.map_set]
      congr 1
      unfold tr pI
      simp only
      have k1 : (atL (lay t w cs) i.toNat).1 + u - 1 + e = (atL (lay t w cs) i.toNat).1 + e + u - 1 := by omega
      have k2 : (atL (lay t w cs) i.toNat).2 + z - 1 + n = (atL (lay t w cs) i.toNat).2 + n + z - 1 := by omega
      rw [k1, k2]
    have exN : ixN ((((lay t w cs).map (tr e n)).map pI).length) i = some i.toNat := by
      unfold ixN
      rw [if_pos i0, if_pos i1]
    rw [eb]
    generalize ((lay t w cs).map (tr e n)).map pI = Q at *
    have ef : fEq (.int 0) (.int 0) = some (.bool true) := rfl
    simp only [runF, runJ, r0, outD, sSeq, sNil, sRet, sRetN, sPass, sIf, sSet, sOwn, sPar, sAsg, sApp, sExt, sEx, sFor, sFrz, sSetI, loopS, putR, Cv.sl, pNil, pD, pO, mVar, mOwn, mC, mBin, mUn, mTst, asB, mIf, mNot, mAnd, mOr, mAndV, mOrV, mNotV, mNil, mCons, mTup, mLst, mCh, mIsN, mNotN, isN, mL, mDisp, mCall, mSl, mOn, mOs, slD, mRow, rowD, sqD, mZip, mEnum, mLc, lcS, wipeR, mYes, mLc2E, lc2E, gNm, gTp, gsCons, gsNil, gTuple, gList, gAll, bools, fAdd, fSub, fCmp, fNeg, List.map, List.set, Option.bind_some, Option.map_some, Option.bind_none, Option.map_none, List.getElem?_cons_zero, List.getElem?_cons_succ, List.length_cons, List.length_nil, List.length_map, List.append_eq, List.nil_append, List.cons_append, List.replicate, Nat.reduceSub, Nat.reduceAdd, Nat.reduceLeDiff, Nat.reduceLT, lineN, Nat.zero_le, Nat.zero_add, reduceIte, if_true, if_false, Bool.false_eq_true, Bool.not_true, Bool.not_false, List.zipWith, List.zipIdx, List.zipIdx_cons, List.zipIdx_nil, mCallJ, ed, ei, eu, ez, el, eix, c0, c1, exN, ef]
  · have g := good_of ok1 he hn
    obtain ⟨r', j', E⟩ := tail10 (a1 := a1) (a2 := a2) (a3 := a3) (a4 := a4) (a14 := a14) (a15 := a15) (a16 := a16) (a17 := a17) (a18 := a18) (a19 := a19) (a20 := a20) (a21 := a21) (a22 := a22) (a23 := a23) (a24 := a24) (a25 := a25) (a26 := a26) h3 g hc ht hw he hn
    refine ⟨r', j', ?_⟩
    rw [← E]
    have ef : fEq (.int v) (.int 0) = some (.bool false) := by
      have hv' : v = 1 ∨ v = 2 := by omega
      rcases hv' with rfl | rfl <;> rfl
    simp only [runF, runJ, r0, outD, sSeq, sNil, sRet, sRetN, sPass, sIf, sSet, sOwn, sPar, sAsg, sApp, sExt, sEx, sFor, sFrz, sSetI, loopS, putR, Cv.sl, pNil, pD, pO, mVar, mOwn, mC, mBin, mUn, mTst, asB, mIf, mNot, mAnd, mOr, mAndV, mOrV, mNotV, mNil, mCons, mTup, mLst, mCh, mIsN, mNotN, isN, mL, mDisp, mCall, mSl, mOn, mOs, slD, mRow, rowD, sqD, mZip, mEnum, mLc, lcS, wipeR, mYes, mLc2E, lc2E, gNm, gTp, gsCons, gsNil, gTuple, gList, gAll, bools, fAdd, fSub, fCmp, fNeg, List.map, List.set, Option.bind_some, Option.map_some, Option.bind_none, Option.map_none, List.getElem?_cons_zero, List.getElem?_cons_succ, List.length_cons, List.length_nil, List.length_map, List.append_eq, List.nil_append, List.cons_append, List.replicate, Nat.reduceSub, Nat.reduceAdd, Nat.reduceLeDiff, Nat.reduceLT, lineN, Nat.zero_le, Nat.zero_add, reduceIte, if_true, if_false, Bool.false_eq_true, Bool.not_true, Bool.not_false, List.zipWith, List.zipIdx, List.zipIdx_cons, List.zipIdx_nil, mCallJ, ed, ef]
end
end K29
end
section
set_option Elab.async false
set_option linter.all false
set_option autoImplicit false
set_option maxRecDepth 100000
namespace K29
open PySem PySem.Spec PyProof.Rows L2 Ev Ar
def gComp : M Dt := (mL (mLc (mRng3 (mCons (mC (.int 2)) (mCons (mVar 1) (mCons (mC (.int 2)) mNil)))) (gNm 3) (mTst (mBin fEq (mBin fMod (mUn gInt (mBin fMul (mVar 1) (mVar 1))) (mBin fMul (mC (.int 2)) (mVar 3))) (mC (.int 0)))) (mVar 3) [3]))
def gSz : Sm := (sAsg (mTup (mCons (mCall F_law_sized (mCons (mVar 1) (mCons (mBin fIx (mVar 2) (mBin fAdd (mVar 4) (mC (.int 1)))) mNil))) (mCons (mCall F_law_sized (mCons (mVar 1) (mCons (mBin fIx (mVar 2) (mVar 4)) mNil))) mNil))) (gTp (gsCons (gTp (gsCons (gNm 5) (gsCons (gNm 6) gsNil))) (gsCons (gTp (gsCons (gNm 7) (gsCons (gNm 8) gsNil))) gsNil))))
def gM0 (X : Sm) : Sm := (sSeq (sSet 1 (mCallJ 0 J_law_pick (mCons (mTup (mCons (mC (.int 12)) (mCons (mC (.int 24)) (mCons (mC (.int 8)) mNil)))) mNil))) (sSeq (sSet 2 gComp) (sSeq (sSet 4 (mCallJ 0 J_law_draw (mCons (mBin fSub (mUn gLen (mVar 2)) (mC (.int 1))) mNil))) (sSeq gSz X))))
def gM4 (X : Sm) : Sm := (sSeq (sPar [9, 10] (pD (mBin fMul (mC (.int 6)) (mCallJ 0 J_law_pick (mCons (mTup (mCons (mC (.int 1)) (mCons (mC (.int 2)) (mCons (mC (.int 1)) mNil)))) mNil))) (pD (mCallJ 0 J_law_draw (mCons (mC (.int 4)) mNil)) pNil))) (sSeq (sPar [11, 12] (pD (mCallJ 0 J_law_draw (mCons (mC (.int 31)) mNil)) (pD (mCallJ 0 J_law_draw (mCons (mC (.int 31)) mNil)) pNil))) (sSeq (sOwn 13 (mDisp mNil)) X)))
def gM7 (X : Sm) : Sm := (sSeq (sFor (mRow (mCallJ 0 J_law_shape (mCons (mVar 5) (mCons (mVar 7) (mCons (mVar 1) mNil))))) (gNm 14) (sSeq (sAsg (mCall F_law_turned (mCons (mVar 10) (mCons (mVar 14) mNil))) (gTp (gsCons (gNm 15) (gsCons (gNm 16) gsNil)))) (sApp 13 (mTup (mCons (mBin fAdd (mBin fMul (mVar 9) (mVar 15)) (mVar 11)) (mCons (mBin fAdd (mBin fMul (mVar 9) (mVar 16)) (mVar 12)) mNil)))))) X)
theorem right_split : g_law_right = gM0 gT4 := rfl
theorem gT4_split : gT4 = gM4 gT7 := rfl
theorem gT7_split : gT7 = gM7 gT8 := rfl
def reg (h : Int) (L : Option Sl) (at_ : Option Sl) (a b c d : Option Sl) : Rg := [some .jar, some (.d (.int h)), L, none, at_, a, b, c, d, none, none, none, none, none, none, none, none, none, none, none, none, none, none, none, none, none, none]
def lst (ds : List Int) : Dt := .list (ds.map .int)

theorem comp_12 (j : Jr) : gComp (reg 12 none none none none none none) j = some (lst [2, 4, 6, 8], j) := by kernel_rfl
theorem sz_12_0 (j : Jr) : gSz (reg 12 (some (.d (lst [2, 4, 6, 8]))) (some (.d (.int 0))) none none none none) j = some (.nx, reg 12 (some (.d (lst [2, 4, 6, 8]))) (some (.d (.int 0))) (some (.d (.int 16))) (some (.d (.int 20))) (some (.d (.int 35))) (some (.d (.int 37))), j) := by kernel_rfl
theorem sz_12_1 (j : Jr) : gSz (reg 12 (some (.d (lst [2, 4, 6, 8]))) (some (.d (.int 1))) none none none none) j = some (.nx, reg 12 (some (.d (lst [2, 4, 6, 8]))) (some (.d (.int 1))) (some (.d (.int 9))) (some (.d (.int 15))) (some (.d (.int 16))) (some (.d (.int 20))), j) := by kernel_rfl
theorem sz_12_2 (j : Jr) : gSz (reg 12 (some (.d (lst [2, 4, 6, 8]))) (some (.d (.int 2))) none none none none) j = some (.nx, reg 12 (some (.d (lst [2, 4, 6, 8]))) (some (.d (.int 2))) (some (.d (.int 5))) (some (.d (.int 13))) (some (.d (.int 9))) (some (.d (.int 15))), j) := by kernel_rfl
theorem comp_24 (j : Jr) : gComp (reg 24 none none none none none none) j = some (lst [2, 4, 6, 8, 12, 16, 18], j) := by kernel_rfl
theorem sz_24_0 (j : Jr) : gSz (reg 24 (some (.d (lst [2, 4, 6, 8, 12, 16, 18]))) (some (.d (.int 0))) none none none none) j = some (.nx, reg 24 (some (.d (lst [2, 4, 6, 8, 12, 16, 18]))) (some (.d (.int 0))) (some (.d (.int 70))) (some (.d (.int 74))) (some (.d (.int 143))) (some (.d (.int 145))), j) := by kernel_rfl
theorem sz_24_1 (j : Jr) : gSz (reg 24 (some (.d (lst [2, 4, 6, 8, 12, 16, 18]))) (some (.d (.int 1))) none none none none) j = some (.nx, reg 24 (some (.d (lst [2, 4, 6, 8, 12, 16, 18]))) (some (.d (.int 1))) (some (.d (.int 45))) (some (.d (.int 51))) (some (.d (.int 70))) (some (.d (.int 74))), j) := by kernel_rfl
theorem sz_24_2 (j : Jr) : gSz (reg 24 (some (.d (lst [2, 4, 6, 8, 12, 16, 18]))) (some (.d (.int 2))) none none none none) j = some (.nx, reg 24 (some (.d (lst [2, 4, 6, 8, 12, 16, 18]))) (some (.d (.int 2))) (some (.d (.int 32))) (some (.d (.int 40))) (some (.d (.int 45))) (some (.d (.int 51))), j) := by kernel_rfl
theorem sz_24_3 (j : Jr) : gSz (reg 24 (some (.d (lst [2, 4, 6, 8, 12, 16, 18]))) (some (.d (.int 3))) none none none none) j = some (.nx, reg 24 (some (.d (lst [2, 4, 6, 8, 12, 16, 18]))) (some (.d (.int 3))) (some (.d (.int 18))) (some (.d (.int 30))) (some (.d (.int 32))) (some (.d (.int 40))), j) := by kernel_rfl
theorem sz_24_4 (j : Jr) : gSz (reg 24 (some (.d (lst [2, 4, 6, 8, 12, 16, 18]))) (some (.d (.int 4))) none none none none) j = some (.nx, reg 24 (some (.d (lst [2, 4, 6, 8, 12, 16, 18]))) (some (.d (.int 4))) (some (.d (.int 10))) (some (.d (.int 26))) (some (.d (.int 18))) (some (.d (.int 30))), j) := by kernel_rfl
theorem sz_24_5 (j : Jr) : gSz (reg 24 (some (.d (lst [2, 4, 6, 8, 12, 16, 18]))) (some (.d (.int 5))) none none none none) j = some (.nx, reg 24 (some (.d (lst [2, 4, 6, 8, 12, 16, 18]))) (some (.d (.int 5))) (some (.d (.int 7))) (some (.d (.int 25))) (some (.d (.int 10))) (some (.d (.int 26))), j) := by kernel_rfl
theorem comp_8 (j : Jr) : gComp (reg 8 none none none none none none) j = some (lst [2, 4], j) := by kernel_rfl
theorem sz_8_0 (j : Jr) : gSz (reg 8 (some (.d (lst [2, 4]))) (some (.d (.int 0))) none none none none) j = some (.nx, reg 8 (some (.d (lst [2, 4]))) (some (.d (.int 0))) (some (.d (.int 6))) (some (.d (.int 10))) (some (.d (.int 15))) (some (.d (.int 17))), j) := by kernel_rfl
theorem head03 {j : Jr} (hj : J3 j) : ∃ (h a near b wide : Int) (L at_ : Option Sl) (j1 : Jr), (h, a, b, near, wide) ∈ tbl ∧ J3 j1 ∧
    ∀ X : Sm, gM0 X [some .jar, none, none, none, none, none, none, none, none, none, none, none, none, none, none, none, none, none, none, none, none, none, none, none, none, none, none] j = X (reg h L at_ (some (.d (.int a))) (some (.d (.int near))) (some (.d (.int b))) (some (.d (.int wide)))) j1 := by
  obtain ⟨d, j1, ep, h1, hm⟩ := pick_eq (ds := [.int 12, .int 24, .int 8]) hj (by decide) (by decide)
  simp only [List.mem_cons, List.not_mem_nil, or_false] at hm
  rcases hm with rfl | rfl | rfl
  · obtain ⟨v, j2, ed, h2, v0, v1⟩ := draw_eq (n := 3) h1 (by decide) (by decide)
    have ec := comp_12 j1
    have el : gLen (lst [2, 4, 6, 8]) = some (.int 4) := rfl
    have es : fSub (.int 4) (.int 1) = some (.int 3) := rfl
    have hv : v = 0 ∨ v = 1 ∨ v = 2 := by omega
    rcases hv with rfl | rfl | rfl
    · refine ⟨12, 16, 20, 35, 37, some (.d (lst [2, 4, 6, 8])), some (.d (.int 0)), j2, by decide, h2, fun X => ?_⟩
      have ez := sz_12_0 j2
      unfold reg at ec ez ⊢
      unfold gM0
      simp only [sSeq, sSet, mCallJ, mTup, mCons, mC, mNil, mBin, mUn, mVar, List.length_cons, List.length_nil, Nat.reduceAdd, Nat.reduceLeDiff, if_true, reduceIte, List.set, List.getElem?_cons_zero, List.getElem?_cons_succ, Option.bind_some, Option.map_some, ep, ec, el, es, ed, ez]
    · refine ⟨12, 9, 15, 16, 20, some (.d (lst [2, 4, 6, 8])), some (.d (.int 1)), j2, by decide, h2, fun X => ?_⟩
      have ez := sz_12_1 j2
      unfold reg at ec ez ⊢
      unfold gM0
      simp only [sSeq, sSet, mCallJ, mTup, mCons, mC, mNil, mBin, mUn, mVar, List.length_cons, List.length_nil, Nat.reduceAdd, Nat.reduceLeDiff, if_true, reduceIte, List.set, List.getElem?_cons_zero, List.getElem?_cons_succ, Option.bind_some, Option.map_some, ep, ec, el, es, ed, ez]
    · refine ⟨12, 5, 13, 9, 15, some (.d (lst [2, 4, 6, 8])), some (.d (.int 2)), j2, by decide, h2, fun X => ?_⟩
      have ez := sz_12_2 j2
      unfold reg at ec ez ⊢
      unfold gM0
      simp only [sSeq, sSet, mCallJ, mTup, mCons, mC, mNil, mBin, mUn, mVar, List.length_cons, List.length_nil, Nat.reduceAdd, Nat.reduceLeDiff, if_true, reduceIte, List.set, List.getElem?_cons_zero, List.getElem?_cons_succ, Option.bind_some, Option.map_some, ep, ec, el, es, ed, ez]
  · obtain ⟨v, j2, ed, h2, v0, v1⟩ := draw_eq (n := 6) h1 (by decide) (by decide)
    have ec := comp_24 j1
    have el : gLen (lst [2, 4, 6, 8, 12, 16, 18]) = some (.int 7) := rfl
    have es : fSub (.int 7) (.int 1) = some (.int 6) := rfl
    have hv : v = 0 ∨ v = 1 ∨ v = 2 ∨ v = 3 ∨ v = 4 ∨ v = 5 := by omega
    rcases hv with rfl | rfl | rfl | rfl | rfl | rfl
    · refine ⟨24, 70, 74, 143, 145, some (.d (lst [2, 4, 6, 8, 12, 16, 18])), some (.d (.int 0)), j2, by decide, h2, fun X => ?_⟩
      have ez := sz_24_0 j2
      unfold reg at ec ez ⊢
      unfold gM0
      simp only [sSeq, sSet, mCallJ, mTup, mCons, mC, mNil, mBin, mUn, mVar, List.length_cons, List.length_nil, Nat.reduceAdd, Nat.reduceLeDiff, if_true, reduceIte, List.set, List.getElem?_cons_zero, List.getElem?_cons_succ, Option.bind_some, Option.map_some, ep, ec, el, es, ed, ez]
    · refine ⟨24, 45, 51, 70, 74, some (.d (lst [2, 4, 6, 8, 12, 16, 18])), some (.d (.int 1)), j2, by decide, h2, fun X => ?_⟩
      have ez := sz_24_1 j2
      unfold reg at ec ez ⊢
      unfold gM0
      simp only [sSeq, sSet, mCallJ, mTup, mCons, mC, mNil, mBin, mUn, mVar, List.length_cons, List.length_nil, Nat.reduceAdd, Nat.reduceLeDiff, if_true, reduceIte, List.set, List.getElem?_cons_zero, List.getElem?_cons_succ, Option.bind_some, Option.map_some, ep, ec, el, es, ed, ez]
    · refine ⟨24, 32, 40, 45, 51, some (.d (lst [2, 4, 6, 8, 12, 16, 18])), some (.d (.int 2)), j2, by decide, h2, fun X => ?_⟩
      have ez := sz_24_2 j2
      unfold reg at ec ez ⊢
      unfold gM0
      simp only [sSeq, sSet, mCallJ, mTup, mCons, mC, mNil, mBin, mUn, mVar, List.length_cons, List.length_nil, Nat.reduceAdd, Nat.reduceLeDiff, if_true, reduceIte, List.set, List.getElem?_cons_zero, List.getElem?_cons_succ, Option.bind_some, Option.map_some, ep, ec, el, es, ed, ez]
    · refine ⟨24, 18, 30, 32, 40, some (.d (lst [2, 4, 6, 8, 12, 16, 18])), some (.d (.int 3)), j2, by decide, h2, fun X => ?_⟩
      have ez := sz_24_3 j2
      unfold reg at ec ez ⊢
      unfold gM0
      simp only [sSeq, sSet, mCallJ, mTup, mCons, mC, mNil, mBin, mUn, mVar, List.length_cons, List.length_nil, Nat.reduceAdd, Nat.reduceLeDiff, if_true, reduceIte, List.set, List.getElem?_cons_zero, List.getElem?_cons_succ, Option.bind_some, Option.map_some, ep, ec, el, es, ed, ez]
    · refine ⟨24, 10, 26, 18, 30, some (.d (lst [2, 4, 6, 8, 12, 16, 18])), some (.d (.int 4)), j2, by decide, h2, fun X => ?_⟩
      have ez := sz_24_4 j2
      unfold reg at ec ez ⊢
      unfold gM0
      simp only [sSeq, sSet, mCallJ, mTup, mCons, mC, mNil, mBin, mUn, mVar, List.length_cons, List.length_nil, Nat.reduceAdd, Nat.reduceLeDiff, if_true, reduceIte, List.set, List.getElem?_cons_zero, List.getElem?_cons_succ, Option.bind_some, Option.map_some, ep, ec, el, es, ed, ez]
    · refine ⟨24, 7, 25, 10, 26, some (.d (lst [2, 4, 6, 8, 12, 16, 18])), some (.d (.int 5)), j2, by decide, h2, fun X => ?_⟩
      have ez := sz_24_5 j2
      unfold reg at ec ez ⊢
      unfold gM0
      simp only [sSeq, sSet, mCallJ, mTup, mCons, mC, mNil, mBin, mUn, mVar, List.length_cons, List.length_nil, Nat.reduceAdd, Nat.reduceLeDiff, if_true, reduceIte, List.set, List.getElem?_cons_zero, List.getElem?_cons_succ, Option.bind_some, Option.map_some, ep, ec, el, es, ed, ez]
  · obtain ⟨v, j2, ed, h2, v0, v1⟩ := draw_eq (n := 1) h1 (by decide) (by decide)
    have ec := comp_8 j1
    have el : gLen (lst [2, 4]) = some (.int 2) := rfl
    have es : fSub (.int 2) (.int 1) = some (.int 1) := rfl
    obtain rfl : v = 0 := by omega
    · refine ⟨8, 6, 10, 15, 17, some (.d (lst [2, 4])), some (.d (.int 0)), j2, by decide, h2, fun X => ?_⟩
      have ez := sz_8_0 j2
      unfold reg at ec ez ⊢
      unfold gM0
      simp only [sSeq, sSet, mCallJ, mTup, mCons, mC, mNil, mBin, mUn, mVar, List.length_cons, List.length_nil, Nat.reduceAdd, Nat.reduceLeDiff, if_true, reduceIte, List.set, List.getElem?_cons_zero, List.getElem?_cons_succ, Option.bind_some, Option.map_some, ep, ec, el, es, ed, ez]
section
variable {h a near b wide : Int} {L at_ : Option Sl} {j : Jr}
theorem tail4 (hj : J3 j) (hc : (h, a, b, near, wide) ∈ tbl) : ∃ r' j', gT4 (reg h L at_ (some (.d (.int a))) (some (.d (.int near))) (some (.d (.int b))) (some (.d (.int wide)))) j = some (.rt (.bool true), r', j') := by
  obtain ⟨d, j1, ep, h1, hm⟩ := pick_eq (ds := [.int 1, .int 2, .int 1]) hj (by decide) (by decide)
  obtain ⟨t, em, ht⟩ : ∃ t : Int, fMul (.int 6) d = some (.int t) ∧ (t = 6 ∨ t = 12) := by
    simp only [List.mem_cons, List.not_mem_nil, or_false] at hm
    rcases hm with rfl | rfl | rfl
    · exact ⟨6, by kernel_rfl, .inl rfl⟩
    · exact ⟨12, by kernel_rfl, .inr rfl⟩
    · exact ⟨6, by kernel_rfl, .inl rfl⟩
  obtain ⟨w, j2, ew, h2, w0, w1⟩ := draw_eq (n := 4) h1 (by decide) (by decide)
  obtain ⟨w, rfl⟩ := Int.eq_ofNat_of_zero_le w0
  obtain ⟨e, j3, ee, h3, e0, e1⟩ := draw_eq (n := 31) h2 (by decide) (by decide)
  obtain ⟨n, j4, en, h4, n0, n1⟩ := draw_eq (n := 31) h3 (by decide) (by decide)
  obtain ⟨cs, j5, eh, h5, hcs⟩ := shape_eq (a := a) (b := b) (h := h) h4
  have hw : w < 4 := by omega
  have hcl : cs.length ≤ 8 := by
    have ok := all_ok hc ht hw
    unfold okC at ok
    simp only [List.all_eq_true] at ok
    have ok1 := ok cs hcs
    simp only [Bool.and_eq_true] at ok1
    have g := good_of ok1.1 (e := 0) (n := 0) (by decide) (by decide)
    have := g.l8
    simp only [List.length_map, lay] at this
    exact this
  obtain ⟨c14, c15, c16, el⟩ := corner_loop (t := t) (e := e) (n := n) (w := w) (a1 := some (.d (.int h))) (a2 := L) (a3 := none) (a4 := at_) (a5 := some (.d (.int a))) (a6 := some (.d (.int near))) (a7 := some (.d (.int b))) (a8 := some (.d (.int wide))) (a17 := none) (a18 := none) (a19 := none) (a20 := none) (a21 := none) (a22 := none) (a23 := none) (a24 := none) (a25 := none) (a26 := none) (j := j5) ht hw cs [] none none none (by simp; omega)
  obtain ⟨r', j', E⟩ := tail8 (t := t) (e := e) (n := n) (w := w) (a1 := some (.d (.int h))) (a2 := L) (a3 := none) (a4 := at_) (a14 := c14) (a15 := c15) (a16 := c16) (a17 := none) (a18 := none) (a19 := none) (a20 := none) (a21 := none) (a22 := none) (a23 := none) (a24 := none) (a25 := none) (a26 := none) h5 hcs hc ht hw (by omega) (by omega)
  refine ⟨r', j', ?_⟩
  rw [← E, gT4_split, gT7_split]
  simp only [List.map_nil, List.nil_append] at el
  unfold gM4 gM7 reg
  simp only [sSeq, sPar, pD, pNil, pO, sOwn, mDisp, sFor, mRow, rowD, putR, Cv.sl, mCallJ, mTup, mCons, mC, mNil, mBin, mUn, mVar, List.length_cons, List.length_nil, Nat.reduceAdd, Nat.reduceLeDiff, Nat.zero_le, if_true, reduceIte, List.set, List.getElem?_cons_zero, List.getElem?_cons_succ, Option.bind_some, Option.map_some, ep, em, ew, ee, en, eh, el]
end
theorem right_eq {j : Jr} (hj : J3 j) : ∃ j', J_law_right [] j = some (.bool true, j') := by
  obtain ⟨h, a, near, b, wide, L, at_, j1, hc, h1, E⟩ := head03 hj
  obtain ⟨r', j', E2⟩ := tail4 (L := L) (at_ := at_) h1 hc
  refine ⟨j', ?_⟩
  unfold J_law_right
  have e0 : (some Sl.jar :: r0 (27 - 1) [] : Rg) = [some .jar, none, none, none, none, none, none, none, none, none, none, none, none, none, none, none, none, none, none, none, none, none, none, none, none, none, none] := rfl
  unfold runJ
  rw [e0, right_split, E, E2]
  rfl
end K29
end
section
set_option Elab.async false
set_option linter.all false
set_option autoImplicit false
set_option maxRecDepth 100000
namespace K29
open PySem PySem.Spec PyProof.Rows L2 Ev Ar
def wB : Sm := (sSet 3 (mBin fMod (mUn gInt (mBin fAdd (mBin fAdd (mBin fMul (mVar 3) (mC (.int 40009))) (mBin fMod (mUn gInt (mVar 4)) (mC (.int 2147483477)))) (mC (.int 31)))) (mC (.int 2147483423))))
def wC : M Dt := (mIf (mTst (mBin fLt (mVar 1) (mUn gLen (mScr 0)))) (mUn gInt (mBin fIx (mScr 0) (mVar 1))) (mC (.int 0)))
def wR : M Dt := (mIf (mOr (mTst (mBin fLt (mVar 2) (mC (.int 0)))) (mTst (mBin fGe (mVar 2) (mBin fPow (mC (.int 10)) (mC (.int 15)))))) (mUn gAbs (mVar 2)) (mC (.int 0)))
theorem well_split : g_law_well = (sSeq (sSet 2 wC) (sSeq (sSet 3 (mBin fAdd (mC (.int 520291)) (mBin fMul (mC (.int 8111)) (mVar 1)))) (sSeq (sFor (mRow (mSl (mScr 0) mOn (mOs (mC (.int 9))))) (gNm 4) wB) (sSeq (sSet 3 (mBin fMod (mUn gInt (mBin fAdd (mBin fAdd (mVar 3) (mBin fMul (mBin fMod (mUn gInt (mVar 2)) (mC (.int 2147483477))) (mC (.int 30013)))) (mC (.int 19)))) (mC (.int 2147483423)))) (sRet (mLst (mCons wR (mCons (mVar 3) (mCons (mC (.int 0)) mNil)))))))))  := rfl
theorem wC_eq (ns : List Int) (t : Int) (h0 : 0 ≤ t) (a2 a3 a4 : Option Sl) : ∃ c : Int, wC [some (.scr ns), some (.d (.int t)), a2, a3, a4] [] = some (.int c, []) := by
  have el : gLen (.list (ns.map .int)) = some (.int ((ns.map PyData.int).length : Nat)) := rfl
  by_cases h : t < ((ns.map PyData.int).length : Nat)
  · have hl : t.toNat < ns.length := by simp at h; omega
    refine ⟨ns[t.toNat], ?_⟩
    have ei : fIx (.list (ns.map .int)) (.int t) = some (.int ns[t.toNat]) := by
      show L2.atI (ns.map PyData.int) t = _
      unfold L2.atI ixN
      rw [if_pos h0, if_pos h]
      simp [hl]
    unfold wC
    simp only [mIf, mTst, mBin, mUn, mVar, mScr, asB, fCmp, List.getElem?_cons_zero, List.getElem?_cons_succ, Option.bind_some, Option.map_some, el, h, decide_true, if_true, ei, gInt]
  · refine ⟨0, ?_⟩
    unfold wC
    simp only [mIf, mTst, mBin, mUn, mVar, mScr, mC, asB, fCmp, List.getElem?_cons_zero, List.getElem?_cons_succ, Option.bind_some, Option.map_some, el, h, decide_false, Bool.false_eq_true, if_false]
theorem wR_eq (c : Int) (a0 a1 a3 a4 : Option Sl) : ∃ v : Int, wR [a0, a1, some (.d (.int c)), a3, a4] [] = some (.int v, []) := by
  have ep : fPow (.int 10) (.int 15) = some (.int 1000000000000000) := by kernel_rfl
  unfold wR
  by_cases h1 : c < 0
  · refine ⟨if c < 0 then -c else c, ?_⟩
    simp only [mIf, mOr, mTst, mBin, mUn, mVar, mC, asB, fCmp, List.getElem?_cons_zero, List.getElem?_cons_succ, Option.bind_some, Option.map_some, h1, decide_true, if_true, gAbs]
  · by_cases h2 : (1000000000000000 : Int) ≤ c
    · refine ⟨if c < 0 then -c else c, ?_⟩
      simp only [mIf, mOr, mTst, mBin, mUn, mVar, mC, asB, fCmp, List.getElem?_cons_zero, List.getElem?_cons_succ, Option.bind_some, Option.map_some, h1, h2, ep, decide_true, decide_false, Bool.false_eq_true, if_true, if_false, gAbs]
    · refine ⟨0, ?_⟩
      simp only [mIf, mOr, mTst, mBin, mUn, mVar, mC, asB, fCmp, List.getElem?_cons_zero, List.getElem?_cons_succ, Option.bind_some, Option.map_some, h1, h2, ep, decide_true, decide_false, Bool.false_eq_true, if_true, if_false, gAbs]
theorem well_eq (ns : List Int) (t : Int) (h0 : 0 ≤ t) (h1 : t < 1000) : ∃ js, W_law_well ns t = some js ∧ J3 js := by
  obtain ⟨c, ec⟩ := wC_eq ns t h0 none none none
  have q1 : (2147483423 : Int) ≠ 0 := by decide
  have q2 : (2147483477 : Int) ≠ 0 := by decide
  have m1 : mulOk 8111 t = true := mul_sm (by decide)
  have m2 : ∀ s : Int, mulOk s 40009 = true := fun s => mul_sm2 (by decide)
  have m3 : ∀ s : Int, mulOk s 30013 = true := fun s => mul_sm2 (by decide)
  obtain ⟨r2, j2, e2, rfl, s, v, rfl⟩ := loopS_inv (t := gNm 4) (b := wB) (fun r j => j = [] ∧ ∃ (s : Int) (v : Option Sl), r = [some (.scr ns), some (.d (.int t)), some (.d (.int c)), some (.d (.int s)), v]) (L := Ev.cutD (ns.map PyData.int) none (some 9)) (by
    rintro d hd r j ⟨rfl, s, v, rfl⟩
    have hd' : d ∈ ns.map PyData.int := by
      unfold Ev.cutD at hd
      exact List.mem_of_mem_drop (List.mem_of_mem_take hd)
    obtain ⟨x, _, rfl⟩ := List.mem_map.mp hd'
    refine ⟨[some (.scr ns), some (.d (.int t)), some (.d (.int c)), some (.d (.int s)), some (.d (.int x))], [], rfl, [some (.scr ns), some (.d (.int t)), some (.d (.int c)), some (.d (.int ((s * 40009 + x.fmod 2147483477 + 31).fmod 2147483423))), some (.d (.int x))], [], ?_, rfl, _, _, rfl⟩
    unfold wB
    simp only [sSet, mBin, mUn, mVar, mC, List.set, List.getElem?_cons_zero, List.getElem?_cons_succ, Option.bind_some, Option.map_some, fMul_ok (m2 s), gInt, fMod_ok q1, fMod_ok q2, fAdd])
    [some (.scr ns), some (.d (.int t)), some (.d (.int c)), some (.d (.int (520291 + 8111 * t))), none] [] ⟨rfl, _, _, rfl⟩
  obtain ⟨z, ez⟩ := wR_eq c (some (.scr ns)) (some (.d (.int t))) (some (.d (.int ((s + c.fmod 2147483477 * 30013 + 19).fmod 2147483423)))) v
  refine ⟨[z, (s + c.fmod 2147483477 * 30013 + 19).fmod 2147483423, 0], ?_, rfl⟩
  have e0 : r0W 5 ns t = [some (.scr ns), some (.d (.int t)), none, none, none] := rfl
  unfold W_law_well runW
  rw [e0, well_split]
  simp only [sSeq, sSet, sFor, mRow, mSl, mOn, mOs, slD, rowD, mScr, sRet, mLst, mCons, mNil, mBin, mUn, mVar, mC, List.set, List.length_cons, List.length_nil, Nat.reduceAdd, Nat.reduceLeDiff, if_true, List.getElem?_cons_zero, List.getElem?_cons_succ, Option.bind_some, Option.map_some, ec, fMul_ok m1, fMul_ok (m3 _), gInt, fMod_ok q1, fMod_ok q2, fAdd, e2, ez, outD, jarOf, asInts]
theorem main (ns : List Int) (hl : ns.length ≤ 63) : L_law ns = some (.bool true) := by
  have one : ∀ t : Int, 0 ≤ t → t < 1000 → ∀ a : Option Sl, mWell 0 W_law_well J_law_right (mVar 1) [some (.scr ns), some (.d (.int t))] [] = some (.bool true, []) := fun t h0 h1 _ => by
    obtain ⟨js, e, h3⟩ := well_eq ns t h0 h1
    obtain ⟨j', e2⟩ := right_eq h3
    simp only [mWell, mVar, List.getElem?_cons_zero, List.getElem?_cons_succ, Option.bind_some, e, e2, Option.map_some]
  have loop : ∀ (L : List Int), (∀ t ∈ L, 0 ≤ t ∧ t < 1000) → lcS (gNm 1) mYes (mWell 0 W_law_well J_law_right (mVar 1)) [some (.scr ns), none] (L.map .int) [] = some (List.replicate L.length (.bool true), []) := by
    intro L
    induction L with
    | nil => intro _; rfl
    | cons t L ih =>
      intro h
      have eg : gNm 1 (.int t) [some (.scr ns), none] [] = some ([some (.scr ns), some (.d (.int t))], []) := rfl
      have h1 := one t (h t List.mem_cons_self).1 (h t List.mem_cons_self).2 none
      have h2 := ih fun x hx => h x (List.mem_cons_of_mem _ hx)
      simp only [List.map_cons, lcS, eg, Option.bind_some, mYes, if_true, h1, h2, Option.map_some, List.length_cons, List.replicate_succ]
  have hb : ∀ n : Nat, bools (List.replicate n (.bool true)) = some (List.replicate n true) := by
    intro n
    induction n with
    | zero => rfl
    | succ n ih => simp only [List.replicate_succ, bools, ih, Option.map_some]
  have el : gLen (.list (ns.map .int)) = some (.int ((ns.map PyData.int).length : Nat)) := rfl
  obtain ⟨k, ek, hk⟩ : ∃ k : Nat, (if (if (2 : Int) < ((ns.map PyData.int).length : Nat) then (2 : Int) else ((ns.map PyData.int).length : Nat)) > 1 then (if (2 : Int) < ((ns.map PyData.int).length : Nat) then (2 : Int) else ((ns.map PyData.int).length : Nat)) else 1) = (k : Int) ∧ k ≤ 2 := by
    by_cases c1 : (2 : Int) < ((ns.map PyData.int).length : Nat)
    · exact ⟨2, by rw [if_pos c1]; rfl, by decide⟩
    · rw [if_neg c1]
      by_cases c2 : (((ns.map PyData.int).length : Nat) : Int) > 1
      · exact ⟨_, if_pos c2, by omega⟩
      · exact ⟨1, if_neg c2, by decide⟩
  have er : rangeL 0 (k : Int) = ((List.range k).map fun (i : Nat) => (i : Int)).map PyData.int := by
    unfold rangeL
    rw [List.map_map]
    have e1 : ((k : Int) - 0).toNat = k := by omega
    rw [e1]
    refine List.map_congr_left fun i _ => ?_
    show PyData.int (0 + (i : Int)) = PyData.int (i : Int)
    rw [Int.zero_add]
  have lp := loop ((List.range k).map fun (i : Nat) => (i : Int)) (fun t ht => by
    obtain ⟨i, hi, rfl⟩ := List.mem_map.mp ht
    rw [List.mem_range] at hi
    omega)
  have e0 : r0L 2 ns = [some (.scr ns), none] := rfl
  have hkk : (-100000 : Int) ≤ k ∧ (k : Int) ≤ 100000 := by omega
  unfold L_law runL g_law
  rw [e0]
  simp only [sRet, mUn, mL, mLc, mRng1, mCons, mNil, mBin, mC, mScr, List.getElem?_cons_zero, Option.bind_some, Option.map_some, el, gMin, gMax, ek, hkk, and_self, if_true, er, wipeR, List.set, lp, gAll, hb, outD]
  congr 2
  simp
end K29
end
theorem PySem.Challenge.cw_latestshake_k29_whole_polygons_beside_br_holds : PySem.Challenge.rw_latestshake_k29_whole_polygons_beside_br.Holds :=
  K29.holds_of K29.main
