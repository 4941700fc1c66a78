import PyProof.Rows.All
import Wide.All
import OpenK.AllK
import Wide.FinOn
import HandS.ForMost
import HandS.Exc
import HandS.Defaults
import HandS.HeadHook2
import HandS.HeadEnd
import HandS.Head2
import HandS.RaiseMore
import HandS.Deep
import KE.DataEq
import HandS.IsInst
import HandS.Flow
import PySem.Challenge.RW_clearfloor_k27_a_unit_does_each_command
set_option Elab.async false
set_option linter.all false
set_option maxRecDepth 100000
set_option maxHeartbeats 4000000
namespace Cf
open PySem L2

/-! ### heaps: B what is known and stays, H what stands -/
abbrev Fg := PySem.W.Frag
def Ex (B H : Hp) : Prop := ∀ a o, B a = some o → H a = some o
theorem Ex.refl (H : Hp) : Ex H H := fun _ _ h => h
theorem Ex.trans {A B C : Hp} (a : Ex A B) (b : Ex B C) : Ex A C := fun x o h => b x o (a x o h)
theorem Ex.new {H : Hp} {p : Addr} {o : HO} (h : H p = none) : Ex H (upd H p o) := fun a u e => by
  rw [upd_ne (ne_of_none e h)]
  exact e
theorem Ex.mut {B H : Hp} {p : Addr} {o : HO} (e : Ex B H) (h : B p = none) : Ex B (upd H p o) := fun a u q => by
  rw [upd_ne (ne_of_none q h)]
  exact e a u q
theorem Ex.two {B H : Hp} {p : Addr} {o : HO} (e : Ex B H) : Ex (upd B p o) (upd H p o) := fun a u q => by
  by_cases h : a = p
  · subst h
    rw [upd_same] at q
    rw [upd_same]
    exact q
  · rw [upd_ne h] at q
    rw [upd_ne h]
    exact e a u q
theorem Ex.add {B H : Hp} {p : Addr} {o : HO} (e : Ex B H) (h : H p = some o) : Ex (upd B p o) H := fun a u q => by
  by_cases hp : a = p
  · subst hp
    rw [upd_same] at q
    rw [h]
    exact q
  · rw [upd_ne hp] at q
    exact e a u q
theorem Ex.none {B H : Hp} {p : Addr} (e : Ex B H) (h : H p = Option.none) : B p = Option.none := by
  cases q : B p with
  | none => rfl
  | some o =>
    rw [e p o q] at h
    cases h

/-- sets of places -/
abbrev Ms := Addr → Prop
def noM : Ms := fun _ => False
/-- from (B, H) to (B', H'): what stands stays but for the places M; what is known is more; what was known apart stays apart -/
structure Gr (M : Ms) (B H B' H' : Hp) : Prop where
  s : Ex B H
  b : Ex B B'
  h : ∀ a o, ¬ M a → H a = some o → H' a = some o
  e : Ex B' H'
  n : ∀ a, H a ≠ none → B a = none → B' a = none
  k : ∀ a, H a ≠ none → H' a ≠ none
/-- W and B have no place in common -/
def Dj (W B : Hp) : Prop := ∀ a, W a ≠ none → B a = none
def dom (W : Hp) : Ms := fun a => W a ≠ none
def emp : Hp := fun _ => none
def sing (p : Addr) (o : HO) : Hp := upd emp p o
def uni (W B : Hp) : Hp := fun a => match W a with
  | some o => some o
  | none => B a
theorem sing_at {p : Addr} {o : HO} : sing p o p = some o := upd_same
theorem sing_ne {p a : Addr} {o : HO} (h : a ≠ p) : sing p o a = none := upd_ne h
theorem sing_dom {p a : Addr} {o : HO} (h : sing p o a ≠ none) : a = p := by
  by_cases e : a = p
  · exact e
  · exact absurd (sing_ne e) h
theorem uni_l {W B : Hp} {a : Addr} {o : HO} (h : W a = some o) : uni W B a = some o := by
  unfold uni
  rw [h]
theorem uni_r {W B : Hp} {a : Addr} (h : W a = none) : uni W B a = B a := by
  unfold uni
  rw [h]
theorem ex_uni_l {W B : Hp} : Ex W (uni W B) := fun _ _ h => uni_l h
theorem ex_uni_r {W B : Hp} (d : Dj W B) : Ex B (uni W B) := fun a o h => by
  rw [uni_r]
  · exact h
  · cases q : W a with
    | none => rfl
    | some o' =>
      have := d a (by rw [q]; exact fun z => nomatch z)
      rw [h] at this
      cases this
theorem ex_uni {W B H : Hp} (h1 : Ex W H) (h2 : Ex B H) : Ex (uni W B) H := fun a o h => by
  cases q : W a with
  | some o' =>
    rw [uni_l q] at h
    cases h
    exact h1 a _ q
  | none =>
    rw [uni_r q] at h
    exact h2 a o h
theorem nn {H : Hp} {a : Addr} {o : HO} (h : H a = some o) : H a ≠ none := fun q => by
  rw [h] at q
  cases q
theorem nn_ex {H : Hp} {a : Addr} (h : H a ≠ none) : ∃ o, H a = some o := by
  cases q : H a with
  | none => exact absurd q h
  | some o => exact ⟨o, rfl⟩
theorem Ex.nn {B H : Hp} (e : Ex B H) {a : Addr} (h : B a ≠ Option.none) : H a ≠ Option.none := by
  obtain ⟨o, q⟩ := nn_ex h
  exact Cf.nn (e a o q)
theorem Dj.symm {W B : Hp} (d : Dj W B) : Dj B W := fun a h => by
  cases q : W a with
  | none => rfl
  | some o => exact absurd (d a (nn q)) h
theorem Dj.emp {B : Hp} : Dj emp B := fun a h => absurd rfl h
theorem ex_emp {H : Hp} : Ex emp H := fun a o h => nomatch h
section
variable {M M' : Ms} {B H B1 H1 B2 H2 : Hp} {p : Addr} {o : HO}
theorem ne_free (hp : H p = none) {a : Addr} (h : H a ≠ none) : a ≠ p := by
  rintro rfl
  exact h hp
theorem Gr.refl (e : Ex B H) : Gr M B H B H := ⟨e, Ex.refl B, fun _ _ _ h => h, e, fun _ _ h => h, fun _ h => h⟩
theorem Gr.trans (x : Gr M B H B1 H1) (y : Gr M B1 H1 B2 H2) : Gr M B H B2 H2 :=
  ⟨x.s, x.b.trans y.b, fun a o m h => y.h a o m (x.h a o m h), y.e, fun a h n => y.n a (x.k a h) (x.n a h n), fun a h => y.k a (x.k a h)⟩
theorem Gr.mono (x : Gr M B H B1 H1) (s : ∀ a, M a → M' a) : Gr M' B H B1 H1 := ⟨x.s, x.b, fun a o m h => x.h a o (fun q => m (s a q)) h, x.e, x.n, x.k⟩
theorem Gr.up (x : Gr noM B H B1 H1) : Gr M B H B1 H1 := x.mono fun a h => h.elim
theorem Gr.then (x : Gr M B H B1 H1) (y : Gr noM B1 H1 B2 H2) : Gr M B H B2 H2 := x.trans y.up
theorem Gr.exH (x : Gr noM B H B1 H1) : Ex H H1 := fun a o h => x.h a o (fun q => q) h
theorem Gr.fresh (x : Gr M B H B1 H1) {a : Addr} (h : H1 a = none) : H a = none := by
  cases q : H a with
  | none => rfl
  | some o => exact absurd h (x.k a fun z => by rw [q] at z; cases z)
/-- a new object, known from now on -/
theorem Gr.new (e : Ex B H) (hp : H p = none) : Gr M B H (upd B p o) (upd H p o) :=
  ⟨e, Ex.new (e.none hp), fun a u _ h => Ex.new hp a u h, e.two, fun a h n => by rw [upd_ne (ne_free hp h)]; exact n, fun a h z => h (by rw [upd_ne (ne_free hp h)] at z; exact z)⟩
/-- a new object that may change -/
theorem Gr.newM (e : Ex B H) (hp : H p = none) : Gr M B H B (upd H p o) :=
  ⟨e, Ex.refl B, fun a u _ h => Ex.new hp a u h, e.mut (e.none hp), fun a _ n => n, fun a h z => h (by rw [upd_ne (ne_free hp h)] at z; exact z)⟩
/-- an object changes that is M's -/
theorem Gr.mut (e : Ex B H) (hp : M p) (n : B p = none) (hh : H p ≠ none) : Gr M B H B (upd H p o) :=
  ⟨e, Ex.refl B, fun a u m h => by
    have ne : a ≠ p := by
      rintro rfl
      exact m hp
    rw [upd_ne ne]
    exact h, e.mut n, fun _ _ h => h, fun a h z => by
    by_cases ne : a = p
    · subst ne
      rw [upd_same] at z
      cases z
    · rw [upd_ne ne] at z
      exact h z⟩
/-- what could change is known from now on -/
theorem Gr.freeze (x : Gr M B H B1 H1) (hp : H1 p = some o) (f : H p = none) (n : B1 p = none) : Gr M B H (upd B1 p o) H1 :=
  ⟨x.s, x.b.trans (Ex.new n), x.h, x.e.add hp, fun a h q => by
    rw [upd_ne (ne_free f h)]
    exact x.n a h q, x.k⟩
end
/-! ### what is one's own: W, apart from what is known -/
structure Sw (W B H W' B' H' : Hp) : Prop where
  g : Gr (dom W) B H B' H'
  w : Ex W' H'
  d : Dj W' B'
  f : ∀ a, W' a ≠ none → W a ≠ none ∨ H a = none
abbrev Ow (S : Type) := Hp → Hp → S → Prop
def plainO : HO → Bool
  | .tup _ => false
  | .frz _ _ => false
  | _ => true
class OwOk {S : Type} (P : Ow S) : Prop where
  mono : ∀ {W B B' : Hp} {s : S}, Ex B B' → P W B s → P W B' s
  nt : ∀ {W B : Hp} {s : S} {a : Addr} {o : HO}, P W B s → W a = some o → plainO o = true
def oE : Ow Unit := fun W _ _ => W = emp
instance : OwOk oE := ⟨fun _ h => h, fun h e => by rw [show _ = emp from h] at e; cases e⟩
def star {S S' : Type} (P : Ow S) (R : Ow S') : Ow (S × S') := fun W B s => ∃ W1 W2, W = uni W1 W2 ∧ Dj W1 W2 ∧ P W1 B s.1 ∧ R W2 B s.2
instance {S S' : Type} {P : Ow S} {R : Ow S'} [OwOk P] [OwOk R] : OwOk (star P R) :=
  ⟨fun e ⟨W1, W2, h, d, p, r⟩ => ⟨W1, W2, h, d, OwOk.mono e p, OwOk.mono e r⟩, fun ⟨W1, W2, h, d, p, r⟩ e => by
    subst h
    cases q : W1 _ with
    | some o' =>
      rw [uni_l q] at e
      cases e
      exact OwOk.nt p q
    | none =>
      rw [uni_r q] at e
      exact OwOk.nt r e⟩
/-- where one stands: from (Bs, Hs) on, with M to be changed, one's own W in the state s -/
structure Now {S : Type} (M : Ms) (Bs Hs : Hp) (P : Ow S) (W B H : Hp) (s : S) : Prop where
  g : Gr M Bs Hs B H
  w : Ex W H
  d : Dj W B
  p : P W B s
  f : ∀ a, W a ≠ none → M a ∨ Hs a = none
section
variable {S S' : Type} {M : Ms} {Bs Hs W B H W' B' H' W2 B2 H2 : Hp} {P : Ow S} {R : Ow S'} {s s' : S}
theorem Sw.refl (e : Ex B H) (w : Ex W H) (d : Dj W B) : Sw W B H W B H := ⟨Gr.refl e, w, d, fun a h => .inl h⟩
theorem Sw.trans (x : Sw W B H W' B' H') (y : Sw W' B' H' W2 B2 H2) : Sw W B H W2 B2 H2 :=
  ⟨⟨x.g.s, x.g.b.trans y.g.b, (fun a o m h => by
      have h1 := x.g.h a o m h
      refine y.g.h a o (fun q => ?_) h1
      rcases x.f a q with z | z
      · exact m z
      · rw [z] at h
        cases h), y.g.e, fun a h n => y.g.n a (x.g.k a h) (x.g.n a h n), fun a h => y.g.k a (x.g.k a h)⟩, y.w, y.d, fun a h => by
    rcases y.f a h with z | z
    · exact x.f a z
    · exact .inr (x.g.fresh z)⟩
theorem Sw.pure (e : Gr noM B H B' H') (w : Ex W H) (d : Dj W B) : Sw W B H W B' H' := ⟨e.up, w.trans e.exH, fun a h => e.n a (w.nn h) (d a h), fun a h => .inl h⟩
theorem Now.ex (x : Now M Bs Hs P W B H s) : Ex B H := x.g.e
theorem Now.pure [OwOk P] (x : Now M Bs Hs P W B H s) (e : Gr noM B H B' H') : Now M Bs Hs P W B' H' s :=
  ⟨x.g.then e, x.w.trans e.exH, fun a h => e.n a (x.w.nn h) (x.d a h), OwOk.mono e.b x.p, x.f⟩
theorem Now.step (x : Now M Bs Hs P W B H s) (y : Sw W B H W' B' H') {s2 : S'} {P2 : Ow S'} (p : P2 W' B' s2) : Now M Bs Hs P2 W' B' H' s2 :=
  ⟨⟨x.g.s, x.g.b.trans y.g.b, (fun a o m h => by
      have h1 := x.g.h a o m h
      refine y.g.h a o (fun q => ?_) h1
      rcases x.f a q with z | z
      · exact m z
      · rw [z] at h
        cases h), y.g.e, fun a h n => y.g.n a (x.g.k a h) (x.g.n a h n), fun a h => y.g.k a (x.g.k a h)⟩, y.w, y.d, p, fun a h => by
    rcases y.f a h with z | z
    · exact x.f a z
    · exact .inr (x.g.fresh z)⟩
theorem Now.sw {B0 H0 W0 : Hp} (x : Now (dom W0) B0 H0 P W B H s) : Sw W0 B0 H0 W B H := ⟨x.g, x.w, x.d, x.f⟩
theorem now0 (e : Ex B H) (w : Ex W H) (d : Dj W B) (p : P W B s) : Now (dom W) B H P W B H s := ⟨Gr.refl e, w, d, p, fun a h => .inl h⟩
theorem nowE (e : Ex B H) : Now noM B H oE emp B H () := ⟨Gr.refl e, ex_emp, Dj.emp, rfl, fun a h => absurd rfl h⟩
theorem uni_dom {W1 W2 : Hp} {a : Addr} (h : uni W1 W2 a ≠ none) : W1 a ≠ none ∨ W2 a ≠ none := by
  cases q : W1 a with
  | some o => exact .inl (fun z => nomatch z)
  | none =>
    rw [uni_r q] at h
    exact .inr h
theorem uni_dom_l {W1 W2 : Hp} {a : Addr} (h : W1 a ≠ none) : uni W1 W2 a ≠ none := by
  obtain ⟨o, q⟩ := nn_ex h
  exact nn (uni_l q)
theorem uni_dom_r {W1 W2 : Hp} {a : Addr} (d : Dj W1 W2) (h : W2 a ≠ none) : uni W1 W2 a ≠ none := by
  rw [uni_r (d.symm a h)]
  exact h
/-- the frame: a step of W1 beside W2 -/
theorem Sw.beside {W1 W2 W1' : Hp} (y : Sw W1 B H W1' B' H') (w2 : Ex W2 H) (d : Dj W1 W2) (d2 : Dj W2 B) : Sw (uni W1 W2) B H (uni W1' W2) B' H' ∧ Dj W1' W2 := by
  have dj : Dj W1' W2 := fun a h => by
    rcases y.f a h with z | z
    · exact d a z
    · cases q : W2 a with
      | none => rfl
      | some o =>
        rw [w2 a o q] at z
        cases z
  have w2' : Ex W2 H' := fun a o h => y.g.h a o (fun q => q (d.symm a (nn h))) (w2 a o h)
  refine ⟨⟨y.g.mono fun a h => uni_dom_l h, ex_uni y.w w2', fun a h => ?_, fun a h => ?_⟩, dj⟩
  · rcases uni_dom h with z | z
    · exact y.d a z
    · exact y.g.n a (w2.nn z) (d2 a z)
  · rcases uni_dom h with z | z
    · rcases y.f a z with q | q
      · exact .inl (uni_dom_l q)
      · exact .inr q
    · exact .inl (uni_dom_r d z)
end

/-! ### data and the values that stand for it -/
class Rp (α : Type) where
  rp : Fg → Hp → V → α → Prop
  mono : ∀ {K : Fg} {B B' : Hp} {v : V} {x : α}, Ex B B' → rp K B v x → rp K B' v x
open Rp (rp)
theorem rd_mono {B B' : Hp} {a : Addr} {u : HO} (e : Ex B B') (h : Rd B a u) : Rd B' a u := by
  rcases h with h | ⟨o, h⟩
  · exact .inl (e _ _ h)
  · exact .inr ⟨o, e _ _ h⟩
theorem sql_mono {K : Fg} {B B' : Hp} {a : Addr} {xs : List V} (e : Ex B B') (h : SqL K B a xs) : SqL K B' a xs := by
  rcases h with h | h
  · exact .inl (rd_mono e h)
  · exact .inr h
theorem sqt_mono {K : Fg} {B B' : Hp} {a : Addr} {xs : List V} (e : Ex B B') (h : SqT K B a xs) : SqT K B' a xs := by
  rcases h with h | h
  · exact .inl (rd_mono e h)
  · exact .inr h
mutual
theorem dp_mono {K : Fg} {B B' : Hp} (e : Ex B B') : ∀ (d : PyData) (v : V), Dp K B v d → Dp K B' v d
  | .none, v, h => by cases h; exact .non
  | .bool b, v, h => by cases h; exact .bl b
  | .int i, v, h => by cases h; exact .int i
  | .str x, v, h => by cases h; exact .str x
  | .list ds, v, h => by
    cases h with
    | lst h1 h2 => exact .lst (sql_mono e h1) (dpall_mono e ds _ h2)
  | .tuple ds, v, h => by
    cases h with
    | tup h1 h2 => exact .tup (sqt_mono e h1) (dpall_mono e ds _ h2)
  | .dict _, v, h => by cases h
theorem dpall_mono {K : Fg} {B B' : Hp} (e : Ex B B') : ∀ (ds : List PyData) (vs : List V), DpAll K B vs ds → DpAll K B' vs ds
  | [], vs, h => by cases h; exact .nil
  | d :: ds, vs, h => by
    cases h with
    | cons h1 h2 => exact .cons (dp_mono e d _ h1) (dpall_mono e ds _ h2)
end

theorem pr_mono {α : Type} [Rp α] {K : Fg} {B B' : Hp} (e : Ex B B') : ∀ {vs : List V} {xs : List α}, Paired (rp K B) vs xs → Paired (rp K B') vs xs
  | _, _, .nil => .nil
  | _, _, .cons r t => .cons (Rp.mono e r) (pr_mono e t)
theorem pr_get {α β : Type} {R : α → β → Prop} : ∀ {vs : List α} {xs : List β} {i : Nat} {x : β}, Paired R vs xs → xs[i]? = some x → ∃ v, vs[i]? = some v ∧ R v x
  | _, _, _, _, .nil, e => by simp at e
  | _, _, 0, _, .cons r _, e => by simp at e; subst e; exact ⟨_, rfl, r⟩
  | _, _, i + 1, x, .cons _ t, e => by
    obtain ⟨u, h1, h2⟩ := pr_get (i := i) (x := x) t (by simpa using e)
    exact ⟨u, by simpa using h1, h2⟩
theorem pr_getL {α β : Type} {R : α → β → Prop} : ∀ {vs : List α} {xs : List β} {i : Nat} {v : α}, Paired R vs xs → vs[i]? = some v → ∃ x, xs[i]? = some x ∧ R v x
  | _, _, _, _, .nil, e => by simp at e
  | _, _, 0, _, .cons r _, e => by simp at e; subst e; exact ⟨_, rfl, r⟩
  | _, _, i + 1, x, .cons _ t, e => by
    obtain ⟨u, h1, h2⟩ := pr_getL (i := i) t (by simpa using e)
    exact ⟨u, by simpa using h1, h2⟩
theorem pr_app {α β : Type} {R : α → β → Prop} : ∀ {vs us : List α} {xs ys : List β}, Paired R vs xs → Paired R us ys → Paired R (vs ++ us) (xs ++ ys)
  | _, _, _, _, .nil, s => s
  | _, _, _, _, .cons r t, s => .cons r (pr_app t s)
theorem pr_len {α β : Type} {R : α → β → Prop} {vs : List α} {xs : List β} (p : Paired R vs xs) : vs.length = xs.length := Paired.length p
theorem pr_set {α β : Type} {R : α → β → Prop} {v : α} {x : β} (r : R v x) : ∀ {vs : List α} {xs : List β} (i : Nat), Paired R vs xs → Paired R (vs.set i v) (xs.set i x)
  | _, _, _, .nil => .nil
  | _, _, 0, .cons _ t => .cons r t
  | _, _, i + 1, .cons q t => .cons q (pr_set r i t)
theorem pr_take {α β : Type} {R : α → β → Prop} : ∀ {vs : List α} {xs : List β} (n : Nat), Paired R vs xs → Paired R (vs.take n) (xs.take n)
  | _, _, 0, _ => .nil
  | _, _, _ + 1, .nil => .nil
  | _, _, n + 1, .cons r t => .cons r (pr_take n t)
theorem pr_drop {α β : Type} {R : α → β → Prop} : ∀ {vs : List α} {xs : List β} (n : Nat), Paired R vs xs → Paired R (vs.drop n) (xs.drop n)
  | _, _, 0, r => r
  | _, _, _ + 1, .nil => .nil
  | _, _, n + 1, .cons _ t => pr_drop n t
theorem pr_rev {α β : Type} {R : α → β → Prop} : ∀ {vs : List α} {xs : List β}, Paired R vs xs → Paired R vs.reverse xs.reverse
  | _, _, .nil => .nil
  | _, _, .cons r t => by
    rw [List.reverse_cons, List.reverse_cons]
    exact pr_app (pr_rev t) (.cons r .nil)
theorem pr_ints {K : Fg} {B : Hp} : True := trivial
instance : Rp Int := ⟨fun _ _ v x => v = .int x, fun _ h => h⟩
instance : Rp Bool := ⟨fun _ _ v x => v = .bl x, fun _ h => h⟩
instance : Rp Str := ⟨fun _ _ v x => v = .str x, fun _ h => h⟩
instance : Rp Unit := ⟨fun _ _ v _ => v = .non, fun _ h => h⟩
def rpO {α : Type} [Rp α] (K : Fg) (B : Hp) (v : V) : Option α → Prop
  | none => v = .non
  | some y => rp K B v y
instance {α : Type} [Rp α] : Rp (Option α) := ⟨rpO, fun {K B B' v x} e h => by
  cases x with
  | none => exact h
  | some y => exact Rp.mono (α := α) e h⟩
instance {α : Type} [Rp α] : Rp (List α) := ⟨fun K B v xs => ∃ a vs, v = .ref a ∧ B a = some (.lst vs) ∧ Paired (rp K B) vs xs, fun e ⟨a, vs, h, s, p⟩ => ⟨a, vs, h, e _ _ s, pr_mono e p⟩⟩
/-- the script -/
structure Scr where
  l : List Int
instance : Rp Scr := ⟨fun K B v x => ∃ a, v = .ref a ∧ SqL K B a (x.l.map V.int), fun e ⟨a, h, s⟩ => ⟨a, h, sql_mono e s⟩⟩
theorem sq_lst {K : Fg} {H : Hp} {a : Addr} {vs : List V} (h : H a = some (.lst vs)) : SqL K H a vs := .inl (.inl h)
instance {α β : Type} [Rp α] [Rp β] : Rp (α × β) := ⟨fun K B v x => ∃ a u w, v = .ref a ∧ SqT K B a [u, w] ∧ rp K B u x.1 ∧ rp K B w x.2, fun e ⟨a, u, w, h, s, p, q⟩ => ⟨a, u, w, h, sqt_mono e s, Rp.mono e p, Rp.mono e q⟩⟩
/-! longer tuples -/
structure T3 (α β γ : Type) where
  a : α
  b : β
  c : γ
  deriving DecidableEq
structure T4 (α β γ δ : Type) where
  a : α
  b : β
  c : γ
  d : δ
  deriving DecidableEq
structure T5 (α β γ δ ε : Type) where
  a : α
  b : β
  c : γ
  d : δ
  e : ε
  deriving DecidableEq
instance {α β γ : Type} [Rp α] [Rp β] [Rp γ] : Rp (T3 α β γ) := ⟨fun K B v x => ∃ a u1 u2 u3, v = .ref a ∧ SqT K B a [u1, u2, u3] ∧ rp K B u1 x.a ∧ rp K B u2 x.b ∧ rp K B u3 x.c, fun e ⟨a, u1, u2, u3, h, s, p1, p2, p3⟩ => ⟨a, u1, u2, u3, h, sqt_mono e s, Rp.mono e p1, Rp.mono e p2, Rp.mono e p3⟩⟩
instance {α β γ δ : Type} [Rp α] [Rp β] [Rp γ] [Rp δ] : Rp (T4 α β γ δ) := ⟨fun K B v x => ∃ a u1 u2 u3 u4, v = .ref a ∧ SqT K B a [u1, u2, u3, u4] ∧ rp K B u1 x.a ∧ rp K B u2 x.b ∧ rp K B u3 x.c ∧ rp K B u4 x.d,
  fun e ⟨a, u1, u2, u3, u4, h, s, p1, p2, p3, p4⟩ => ⟨a, u1, u2, u3, u4, h, sqt_mono e s, Rp.mono e p1, Rp.mono e p2, Rp.mono e p3, Rp.mono e p4⟩⟩
instance {α β γ δ ε : Type} [Rp α] [Rp β] [Rp γ] [Rp δ] [Rp ε] : Rp (T5 α β γ δ ε) := ⟨fun K B v x => ∃ a u1 u2 u3 u4 u5, v = .ref a ∧ SqT K B a [u1, u2, u3, u4, u5] ∧ rp K B u1 x.a ∧ rp K B u2 x.b ∧ rp K B u3 x.c ∧ rp K B u4 x.d ∧ rp K B u5 x.e,
  fun e ⟨a, u1, u2, u3, u4, u5, h, s, p1, p2, p3, p4, p5⟩ => ⟨a, u1, u2, u3, u4, u5, h, sqt_mono e s, Rp.mono e p1, Rp.mono e p2, Rp.mono e p3, Rp.mono e p4, Rp.mono e p5⟩⟩
/-! arguments -/
class RpL (τ : Type) where
  rpl : Fg → Hp → List V → τ → Prop
  mono : ∀ {K : Fg} {B B' : Hp} {vs : List V} {x : τ}, Ex B B' → rpl K B vs x → rpl K B' vs x
open RpL (rpl)
instance : RpL Unit := ⟨fun _ _ vs _ => vs = [], fun _ h => h⟩
instance {α τ : Type} [Rp α] [RpL τ] : RpL (α × τ) := ⟨fun K B vs x => ∃ v us, vs = v :: us ∧ rp K B v x.1 ∧ rpl K B us x.2, fun e ⟨v, us, h, p, q⟩ => ⟨v, us, h, Rp.mono e p, RpL.mono e q⟩⟩

/-! ### data that == reads -/
class Enc (α : Type) extends Rp α where
  enc : α → PyData
  to : ∀ {K : Fg} {B : Hp} {v : V} {x : α}, rp K B v x → Dp K B v (enc x)
open Enc (enc)
theorem dpall_of {α : Type} [Enc α] {K : Fg} {B : Hp} : ∀ {vs : List V} {xs : List α}, Paired (rp K B) vs xs → DpAll K B vs (xs.map enc)
  | _, _, .nil => .nil
  | _, _, .cons r t => .cons (Enc.to r) (dpall_of t)
instance : Enc Int := ⟨PyData.int, fun h => by cases h; exact .int _⟩
instance : Enc Bool := ⟨PyData.bool, fun h => by cases h; exact .bl _⟩
instance : Enc Str := ⟨PyData.str, fun h => by cases h; exact .str _⟩
instance : Enc Unit := ⟨fun _ => PyData.none, fun h => by cases h; exact .non⟩
def encO {α : Type} [Enc α] : Option α → PyData
  | none => PyData.none
  | some y => enc y
instance {α : Type} [Enc α] : Enc (Option α) := ⟨encO, fun {K B v x} h => by
  cases x with
  | none => cases (show v = .non from h); exact .non
  | some y => exact Enc.to (α := α) h⟩
instance {α : Type} [Enc α] : Enc (List α) where
  enc := fun xs => PyData.list (xs.map enc)
  to := fun h => by
    obtain ⟨a, vs, rfl, s, p⟩ := h
    exact .lst (.inl (.inl s)) (dpall_of p)
instance {α β : Type} [Enc α] [Enc β] : Enc (α × β) where
  enc := fun x => PyData.tuple [enc x.1, enc x.2]
  to := fun h => by
    obtain ⟨a, u, w, rfl, s, p, q⟩ := h
    exact .tup s (.cons (Enc.to p) (.cons (Enc.to q) .nil))
instance {α β γ : Type} [Enc α] [Enc β] [Enc γ] : Enc (T3 α β γ) where
  enc := fun x => PyData.tuple [enc x.a, enc x.b, enc x.c]
  to := fun h => by
    obtain ⟨a, u1, u2, u3, rfl, s, p1, p2, p3⟩ := h
    exact .tup s (.cons (Enc.to p1) (.cons (Enc.to p2) (.cons (Enc.to p3) .nil)))
instance {α β γ δ : Type} [Enc α] [Enc β] [Enc γ] [Enc δ] : Enc (T4 α β γ δ) where
  enc := fun x => PyData.tuple [enc x.a, enc x.b, enc x.c, enc x.d]
  to := fun h => by
    obtain ⟨a, u1, u2, u3, u4, rfl, s, p1, p2, p3, p4⟩ := h
    exact .tup s (.cons (Enc.to p1) (.cons (Enc.to p2) (.cons (Enc.to p3) (.cons (Enc.to p4) .nil))))
instance {α β γ δ ε : Type} [Enc α] [Enc β] [Enc γ] [Enc δ] [Enc ε] : Enc (T5 α β γ δ ε) where
  enc := fun x => PyData.tuple [enc x.a, enc x.b, enc x.c, enc x.d, enc x.e]
  to := fun h => by
    obtain ⟨a, u1, u2, u3, u4, u5, rfl, s, p1, p2, p3, p4, p5⟩ := h
    exact .tup s (.cons (Enc.to p1) (.cons (Enc.to p2) (.cons (Enc.to p3) (.cons (Enc.to p4) (.cons (Enc.to p5) .nil)))))
end Cf

set_option Elab.async false
set_option linter.all false
set_option maxRecDepth 100000
set_option maxHeartbeats 4000000
namespace Cf
open PySem L2
open Rp (rp)
open RpL (rpl)
open Enc (enc)

/-! ### what an expression, a test, arguments reckon -/
abbrev o2 {α β γ : Type} (m1 : Option α) (m2 : Option β) (f : α → β → Option γ) : Option γ := m1.bind fun x => m2.bind fun y => f x y
def Cp {α : Type} [Rp α] (K : Fg) (te : TE) (σ : L2.St) (B : Hp) (m : Option α) : Prop :=
  ∀ B1 H1, Ex B B1 → Ex B1 H1 → ∀ x, m = some x → ∀ Q : VK, (∀ v B2 H2, Gr noM B1 H1 B2 H2 → rp K B2 v x → Q v H2) → te σ H1 Q
def Ct (tt : TT) (σ : L2.St) (B : Hp) (m : Option Bool) : Prop :=
  ∀ B1 H1, Ex B B1 → Ex B1 H1 → ∀ x, m = some x → ∀ Q : Bool → Hp → Prop, (∀ B2 H2, Gr noM B1 H1 B2 H2 → Q x H2) → tt σ H1 Q
def Ca {τ : Type} [RpL τ] (K : Fg) (ta : TA) (σ : L2.St) (B : Hp) (m : Option τ) : Prop :=
  ∀ B1 H1, Ex B B1 → Ex B1 H1 → ∀ x, m = some x → ∀ Q : List V → Hp → Prop, (∀ vs B2 H2, Gr noM B1 H1 B2 H2 → rpl K B2 vs x → Q vs H2) → ta σ H1 Q
/-- a new list, nobody else's yet -/
def Co {α : Type} [Rp α] (K : Fg) (te : TE) (σ : L2.St) (B : Hp) (m : Option (List α)) : Prop :=
  ∀ B1 H1, Ex B B1 → Ex B1 H1 → ∀ xs, m = some xs → ∀ Q : VK, (∀ p vs B2 H2, Gr noM B1 H1 B2 H2 → H1 p = none → B2 p = none → H2 p = some (.lst vs) → Paired (rp K B2) vs xs → Q (.ref p) H2) → te σ H1 Q
/-- operators on values -/
def R2p {α β γ : Type} [Rp α] [Rp β] [Rp γ] (K : Fg) (r : R2) (f : α → β → Option γ) : Prop :=
  ∀ B H x y z vx vy, Ex B H → rp K B vx x → rp K B vy y → f x y = some z → ∀ Q : VK, (∀ v B2 H2, Gr noM B H B2 H2 → rp K B2 v z → Q v H2) → r vx vy H Q
def R1p {α γ : Type} [Rp α] [Rp γ] (K : Fg) (r : V → Hp → VK → Prop) (f : α → Option γ) : Prop :=
  ∀ B H x z vx, Ex B H → rp K B vx x → f x = some z → ∀ Q : VK, (∀ v B2 H2, Gr noM B H B2 H2 → rp K B2 v z → Q v H2) → r vx H Q
def Rcp {τ γ : Type} [RpL τ] [Rp γ] (K : Fg) (r : List V → Hp → VK → Prop) (f : τ → Option γ) : Prop :=
  ∀ B H t z vs, Ex B H → rpl K B vs t → f t = some z → ∀ Q : VK, (∀ v B2 H2, Gr noM B H B2 H2 → rp K B2 v z → Q v H2) → r vs H Q
section
variable {K : Fg} {σ : L2.St} {B H B' H' : Hp} {te ta tb tc : TE} {tt tu : TT} {tas : TA} {α β γ τ ρ : Type}
theorem o2_some {m1 : Option α} {m2 : Option β} {f : α → β → Option γ} {z : γ} (h : o2 m1 m2 f = some z) : ∃ x y, m1 = some x ∧ m2 = some y ∧ f x y = some z := by
  cases m1 with
  | none => cases h
  | some x => cases m2 with
    | none => cases h
    | some y => exact ⟨x, y, rfl, rfl, h⟩
theorem bd_some {m : Option α} {f : α → Option γ} {z : γ} (h : m.bind f = some z) : ∃ x, m = some x ∧ f x = some z := by
  cases m with
  | none => cases h
  | some x => exact ⟨x, rfl, h⟩
theorem Cp.mono [Rp α] {m : Option α} (h : Cp K te σ B m) (g : Ex B B') : Cp K te σ B' m := fun B1 H1 g1 => h B1 H1 (g.trans g1)
theorem Ct.mono {m : Option Bool} (h : Ct tt σ B m) (g : Ex B B') : Ct tt σ B' m := fun B1 H1 g1 => h B1 H1 (g.trans g1)
theorem Ca.mono [RpL τ] {m : Option τ} (h : Ca K tas σ B m) (g : Ex B B') : Ca K tas σ B' m := fun B1 H1 g1 => h B1 H1 (g.trans g1)
theorem Cp.to [Rp α] {m m' : Option α} (h : Cp K te σ B m) (e : m = m') : Cp K te σ B m' := e ▸ h
theorem Ct.to {m m' : Option Bool} (h : Ct tt σ B m) (e : m = m') : Ct tt σ B m' := e ▸ h
theorem Co.cp [Rp α] {m : Option (List α)} (h : Co K te σ B m) : Cp K te σ B m := fun B1 H1 b eh xs e Q q => h B1 H1 b eh xs e Q fun p vs B2 H2 g2 f n hp pr =>
  q (.ref p) (upd B2 p (.lst vs)) H2 (g2.freeze hp f n) ⟨p, vs, rfl, upd_same, pr_mono (Ex.new n) pr⟩
theorem cp_var [Rp α] {i : Nat} {v : V} {x : α} (hs : σ[i]? = some (some v)) (h : rp K B v x) : Cp K (tVar i) σ B (some x) := fun B1 H1 b eh y e Q q => by
  cases e
  exact ⟨v, hs, q v B1 H1 (Gr.refl eh) (Rp.mono b h)⟩
theorem cp_c [Rp α] {v : V} {x : α} (h : rp K B v x) : Cp K (tC v) σ B (some x) := fun B1 H1 b eh y e Q q => by
  cases e
  exact q v B1 H1 (Gr.refl eh) (Rp.mono b h)
theorem cp_int {i : Int} : Cp K (tC (.int i)) σ B (some i) := cp_c rfl
theorem cp_bl {i : Bool} : Cp K (tC (.bl i)) σ B (some i) := cp_c rfl
theorem cp_str {i : Str} : Cp K (tC (.str i)) σ B (some i) := cp_c rfl
theorem cp_non : Cp K (tC .non) σ B (some ()) := cp_c rfl
/-- None where something may be -/
theorem cp_nonO [Rp α] : Cp K (tC .non) σ B (some (none : Option α)) := cp_c rfl
theorem Cp.opt [Rp α] {m : Option α} (h : Cp K te σ B m) : Cp K te σ B (m.bind fun x => some (some x)) := fun B1 H1 b eh y e Q q => by
  obtain ⟨x, e1, e2⟩ := bd_some e
  cases e2
  exact h B1 H1 b eh x e1 Q q
/-- what is not None -/
theorem Cp.got [Rp α] {m : Option (Option α)} (h : Cp K te σ B m) : Cp K te σ B (m.bind fun x => x) := fun B1 H1 b eh y e Q q => by
  obtain ⟨x, e1, e2⟩ := bd_some e
  subst e2
  exact h B1 H1 b eh _ e1 Q q
theorem cp_op [Rp α] [Rp β] [Rp γ] {r : R2} {f : α → β → Option γ} {m1 : Option α} {m2 : Option β} (hr : R2p K r f) (ha : Cp K ta σ B m1) (hb : Cp K tb σ B m2) : Cp K (tOp r ta tb) σ B (o2 m1 m2 f) := fun B1 H1 b eh z e Q q => by
  obtain ⟨x, y, e1, e2, e3⟩ := o2_some e
  refine ha B1 H1 b eh x e1 _ fun v B2 H2 g2 hv => ?_
  refine hb B2 H2 (b.trans g2.b) g2.e y e2 _ fun u B3 H3 g3 hu => ?_
  exact hr B3 H3 x y z v u g3.e (Rp.mono g3.b hv) hu e3 Q fun w B4 H4 g4 hw => q w B4 H4 ((g2.trans g3).trans g4) hw
theorem cp_un [Rp α] [Rp γ] {r : V → Hp → VK → Prop} {f : α → Option γ} {m : Option α} (hr : R1p K r f) (ha : Cp K ta σ B m) : Cp K (tUn r ta) σ B (m.bind f) := fun B1 H1 b eh z e Q q => by
  obtain ⟨x, e1, e2⟩ := bd_some e
  refine ha B1 H1 b eh x e1 _ fun v B2 H2 g2 hv => ?_
  exact hr B2 H2 x z v g2.e hv e2 Q fun w B3 H3 g3 hw => q w B3 H3 (g2.trans g3) hw
theorem cp_cb [RpL τ] [Rp γ] {r : List V → Hp → VK → Prop} {f : τ → Option γ} {m : Option τ} (hr : Rcp K r f) (ha : Ca K tas σ B m) : Cp K (tCB r tas) σ B (m.bind f) := fun B1 H1 b eh z e Q q => by
  obtain ⟨x, e1, e2⟩ := bd_some e
  refine ha B1 H1 b eh x e1 _ fun vs B2 H2 g2 hv => ?_
  exact hr B2 H2 x z vs g2.e hv e2 Q fun w B3 H3 g3 hw => q w B3 H3 (g2.trans g3) hw
theorem ca_nil : Ca K tNil σ B (some ()) := fun B1 H1 b eh x e Q q => q [] B1 H1 (Gr.refl eh) rfl
theorem ca_cons [Rp α] [RpL τ] {m1 : Option α} {m2 : Option τ} (ha : Cp K ta σ B m1) (hb : Ca K tas σ B m2) : Ca K (tCons ta tas) σ B (o2 m1 m2 fun x y => some (x, y)) := fun B1 H1 b eh z e Q q => by
  obtain ⟨x, y, e1, e2, e3⟩ := o2_some e
  cases e3
  refine ha B1 H1 b eh x e1 _ fun v B2 H2 g2 hv => ?_
  refine hb B2 H2 (b.trans g2.b) g2.e y e2 _ fun vs B3 H3 g3 hu => ?_
  exact q (v :: vs) B3 H3 (g2.trans g3) ⟨v, vs, rfl, Rp.mono g3.b hv, hu⟩
/-- the promise of a def that changes nothing: f of its arguments -/
def spP {τ γ : Type} [RpL τ] [Rp γ] (K : Fg) (f : τ → Option γ) : Sp := fun vs H Q _ => ∃ B t r, Ex B H ∧ rpl K B vs t ∧ f t = some r ∧ ∀ v B' H', Gr noM B H B' H' → rp K B' v r → Q v H'
/-- .. that hands back a new list -/
def spO {τ γ : Type} [RpL τ] [Rp γ] (K : Fg) (f : τ → Option (List γ)) : Sp := fun vs H Q _ => ∃ B t r, Ex B H ∧ rpl K B vs t ∧ f t = some r ∧ ∀ p us B' H', Gr noM B H B' H' → H p = none → B' p = none → H' p = some (.lst us) → Paired (rp K B') us r → Q (.ref p) H'
theorem cp_call [RpL τ] [Rp γ] {f : τ → Option γ} {m : Option τ} {E : XK} (ha : Ca K tas σ B m) : Cp K (tCall (spP K f) [] E tas) σ B (m.bind f) := fun B1 H1 b eh z e Q q => by
  obtain ⟨x, e1, e2⟩ := bd_some e
  refine ha B1 H1 b eh x e1 _ fun vs B2 H2 g2 hv => ?_
  rw [List.append_nil]
  exact ⟨B2, x, z, g2.e, hv, e2, fun v B3 H3 g3 h3 => q v B3 H3 (g2.trans g3) h3⟩
theorem co_call [RpL τ] [Rp γ] {f : τ → Option (List γ)} {m : Option τ} {E : XK} (ha : Ca K tas σ B m) : Co K (tCall (spO K f) [] E tas) σ B (m.bind f) := fun B1 H1 b eh z e Q q => by
  obtain ⟨x, e1, e2⟩ := bd_some e
  refine ha B1 H1 b eh x e1 _ fun vs B2 H2 g2 hv => ?_
  rw [List.append_nil]
  exact ⟨B2, x, z, g2.e, hv, e2, fun p us B3 H3 g3 f n hp pr => q p us B3 H3 (g2.trans g3) (g2.fresh f) n hp pr⟩
/-! ### tests -/
theorem ct_test {m : Option Bool} (h : Cp K te σ B m) : Ct (tTest te) σ B m := fun B1 H1 b eh x e Q q => h B1 H1 b eh x e _ fun v B2 H2 g2 hv => ⟨x, hv, q B2 H2 g2⟩
theorem ct_B {m : Option Bool} (h : Cp K te σ B m) : Ct (tB te) σ B m := fun B1 H1 b eh x e Q q => h B1 H1 b eh x e _ fun v B2 H2 g2 hv => ⟨x, hv, q B2 H2 g2⟩
theorem ct_and {m1 m2 : Option Bool} (h1 : Ct tt σ B m1) (h2 : Ct tu σ B m2) : Ct (tAnd tt tu) σ B (m1.bind fun a => if a = true then m2 else some false) := fun B1 H1 b eh z e Q q => by
  obtain ⟨a, e1, e2⟩ := bd_some e
  refine h1 B1 H1 b eh a e1 _ fun B2 H2 g2 => ?_
  cases a with
  | true => exact h2 B2 H2 (b.trans g2.b) g2.e z e2 Q fun B3 H3 g3 => q B3 H3 (g2.trans g3)
  | false =>
    cases e2
    exact q B2 H2 g2
theorem ct_or {m1 m2 : Option Bool} (h1 : Ct tt σ B m1) (h2 : Ct tu σ B m2) : Ct (tOr tt tu) σ B (m1.bind fun a => if a = true then some true else m2) := fun B1 H1 b eh z e Q q => by
  obtain ⟨a, e1, e2⟩ := bd_some e
  refine h1 B1 H1 b eh a e1 _ fun B2 H2 g2 => ?_
  cases a with
  | false => exact h2 B2 H2 (b.trans g2.b) g2.e z e2 Q fun B3 H3 g3 => q B3 H3 (g2.trans g3)
  | true =>
    cases e2
    exact q B2 H2 g2
theorem ct_not {m : Option Bool} (h : Ct tt σ B m) : Ct (tNot tt) σ B (m.bind fun a => some (!a)) := fun B1 H1 b eh z e Q q => by
  obtain ⟨a, e1, e2⟩ := bd_some e
  cases e2
  exact h B1 H1 b eh a e1 _ fun B2 H2 g2 => q B2 H2 g2
theorem cp_andV {m1 m2 : Option Bool} (h1 : Cp K ta σ B m1) (h2 : Cp K tb σ B m2) : Cp K (tAndV ta tb) σ B (m1.bind fun a => if a = true then m2 else some false) := fun B1 H1 b eh z e Q q => by
  obtain ⟨a, e1, e2⟩ := bd_some e
  refine h1 B1 H1 b eh a e1 _ fun v B2 H2 g2 hv => ⟨a, hv, ?_⟩
  cases a with
  | true => exact h2 B2 H2 (b.trans g2.b) g2.e z e2 Q fun v B3 H3 g3 h3 => q v B3 H3 (g2.trans g3) h3
  | false =>
    cases e2
    exact q _ B2 H2 g2 rfl
theorem cp_orV {m1 m2 : Option Bool} (h1 : Cp K ta σ B m1) (h2 : Cp K tb σ B m2) : Cp K (tOrV ta tb) σ B (m1.bind fun a => if a = true then some true else m2) := fun B1 H1 b eh z e Q q => by
  obtain ⟨a, e1, e2⟩ := bd_some e
  refine h1 B1 H1 b eh a e1 _ fun v B2 H2 g2 hv => ⟨a, hv, ?_⟩
  cases a with
  | false => exact h2 B2 H2 (b.trans g2.b) g2.e z e2 Q fun v B3 H3 g3 h3 => q v B3 H3 (g2.trans g3) h3
  | true =>
    cases e2
    exact q _ B2 H2 g2 rfl
theorem cp_notV {m : Option Bool} (h : Cp K ta σ B m) : Cp K (tNotV ta) σ B (m.bind fun a => some (!a)) := fun B1 H1 b eh z e Q q => by
  obtain ⟨a, e1, e2⟩ := bd_some e
  cases e2
  exact h B1 H1 b eh a e1 _ fun v B2 H2 g2 hv => ⟨a, hv, q _ B2 H2 g2 rfl⟩
theorem cp_chain [Rp α] [Rp β] [Rp γ] {r r' : R2} {f : α → β → Option Bool} {f' : β → γ → Option Bool} {m1 : Option α} {m2 : Option β} {m3 : Option γ} (hr : R2p K r f) (hr' : R2p K r' f')
    (ha : Cp K ta σ B m1) (hb : Cp K tb σ B m2) (hc : Cp K tc σ B m3) : Cp K (tChain r r' ta tb tc) σ B (o2 m1 m2 fun x y => (f x y).bind fun k => if k = true then m3.bind fun z => f' y z else some false) := fun B1 H1 b eh z e Q q => by
  obtain ⟨x, y, e1, e2, e3⟩ := o2_some e
  obtain ⟨k, e4, e5⟩ := bd_some e3
  refine ha B1 H1 b eh x e1 _ fun v B2 H2 g2 hv => ?_
  refine hb B2 H2 (b.trans g2.b) g2.e y e2 _ fun u B3 H3 g3 hu => ?_
  refine hr B3 H3 x y k v u g3.e (Rp.mono g3.b hv) hu e4 _ fun w B4 H4 g4 hw => ⟨k, hw, ?_⟩
  cases k with
  | true =>
    obtain ⟨c, e6, e7⟩ := bd_some e5
    refine hc B4 H4 (b.trans ((g2.trans g3).trans g4).b) g4.e c e6 _ fun t B5 H5 g5 ht => ?_
    exact hr' B5 H5 y c z u t g5.e (Rp.mono (g4.trans g5).b hu) ht e7 Q fun t2 B6 H6 g6 h6 => q t2 B6 H6 ((((g2.trans g3).trans g4).trans g5).trans g6) h6
  | false =>
    cases e5
    exact q _ B4 H4 ((g2.trans g3).trans g4) rfl
end

/-! ### operators -/
def pdiv (i j : Int) : Option Int := if 0 < j ∧ j < 1073741824 then some (i / j) else none
def pmod (i j : Int) : Option Int := if 0 < j then some (i % j) else none
def pmul (i j : Int) : Option Int := if (-(2 ^ 64) < i ∧ i < 2 ^ 64) ∨ (-(2 ^ 64) < j ∧ j < 2 ^ 64) then some (i * j) else none
def ppow (i j : Int) : Option Int := if 0 ≤ j ∧ j ≤ 1000000 ∧ i.natAbs < 2 ^ 64 then some (i ^ j.toNat) else none
def pshr (i j : Int) : Option Int := if 0 ≤ j then some (i / 2 ^ j.toNat) else none
section
variable {K : Fg}
theorem r2_I0 {γ : Type} [Rp γ] {g : Int → Int → V} {f : Int → Int → γ} (h : ∀ i j K B, rp K B (g i j) (f i j)) : R2p K (rI0 g) (fun i j => some (f i j)) := fun B H x y z vx vy e hx hy ez Q q => by
  cases ez
  exact ⟨x, y, hx, hy, q _ B H (Gr.refl e) (h x y K B)⟩
theorem r2_I {C : Int → Int → Prop} {g : Int → Int → V} {f : Int → Int → Option Int} (h : ∀ i j z, f i j = some z → C i j ∧ g i j = .int z) : R2p K (rI C g) f := fun B H x y z vx vy e hx hy ez Q q => by
  obtain ⟨c, ge⟩ := h x y z ez
  exact ⟨x, y, hx, hy, c, q _ B H (Gr.refl e) ge⟩
theorem if_some {α : Type} {c : Prop} [Decidable c] {x z : α} (h : (if c then some x else none) = some z) : c ∧ x = z := by
  by_cases hc : c
  · rw [if_pos hc] at h
    exact ⟨hc, Option.some.inj h⟩
  · rw [if_neg hc] at h
    cases h
theorem r2_add : R2p K (rI0 fun i j => .int (i + j)) (fun i j : Int => some (i + j)) := r2_I0 fun _ _ _ _ => rfl
theorem r2_sub : R2p K (rI0 fun i j => .int (i - j)) (fun i j : Int => some (i - j)) := r2_I0 fun _ _ _ _ => rfl
theorem r2_mul : R2p K (rI CMul fun i j => .int (i * j)) pmul := r2_I fun i j z h => by
  obtain ⟨c, e⟩ := if_some h
  exact ⟨c, by rw [e]⟩
theorem r2_div : R2p K (rI CDiv fun i j => .int (i / j)) pdiv := r2_I fun i j z h => by
  obtain ⟨c, e⟩ := if_some h
  exact ⟨c, by rw [e]⟩
theorem r2_mod : R2p K (rI (fun _ j => 0 < j) fun i j => .int (i % j)) pmod := r2_I fun i j z h => by
  obtain ⟨c, e⟩ := if_some h
  exact ⟨c, by rw [e]⟩
theorem r2_pow : R2p K (rI CPow fun i j => .int (i ^ j.toNat)) ppow := r2_I fun i j z h => by
  obtain ⟨c, e⟩ := if_some h
  exact ⟨c, by rw [e]⟩
theorem r2_shr : R2p K (rI (fun _ j => 0 ≤ j) fun i j => .int (i / 2 ^ j.toNat)) pshr := r2_I fun i j z h => by
  obtain ⟨c, e⟩ := if_some h
  exact ⟨c, by rw [e]⟩
theorem r2_xor : R2p K (rI0 fun i j => .int (Builtin.bitXor i j)) (fun i j : Int => some (Builtin.bitXor i j)) := r2_I0 fun _ _ _ _ => rfl
theorem r2_lt : R2p K (rI0 fun i j => .bl (decide (i < j))) (fun i j : Int => some (decide (i < j))) := r2_I0 fun _ _ _ _ => rfl
theorem r2_le : R2p K (rI0 fun i j => .bl (decide (i ≤ j))) (fun i j : Int => some (decide (i ≤ j))) := r2_I0 fun _ _ _ _ => rfl
theorem r2_gt : R2p K (rI0 fun i j => .bl (decide (j < i))) (fun i j : Int => some (decide (j < i))) := r2_I0 fun _ _ _ _ => rfl
theorem r2_ge : R2p K (rI0 fun i j => .bl (decide (j ≤ i))) (fun i j : Int => some (decide (j ≤ i))) := r2_I0 fun _ _ _ _ => rfl
theorem r1_neg : R1p K (rU fun i => .int (-i)) (fun i : Int => some (-i)) := fun B H x z vx e hx ez Q q => by
  cases ez
  exact ⟨x, hx, q _ B H (Gr.refl e) rfl⟩
/-- == of scalars of one kind -/
class Sc (α : Type) extends Rp α where
  dec : DecidableEq α
  ok : ∀ {K : Fg} {B : Hp} {u v : V} {x y : α}, rp K B u x → rp K B v y → scal u v = true ∧ (u = v ↔ x = y)
instance : Sc Int := { dec := inferInstance, ok := fun h1 h2 => by cases h1; cases h2; exact ⟨rfl, by simp⟩ }
instance : Sc Bool := { dec := inferInstance, ok := fun h1 h2 => by cases h1; cases h2; exact ⟨rfl, by simp⟩ }
instance : Sc Str := { dec := inferInstance, ok := fun h1 h2 => by cases h1; cases h2; exact ⟨rfl, by simp⟩ }
/-- a scalar that is not None -/
class Sn (α : Type) extends Sc α where
  nn : ∀ {K : Fg} {B : Hp} {u : V} {x : α}, rp K B u x → u ≠ .non ∧ scal u .non = true ∧ scal .non u = true
instance : Sn Int where
  nn := fun h => by cases h; exact ⟨(fun e => nomatch e), rfl, rfl⟩
instance : Sn Bool where
  nn := fun h => by cases h; exact ⟨(fun e => nomatch e), rfl, rfl⟩
instance : Sn Str where
  nn := fun h => by cases h; exact ⟨(fun e => nomatch e), rfl, rfl⟩
instance {α : Type} [Sn α] : Sc (Option α) where
  dec := by
    have : DecidableEq α := Sc.dec
    infer_instance
  ok := fun {K B u v x y} h1 h2 => by
    cases x with
    | none =>
      cases (show u = .non from h1)
      cases y with
      | none => cases (show v = .non from h2); exact ⟨rfl, by simp⟩
      | some j =>
        obtain ⟨n1, n2, n3⟩ := Sn.nn (α := α) (show rp K B v j from h2)
        exact ⟨n3, ⟨fun e => absurd e.symm n1, fun e => nomatch e⟩⟩
    | some i =>
      cases y with
      | none =>
        cases (show v = .non from h2)
        obtain ⟨n1, n2, n3⟩ := Sn.nn (α := α) (show rp K B u i from h1)
        exact ⟨n2, ⟨fun e => absurd e n1, fun e => nomatch e⟩⟩
      | some j =>
        obtain ⟨s, e⟩ := Sc.ok (α := α) (show rp K B u i from h1) (show rp K B v j from h2)
        exact ⟨s, e.trans ⟨fun z => congrArg some z, fun z => Option.some.inj z⟩⟩
instance (priority := low) {α : Type} [Sc α] : DecidableEq α := Sc.dec
theorem r2_eq {α : Type} [i : Sc α] [d : DecidableEq α] : R2p K rEq (fun x y : α => some (decide (x = y))) := fun B H x y z vx vy e hx hy ez Q q => by
  cases ez
  obtain ⟨s, h⟩ := i.ok hx hy
  refine ⟨s, q _ B H (Gr.refl e) ?_⟩
  show V.bl _ = V.bl _
  rw [decide_eq_decide.mpr h]
theorem r2_ne {α : Type} [i : Sc α] [d : DecidableEq α] : R2p K rNe (fun x y : α => some (!decide (x = y))) := fun B H x y z vx vy e hx hy ez Q q => by
  cases ez
  obtain ⟨s, h⟩ := i.ok hx hy
  refine ⟨s, q _ B H (Gr.refl e) ?_⟩
  show V.bl _ = V.bl _
  rw [decide_eq_decide.mpr h]
/-! ### built-in calls -/
def RInt : List V → Hp → VK → Prop := fun xs H Q => (∃ i, xs = [.int i] ∧ Q (.int i) H) ∨ ∃ k, xs = [.bl k] ∧ Q (.int (if k then 1 else 0)) H
theorem call_int_ {X : Cx} : CallR X (.type "int") RInt := call_int1
theorem rc_int : Rcp K RInt (fun t : Int × Unit => some t.1) := fun B H t z vs e h ez Q q => by
  cases ez
  obtain ⟨v, us, rfl, h1, h2⟩ := h
  cases (show us = [] from h2)
  cases (show v = .int _ from h1)
  exact .inl ⟨_, rfl, q _ B H (Gr.refl e) rfl⟩
/-! ### indexes -/
/-- the item at a place counted from either end -/
def at? {α : Type} (xs : List α) (i : Int) : Option α := if 0 ≤ i then xs[i.toNat]? else if 0 ≤ i + (xs.length : Int) then xs[(i + (xs.length : Int)).toNat]? else none
theorem atI_of {α : Type} {R : V → α → Prop} {vs : List V} {xs : List α} {i : Int} {x : α} (p : Paired R vs xs) (h : at? xs i = some x) : ∃ v, atI vs i = some v ∧ R v x := by
  have hl := pr_len p
  unfold at? at h
  unfold atI ixN
  by_cases h0 : 0 ≤ i
  · rw [if_pos h0] at h
    obtain ⟨v, hv, r⟩ := pr_get p h
    have hb : i.toNat < vs.length := (List.getElem?_eq_some_iff.mp hv).1
    refine ⟨v, ?_, r⟩
    rw [if_pos h0, if_pos (by omega)]
    exact hv
  · rw [if_neg h0] at h
    by_cases h1 : 0 ≤ i + (xs.length : Int)
    · rw [if_pos h1] at h
      obtain ⟨v, hv, r⟩ := pr_get p h
      refine ⟨v, ?_, r⟩
      rw [if_neg h0, if_pos (by omega), hl]
      exact hv
    · rw [if_neg h1] at h
      cases h
theorem r2_ixL {α : Type} [Rp α] : R2p K (rIxL K) (fun (xs : List α) (i : Int) => at? xs i) := fun B H xs i z vx vy e hx hy ez Q q => by
  obtain ⟨a, vs, rfl, hs, hp⟩ := hx
  cases (show vy = .int i from hy)
  obtain ⟨v, hv, hr⟩ := atI_of hp ez
  exact ⟨a, vs, i, v, rfl, rfl, sq_lst (e _ _ hs), hv, q v B H (Gr.refl e) hr⟩
theorem ints_pr {B : Hp} : ∀ ns : List Int, Paired (rp K B) (ns.map V.int) ns
  | [] => .nil
  | _ :: ns => .cons rfl (ints_pr ns)
theorem r2_ixScr : R2p K (rIxL K) (fun (x : Scr) (i : Int) => at? x.l i) := fun B H x i z vx vy e hx hy ez Q q => by
  obtain ⟨a, rfl, hs⟩ := hx
  cases (show vy = .int i from hy)
  obtain ⟨v, hv, hr⟩ := atI_of (R := rp K B) (ints_pr x.l) ez
  exact ⟨a, _, i, v, rfl, rfl, sql_mono e hs, hv, q v B H (Gr.refl e) hr⟩
end
end Cf

set_option Elab.async false
set_option linter.all false
set_option maxRecDepth 100000
set_option maxHeartbeats 4000000
namespace Cf
open PySem L2
open Rp (rp)
open RpL (rpl)
open Enc (enc)
/-! ### loops in the mirror -/
inductive Fl (S R : Type) where
  | nx (s : S)
  | bk (s : S)
  | rt (r : R)
def forF {α S R : Type} (b : α → S → Option (Fl S R)) : List α → S → Option (Fl S R)
  | [], s => some (.nx s)
  | x :: xs, s => (b x s).bind fun c => match c with
    | .nx s' => forF b xs s'
    | .bk s' => some (.nx s')
    | .rt r => some (.rt r)
def forN {α S : Type} (b : α → S → Option S) : List α → S → Option S
  | [], s => some s
  | x :: xs, s => (b x s).bind fun s' => forN b xs s'
def whF {S R : Type} (c : S → Option Bool) (b : S → Option (Fl S R)) : Nat → S → Option (Fl S R)
  | 0, _ => none
  | n + 1, s => (c s).bind fun t => if t = true then (b s).bind fun c' => match c' with
      | .nx s' => whF c b n s'
      | .bk s' => some (.nx s')
      | .rt r => some (.rt r)
    else some (.nx s)
def whN {S : Type} (c : S → Option Bool) (b : S → Option S) : Nat → S → Option S
  | 0, _ => none
  | n + 1, s => (c s).bind fun t => if t = true then (b s).bind fun s' => whN c b n s' else some s
def rangeL (lo hi : Int) : List Int := (List.range (hi - lo).toNat).map fun (i : Nat) => lo + (i : Int)
section
variable {K : Fg} {σ : L2.St} {B H B' H' : Hp} {te ta tb tc : TE} {tt tu : TT} {tas : TA} {α β γ τ ρ S R : Type} {D : Ends} {t u ts : TS} {g : TG}
/-! ### statements -/
theorem st_asg [Rp α] {m m' : Option α} {k : α → Option ρ} {r : ρ} {i : Nat} (hm : m'.bind k = some r) (e : Ex B H) (hc : Cp K te σ B m) (he : m = m')
    (q : ∀ x v B1 H1, m' = some x → k x = some r → Gr noM B H B1 H1 → rp K B1 v x → D.nx (σ.set i (some v)) H1) : tAsg te (gName i) D σ H := by
  subst he
  obtain ⟨x, e1, e2⟩ := bd_some hm
  exact hc B H (Ex.refl B) e x e1 _ fun v B1 H1 g hv => q x v B1 H1 e1 e2 g hv
theorem st_asgO [Rp α] {m m' : Option (List α)} {k : List α → Option ρ} {r : ρ} {i : Nat} (hm : m'.bind k = some r) (e : Ex B H) (hc : Co K te σ B m) (he : m = m')
    (q : ∀ xs p vs B1 H1, m' = some xs → k xs = some r → Gr noM B H B1 H1 → H p = none → B1 p = none → H1 p = some (.lst vs) → Paired (rp K B1) vs xs → D.nx (σ.set i (some (.ref p))) H1) : tAsg te (gName i) D σ H := by
  subst he
  obtain ⟨x, e1, e2⟩ := bd_some hm
  exact hc B H (Ex.refl B) e x e1 _ fun p vs B1 H1 g f n hp pr => q x p vs B1 H1 e1 e2 g f n hp pr
theorem st_drop [Rp α] {m m' : Option α} {k : α → Option ρ} {r : ρ} (hm : m'.bind k = some r) (e : Ex B H) (hc : Cp K te σ B m) (he : m = m')
    (q : ∀ x B1 H1, m' = some x → k x = some r → Gr noM B H B1 H1 → D.nx σ H1) : tDrop te D σ H := by
  subst he
  obtain ⟨x, e1, e2⟩ := bd_some hm
  exact hc B H (Ex.refl B) e x e1 _ fun v B1 H1 g hv => q x B1 H1 e1 e2 g
theorem st_ret [Rp α] {m m' : Option α} {r : α} (hm : m' = some r) (e : Ex B H) (hc : Cp K te σ B m) (he : m = m') (q : ∀ v B1 H1, Gr noM B H B1 H1 → rp K B1 v r → D.rt v H1) : tRet te D σ H := by
  subst he
  exact hc B H (Ex.refl B) e r hm _ fun v B1 H1 g hv => q v B1 H1 g hv
theorem st_retF [Rp α] {m m' : Option α} {k : α → Option ρ} {c : ρ} (hm : m'.bind k = some c) (e : Ex B H) (hc : Cp K te σ B m) (he : m = m') (q : ∀ x v B1 H1, k x = some c → Gr noM B H B1 H1 → rp K B1 v x → D.rt v H1) : tRet te D σ H := by
  subst he
  obtain ⟨x, e1, e2⟩ := bd_some hm
  exact hc B H (Ex.refl B) e x e1 _ fun v B1 H1 g hv => q x v B1 H1 e2 g hv
theorem st_if {c c' : Option Bool} {A A' : Option ρ} {r : ρ} (hm : (c'.bind fun b => if b = true then A else A') = some r) (e : Ex B H) (hc : Ct tt σ B c) (he : c = c')
    (h1 : ∀ B1 H1, c' = some true → A = some r → Gr noM B H B1 H1 → t D σ H1) (h2 : ∀ B1 H1, c' = some false → A' = some r → Gr noM B H B1 H1 → u D σ H1) : tIfS tt t u D σ H := by
  subst he
  obtain ⟨b, e1, e2⟩ := bd_some hm
  refine hc B H (Ex.refl B) e b e1 _ fun B1 H1 g => ?_
  cases b with
  | true => exact h1 B1 H1 e1 e2 g
  | false => exact h2 B1 H1 e1 e2 g
/-- an if whose ways meet: J is what holds there -/
theorem st_ifJ {c c' : Option Bool} {A A' : Option S} {k : S → Option ρ} {r : ρ} (hm : ((c'.bind fun b => if b = true then A else A').bind k) = some r) (J : S → L2.St → Hp → Prop) (e : Ex B H) (hc : Ct tt σ B c) (he : c = c')
    (h1 : ∀ s B1 H1 (N : L2.St → Hp → Prop), c' = some true → A = some s → Gr noM B H B1 H1 → (∀ σ' H', J s σ' H' → N σ' H') → t { D with nx := N } σ H1)
    (h2 : ∀ s B1 H1 (N : L2.St → Hp → Prop), c' = some false → A' = some s → Gr noM B H B1 H1 → (∀ σ' H', J s σ' H' → N σ' H') → u { D with nx := N } σ H1)
    (q : ∀ s σ' H', k s = some r → J s σ' H' → D.nx σ' H') : tIfS tt t u D σ H := by
  subst he
  obtain ⟨s, e0, e3⟩ := bd_some hm
  obtain ⟨b, e1, e2⟩ := bd_some e0
  refine hc B H (Ex.refl B) e b e1 _ fun B1 H1 g => ?_
  cases b with
  | true => exact h1 s B1 H1 D.nx e1 e2 g fun σ' H' j => q s σ' H' e3 j
  | false => exact h2 s B1 H1 D.nx e1 e2 g fun σ' H' j => q s σ' H' e3 j
/-! ### loops -/
/-- a walk over the items xs: the loop's own iterator J yields their values, in a heap that is I's again -/
theorem forF_run {J : It} {xs : List α} [Rp α] {b : α → S → Option (Fl S R)} {k : Fl S R → Option ρ} {r : ρ} {s0 : S} (I : S → Hp → L2.St → Hp → Prop)
    (hgo : ∀ i s B σ H, I s B σ H → i < xs.length → J.go i H) (hst : ∀ i s B σ H, I s B σ H → xs.length ≤ i → J.stop i H)
    (hy : ∀ i x s B σ H v H', I s B σ H → xs[i]? = some x → J.yld i H v H' → ∃ B', I s B' σ H' ∧ rp K B' v x)
    (hm : (forF b xs s0).bind k = some r) (h0 : I s0 B σ H)
    (hs : ∀ x s B σ H v c (N : L2.St → Hp → Prop), I s B σ H → rp K B v x → b x s = some c → (∀ s2 B2 σ2 H2, c = .nx s2 → I s2 B2 σ2 H2 → N σ2 H2) → (∀ s2 B2 σ2 H2, c = .bk s2 → I s2 B2 σ2 H2 → D.nx σ2 H2) →
      (∀ r', c = .rt r' → k (.rt r') = some r) → g v σ H fun σ2 H2 => ts { D with nx := N, ct := N, bk := D.nx } σ2 H2)
    (hd : ∀ s B σ H, k (.nx s) = some r → I s B σ H → D.nx σ H) :
    ∃ W : Nat → Nat → L2.St → Hp → Prop, (∃ m, W 0 m σ H) ∧ ∀ i m σ H, W i m σ H → (J.stop i H ∧ D.nx σ H) ∨ (J.go i H ∧ ∃ N : L2.St → Hp → Prop, (∀ σ' H', N σ' H' → ∃ m', m' < m ∧ W (i + 1) m' σ' H') ∧
      ∀ x H', J.yld i H x H' → g x σ H' fun σ2 H2 => ts { D with nx := N, ct := N, bk := D.nx } σ2 H2) := by
  refine ⟨fun i m σ H => m = xs.length - i ∧ i ≤ xs.length ∧ ∃ s B, I s B σ H ∧ (forF b (xs.drop i) s).bind k = some r, ⟨_, rfl, Nat.zero_le _, s0, B, h0, hm⟩, ?_⟩
  rintro i m σ H ⟨rfl, hi, s, B, hI, hk⟩
  by_cases hlt : i < xs.length
  · refine .inr ⟨hgo i s B σ H hI hlt, fun σ' H' => i + 1 ≤ xs.length ∧ ∃ s B, I s B σ' H' ∧ (forF b (xs.drop (i + 1)) s).bind k = some r, fun σ' H' h => ⟨xs.length - (i + 1), by omega, rfl, h.1, h.2⟩, fun v H' y => ?_⟩
    have hx : xs[i]? = some xs[i] := List.getElem?_eq_getElem hlt
    obtain ⟨B', hI', hv⟩ := hy i xs[i] s B σ H v H' hI hx y
    have ed : xs.drop i = xs[i] :: xs.drop (i + 1) := List.drop_eq_getElem_cons hlt
    rw [ed] at hk
    obtain ⟨fl, e1, e2⟩ := bd_some hk
    obtain ⟨c, e3, e4⟩ := bd_some (show ((b xs[i] s).bind fun c => match c with | .nx s' => forF b (xs.drop (i + 1)) s' | .bk s' => some (.nx s') | .rt r => some (.rt r)) = some fl from e1)
    refine hs xs[i] s B' σ H' v c _ hI' hv e3 (fun s2 B2 σ2 H2 ec hI2 => ⟨hlt, s2, B2, hI2, ?_⟩) (fun s2 B2 σ2 H2 ec hI2 => ?_) (fun r' ec => ?_)
    · subst ec
      rw [show forF b (xs.drop (i + 1)) s2 = some fl from e4]
      exact e2
    · subst ec
      have : (Fl.nx s2 : Fl S R) = fl := Option.some.inj e4
      subst this
      exact hd s2 B2 σ2 H2 e2 hI2
    · subst ec
      have : (Fl.rt r' : Fl S R) = fl := Option.some.inj e4
      subst this
      exact e2
  · have e : xs.drop i = [] := List.drop_eq_nil_of_le (by omega)
    rw [e] at hk
    exact .inl ⟨hst i s B σ H hI (by omega), hd s B σ H hk hI⟩
theorem forN_F {b : α → S → Option S} : ∀ (xs : List α) (s : S), (forN b xs s).map (Fl.nx (R := R)) = forF (fun x s => (b x s).map Fl.nx) xs s
  | [], s => rfl
  | x :: xs, s => by
    unfold forN forF
    cases h : b x s with
    | none => rfl
    | some s' => exact forN_F xs s'
/-- the same, no way out of the loop but its end -/
theorem forN_run {J : It} {xs : List α} [Rp α] {b : α → S → Option S} {k : S → Option ρ} {r : ρ} {s0 : S} (I : S → Hp → L2.St → Hp → Prop)
    (hgo : ∀ i s B σ H, I s B σ H → i < xs.length → J.go i H) (hst : ∀ i s B σ H, I s B σ H → xs.length ≤ i → J.stop i H)
    (hy : ∀ i x s B σ H v H', I s B σ H → xs[i]? = some x → J.yld i H v H' → ∃ B', I s B' σ H' ∧ rp K B' v x)
    (hm : (forN b xs s0).bind k = some r) (h0 : I s0 B σ H)
    (hs : ∀ x s B σ H v s' (N : L2.St → Hp → Prop), I s B σ H → rp K B v x → b x s = some s' → (∀ B2 σ2 H2, I s' B2 σ2 H2 → N σ2 H2) → g v σ H fun σ2 H2 => ts { D with nx := N, ct := N, bk := D.nx } σ2 H2)
    (hd : ∀ s B σ H, k s = some r → I s B σ H → D.nx σ H) :
    ∃ W : Nat → Nat → L2.St → Hp → Prop, (∃ m, W 0 m σ H) ∧ ∀ i m σ H, W i m σ H → (J.stop i H ∧ D.nx σ H) ∨ (J.go i H ∧ ∃ N : L2.St → Hp → Prop, (∀ σ' H', N σ' H' → ∃ m', m' < m ∧ W (i + 1) m' σ' H') ∧
      ∀ x H', J.yld i H x H' → g x σ H' fun σ2 H2 => ts { D with nx := N, ct := N, bk := D.nx } σ2 H2) := by
  refine forF_run (K := K) (R := Unit) (b := fun x s => (b x s).map Fl.nx) (k := fun f => match f with | .nx s => k s | .bk _ => none | .rt _ => none) (r := r) (s0 := s0) I hgo hst hy ?_ h0 (fun x s B σ H v c N hI hv hb n1 n2 n3 => ?_) (fun s B σ H e hI => hd s B σ H e hI)
  · rw [← forN_F]
    cases h : forN b xs s0 with
    | none =>
      rw [h] at hm
      cases hm
    | some s =>
      rw [h] at hm
      exact hm
  · cases h : b x s with
    | none =>
      rw [h] at hb
      cases hb
    | some s' =>
      rw [h] at hb
      have e : Fl.nx s' = c := Option.some.inj hb
      exact hs x s B σ H v s' N hI hv h fun B2 σ2 H2 hI2 => n1 s' B2 σ2 H2 e.symm hI2
theorem itl_go {K : Fg} {H : Hp} {a : Addr} {vs : List V} {i : Nat} (h : SqL K H a vs) (hi : i < vs.length) : (Itl K a).go i H := ⟨vs, vs[i], h, List.getElem?_eq_getElem hi⟩
theorem itl_stop {K : Fg} {H : Hp} {a : Addr} {vs : List V} {i : Nat} (h : SqL K H a vs) (hi : vs.length ≤ i) : (Itl K a).stop i H := ⟨vs, h, hi⟩
/-- for x in a list that is known -/
theorem st_forF_list [Rp α] {mi mi' : Option (List α)} {b : α → S → Option (Fl S R)} {s0 : S} {k : Fl S R → Option ρ} {r : ρ} (I : Hp → S → Hp → L2.St → Hp → Prop) (hm : (mi'.bind fun xs => (forF b xs s0).bind k) = some r) (e : Ex B H) (hc : Cp K te σ B mi) (he : mi = mi')
    (hx : ∀ Be s B σ H, I Be s B σ H → Ex Be B ∧ Ex B H) (h0 : ∀ Be H1, Gr noM B H Be H1 → I Be s0 Be σ H1)
    (hs : ∀ Be x s B σ H v c (N : L2.St → Hp → Prop), I Be s B σ H → rp K B v x → b x s = some c → (∀ s2 B2 σ2 H2, c = .nx s2 → I Be s2 B2 σ2 H2 → N σ2 H2) → (∀ s2 B2 σ2 H2, c = .bk s2 → I Be s2 B2 σ2 H2 → D.nx σ2 H2) →
      (∀ r', c = .rt r' → k (.rt r') = some r) → g v σ H fun σ2 H2 => ts { D with nx := N, ct := N, bk := D.nx } σ2 H2)
    (hd : ∀ Be s B σ H, k (.nx s) = some r → I Be s B σ H → D.nx σ H) : tFor (iList K te) g ts D σ H := by
  subst he
  obtain ⟨xs, e1, e2⟩ := bd_some hm
  refine hc B H (Ex.refl B) e xs e1 _ fun v Be H1 g1 hv => ?_
  obtain ⟨a, vs, rfl, hS, hp⟩ := hv
  have hl := pr_len hp
  refine ⟨a, rfl, ⟨vs, sq_lst (g1.e _ _ hS)⟩, forF_run (K := K) (xs := xs) (B := Be) (I Be) (fun i s B σ H hI hi => ?_) (fun i s B σ H hI hi => ?_) (fun i x s B σ H v H' hI hxi y => ?_) e2 (h0 Be H1 g1) (fun x s B σ H v c N => hs Be x s B σ H v c N) (fun s B σ H => hd Be s B σ H)⟩
  · obtain ⟨x1, x2⟩ := hx _ _ _ _ _ hI
    exact itl_go (sq_lst ((x1.trans x2) _ _ hS)) (by omega)
  · obtain ⟨x1, x2⟩ := hx _ _ _ _ _ hI
    exact itl_stop (sq_lst ((x1.trans x2) _ _ hS)) (by omega)
  · obtain ⟨x1, x2⟩ := hx _ _ _ _ _ hI
    obtain ⟨eH, y⟩ := y
    subst eH
    obtain ⟨w, hw, hr⟩ := pr_get hp hxi
    have ew := y vs (sq_lst ((x1.trans x2) _ _ hS))
    rw [hw] at ew
    cases ew
    exact ⟨B, hI, Rp.mono x1 hr⟩
theorem st_forN_list [Rp α] {mi mi' : Option (List α)} {b : α → S → Option S} {s0 : S} {k : S → Option ρ} {r : ρ} (I : Hp → S → Hp → L2.St → Hp → Prop) (hm : (mi'.bind fun xs => (forN b xs s0).bind k) = some r) (e : Ex B H) (hc : Cp K te σ B mi) (he : mi = mi')
    (hx : ∀ Be s B σ H, I Be s B σ H → Ex Be B ∧ Ex B H) (h0 : ∀ Be H1, Gr noM B H Be H1 → I Be s0 Be σ H1)
    (hs : ∀ Be x s B σ H v s' (N : L2.St → Hp → Prop), I Be s B σ H → rp K B v x → b x s = some s' → (∀ B2 σ2 H2, I Be s' B2 σ2 H2 → N σ2 H2) → g v σ H fun σ2 H2 => ts { D with nx := N, ct := N, bk := D.nx } σ2 H2)
    (hd : ∀ Be s B σ H, k s = some r → I Be s B σ H → D.nx σ H) : tFor (iList K te) g ts D σ H := by
  subst he
  obtain ⟨xs, e1, e2⟩ := bd_some hm
  refine hc B H (Ex.refl B) e xs e1 _ fun v Be H1 g1 hv => ?_
  obtain ⟨a, vs, rfl, hS, hp⟩ := hv
  have hl := pr_len hp
  refine ⟨a, rfl, ⟨vs, sq_lst (g1.e _ _ hS)⟩, forN_run (K := K) (xs := xs) (B := Be) (I Be) (fun i s B σ H hI hi => ?_) (fun i s B σ H hI hi => ?_) (fun i x s B σ H v H' hI hxi y => ?_) e2 (h0 Be H1 g1) (fun x s B σ H v s' N => hs Be x s B σ H v s' N) (fun s B σ H => hd Be s B σ H)⟩
  · obtain ⟨x1, x2⟩ := hx _ _ _ _ _ hI
    exact itl_go (sq_lst ((x1.trans x2) _ _ hS)) (by omega)
  · obtain ⟨x1, x2⟩ := hx _ _ _ _ _ hI
    exact itl_stop (sq_lst ((x1.trans x2) _ _ hS)) (by omega)
  · obtain ⟨x1, x2⟩ := hx _ _ _ _ _ hI
    obtain ⟨eH, y⟩ := y
    subst eH
    obtain ⟨w, hw, hr⟩ := pr_get hp hxi
    have ew := y vs (sq_lst ((x1.trans x2) _ _ hS))
    rw [hw] at ew
    cases ew
    exact ⟨B, hI, Rp.mono x1 hr⟩
/-- the bounds of a range -/
def prange1 (n : Int) : Option (List Int) := if -(2 ^ 62) ≤ n ∧ n < 2 ^ 62 then some (rangeL 0 n) else none
def prange2 (lo hi : Int) : Option (List Int) := if -(2 ^ 62) ≤ lo ∧ lo < 2 ^ 62 ∧ -(2 ^ 62) ≤ hi ∧ hi < 2 ^ 62 then some (rangeL lo hi) else none
theorem rangeL_len (lo hi : Int) : (rangeL lo hi).length = (hi - lo).toNat := by
  unfold rangeL
  rw [List.length_map, List.length_range]
theorem rangeL_get {lo hi x : Int} {i : Nat} (h : (rangeL lo hi)[i]? = some x) : x = lo + (i : Int) := by
  unfold rangeL at h
  rw [List.getElem?_map] at h
  cases e : (List.range (hi - lo).toNat)[i]? with
  | none =>
    rw [e] at h
    cases h
  | some j =>
    rw [e] at h
    have hj := List.getElem?_eq_some_iff.mp e
    obtain ⟨h1, h2⟩ := hj
    rw [List.getElem_range] at h2
    subst h2
    exact (Option.some.inj h).symm
theorem itr_yld {lo hi x : Int} {i : Nat} {H H' : Hp} {v : V} (n : Nat) (h : (rangeL lo hi)[i]? = some x) (y : (Itr lo n).yld i H v H') : H' = H ∧ v = .int x := by
  obtain ⟨e, y⟩ := y
  exact ⟨e, by rw [y, rangeL_get h]⟩
theorem st_forF_r1 {mi mi' : Option Int} {b : Int → S → Option (Fl S R)} {s0 : S} {k : Fl S R → Option ρ} {r : ρ} (I : Hp → S → Hp → L2.St → Hp → Prop) (hm : ((mi'.bind fun n => prange1 n).bind fun xs => (forF b xs s0).bind k) = some r) (e : Ex B H) (hc : Ca K tas σ B (mi.bind fun n => some (n, ()))) (he : mi = mi')
    (h0 : ∀ Be H1, Gr noM B H Be H1 → I Be s0 Be σ H1)
    (hs : ∀ Be x s B σ H v c (N : L2.St → Hp → Prop), I Be s B σ H → rp K B v x → b x s = some c → (∀ s2 B2 σ2 H2, c = .nx s2 → I Be s2 B2 σ2 H2 → N σ2 H2) → (∀ s2 B2 σ2 H2, c = .bk s2 → I Be s2 B2 σ2 H2 → D.nx σ2 H2) →
      (∀ r', c = .rt r' → k (.rt r') = some r) → g v σ H fun σ2 H2 => ts { D with nx := N, ct := N, bk := D.nx } σ2 H2)
    (hd : ∀ Be s B σ H, k (.nx s) = some r → I Be s B σ H → D.nx σ H) : tFor (iRng1 tas) g ts D σ H := by
  subst he
  obtain ⟨xs, e1, e2⟩ := bd_some hm
  obtain ⟨n, e3, e4⟩ := bd_some e1
  obtain ⟨hb, ex⟩ := if_some e4
  subst ex
  subst e3
  refine hc B H (Ex.refl B) e (n, ()) rfl _ fun vs Be H1 g1 hv => ?_
  obtain ⟨v, us, rfl, h1, h2⟩ := hv
  cases (show us = [] from h2)
  cases (show v = .int n from h1)
  have hl := rangeL_len 0 n
  rw [Int.sub_zero] at hl
  refine ⟨n, rfl, hb.1, hb.2, forF_run (K := K) (xs := rangeL 0 n) (B := Be) (I Be) (fun i s B σ H hI hi => (by rw [hl] at hi; exact hi)) (fun i s B σ H hI hi => (by rw [hl] at hi; exact hi)) (fun i x s B σ H v H' hI hxi y => ?_) e2 (h0 Be H1 g1) (fun x s B σ H v c N => hs Be x s B σ H v c N) (fun s B σ H => hd Be s B σ H)⟩
  obtain ⟨eH, ev⟩ := itr_yld _ hxi y
  subst eH
  exact ⟨B, hI, ev⟩
theorem st_forN_r1 {mi mi' : Option Int} {b : Int → S → Option S} {s0 : S} {k : S → Option ρ} {r : ρ} (I : Hp → S → Hp → L2.St → Hp → Prop) (hm : ((mi'.bind fun n => prange1 n).bind fun xs => (forN b xs s0).bind k) = some r) (e : Ex B H) (hc : Ca K tas σ B (mi.bind fun n => some (n, ()))) (he : mi = mi')
    (h0 : ∀ Be H1, Gr noM B H Be H1 → I Be s0 Be σ H1)
    (hs : ∀ Be x s B σ H v s' (N : L2.St → Hp → Prop), I Be s B σ H → rp K B v x → b x s = some s' → (∀ B2 σ2 H2, I Be s' B2 σ2 H2 → N σ2 H2) → g v σ H fun σ2 H2 => ts { D with nx := N, ct := N, bk := D.nx } σ2 H2)
    (hd : ∀ Be s B σ H, k s = some r → I Be s B σ H → D.nx σ H) : tFor (iRng1 tas) g ts D σ H := by
  subst he
  obtain ⟨xs, e1, e2⟩ := bd_some hm
  obtain ⟨n, e3, e4⟩ := bd_some e1
  obtain ⟨hb, ex⟩ := if_some e4
  subst ex
  subst e3
  refine hc B H (Ex.refl B) e (n, ()) rfl _ fun vs Be H1 g1 hv => ?_
  obtain ⟨v, us, rfl, h1, h2⟩ := hv
  cases (show us = [] from h2)
  cases (show v = .int n from h1)
  have hl := rangeL_len 0 n
  rw [Int.sub_zero] at hl
  refine ⟨n, rfl, hb.1, hb.2, forN_run (K := K) (xs := rangeL 0 n) (B := Be) (I Be) (fun i s B σ H hI hi => (by rw [hl] at hi; exact hi)) (fun i s B σ H hI hi => (by rw [hl] at hi; exact hi)) (fun i x s B σ H v H' hI hxi y => ?_) e2 (h0 Be H1 g1) (fun x s B σ H v s' N => hs Be x s B σ H v s' N) (fun s B σ H => hd Be s B σ H)⟩
  obtain ⟨eH, ev⟩ := itr_yld _ hxi y
  subst eH
  exact ⟨B, hI, ev⟩
end
end Cf

set_option Elab.async false
set_option linter.all false
set_option maxRecDepth 100000
set_option maxHeartbeats 4000000
namespace Cf
open PySem L2
open Rp (rp)
open RpL (rpl)
open Enc (enc)
/-! ### calls by name -/
/-- the module's name x is a def that keeps the promise sp, by at most level k -/
structure Fc (P : Program) (w : World) (K : Fg) (mg : Str → Option Value) (base : Heap) (k : Nat) (x : Str) (ps : List Str) (sp : Sp) : Prop where
  ex : ∃ f fd, FnOk P w K mg base CX0 k f fd ps sp ∧ mg x = some (.ref f) ∧ PySem.W.keepIn K (.ref f) = true ∧ Binds K fd ps []
theorem pe_fc {X : Cx} {k j : Nat} {x : Str} {ps : List Str} {sp : Sp} {p pos : Pos} {e : Expr} {es : List Expr} {t : TA} (c : Fc X.prog X.w X.K X.mg X.base k x ps sp) (hr : Room j X.A) (hk : k ≤ j) (hg : Gl X x) (ha : PA X (e :: es) t)
    (hdb : (x == ("__debug__" : Str)) = false := by decide) (he : starEach (e :: es) X.env = (false, eval e X.env) :: starEach es X.env := by rfl)
    (hpl : (backTo pos (starEach es X.env)).any (·.1) = false := by rfl) : PE X (.Call (.Name x p) (e :: es) [] pos) (tCall sp [] E0 t) := by
  obtain ⟨f, fd, F, hm, hkp, hb⟩ := c.ex
  exact pe_call F (hr.mono hk) hg hm hkp hb .nil pass0 ha hdb he hpl
theorem pe_gint {X : Cx} {x : Str} {i : Int} {pos : Pos} (hg : Gl X x) (h : ∃ t, X.mg x = some (.int i t)) (hdb : (x == ("__debug__" : Str)) = false := by decide) : PE X (.Name x pos) (tC (.int i)) := by
  obtain ⟨t, e⟩ := h
  exact pe_glob hg e ⟨_, rfl⟩ hdb
theorem pe_gstr {X : Cx} {x : Str} {z : Str} {pos : Pos} (hg : Gl X x) (h : ∃ t, X.mg x = some (.str z t)) (hdb : (x == ("__debug__" : Str)) = false := by decide) : PE X (.Name x pos) (tC (.str z)) := by
  obtain ⟨t, e⟩ := h
  exact pe_glob hg e ⟨_, rfl⟩ hdb
theorem fc_of {P : Program} {w : World} {K : Fg} {mg : Str → Option Value} {base : Heap} {k : Nat} {x qual : Str} {pa : Arguments} {bd : List Stmt} {sc : Scope} {ps : List Str} {sp : Sp} {f : Addr} {fd : FuncData} (F : FunD K x qual pa bd sc [] [] f fd) (ok : FnOk P w K mg base CX0 k f fd ps sp) (g : mg x = some (.ref f))
    (h : ∀ (kV doc pm : Value) (an : Option Addr) (cdv ct : Value) (us : List Value), us.length = ps.length → bindArgs (PySem.W.fnOf x qual pa bd sc .none kV doc pm an cdv ct) ⟨us, []⟩ = pure (ps.zip us)) : Fc P w K mg base k x ps sp :=
  ⟨f, fd, ok, g, F.kp, F.bindsN h⟩
/-! ### len, repr -/
section
variable {K : Fg}
def RLen (K : Fg) : List V → Hp → VK → Prop := fun xs H Q => ∃ x n, xs = [x] ∧ LenV K x H n ∧ Q (.int n) H
theorem call_len_ {X : Cx} : CallR X (.builtin "len") (RLen X.K) := call_len
theorem rc_lenL {α : Type} [Rp α] : Rcp K (RLen K) (fun t : List α × Unit => some (t.1.length : Int)) := fun B H t z vs e h ez Q q => by
  cases ez
  obtain ⟨v, us, rfl, h1, h2⟩ := h
  cases (show us = [] from h2)
  obtain ⟨a, ws, rfl, s, p⟩ := h1
  refine ⟨_, t.1.length, rfl, .inl ⟨ws, sq_lst (e _ _ s), (pr_len p).symm⟩, q _ B H (Gr.refl e) rfl⟩
theorem rc_lenScr : Rcp K (RLen K) (fun t : Scr × Unit => some (t.1.l.length : Int)) := fun B H t z vs e h ez Q q => by
  cases ez
  obtain ⟨v, us, rfl, h1, h2⟩ := h
  cases (show us = [] from h2)
  obtain ⟨a, rfl, s⟩ := h1
  refine ⟨_, t.1.l.length, rfl, .inl ⟨_, sql_mono e s, (List.length_map ..).symm⟩, q _ B H (Gr.refl e) rfl⟩
def plenS (x : Str) : Option Int := if x.length ≤ sizeLine then some (x.length : Int) else none
theorem rc_lenS : Rcp K (RLen K) (fun t : Str × Unit => plenS t.1) := fun B H t z vs e h ez Q q => by
  obtain ⟨v, us, rfl, h1, h2⟩ := h
  cases (show us = [] from h2)
  cases (show v = .str _ from h1)
  obtain ⟨hc, ez⟩ := if_some ez
  cases ez
  exact ⟨_, t.1.length, rfl, ⟨hc, rfl⟩, q _ B H (Gr.refl e) rfl⟩
def RRepI : List V → Hp → VK → Prop := fun xs H Q => ∃ i, xs = [.int i] ∧ i.natAbs.log2 < 1920 ∧ Q (.str (toString i)) H
theorem call_repI_ {X : Cx} : CallR X (.builtin "repr") RRepI := SkE.call_repr_int
def preprI (i : Int) : Option Str := if i.natAbs.log2 < 1920 then some (Str.ofString (toString i)) else none
theorem rc_repI : Rcp K RRepI (fun t : Int × Unit => preprI t.1) := fun B H t z vs e h ez Q q => by
  obtain ⟨v, us, rfl, h1, h2⟩ := h
  cases (show us = [] from h2)
  cases (show v = .int _ from h1)
  obtain ⟨hc, ez⟩ := if_some ez
  cases ez
  exact ⟨_, rfl, hc, q _ B H (Gr.refl e) rfl⟩
end
end Cf

set_option Elab.async false
set_option linter.all false
set_option maxRecDepth 100000
namespace Cf
open PySem L2
section
variable {t u : TS} {D : Ends} {σ : L2.St} {H : Hp}
theorem sq (h : t { D with nx := u D } σ H) : tSeq t u D σ H := h
theorem nxt (h : D.nx σ H) : tNext D σ H := h
theorem brkn (h : D.bk σ H) : tBreak D σ H := h
theorem cntn (h : D.ct σ H) : tCont D σ H := h
theorem gnx {f b c : L2.St → Hp → Prop} {r : VK} (h : f σ H) : Ends.nx ⟨f, r, b, c⟩ σ H := h
theorem gnm {i : Nat} {v : V} {Q : L2.St → Hp → Prop} (h : Q (σ.set i (some v)) H) : gName i v σ H Q := h
end
section
variable {K : Fg} {σ : L2.St} {B H : Hp} {ta : TE}
theorem cp_int1 {m : Option Int} (h : Cp K ta σ B m) : Cp K (tCB RInt (tCons ta tNil)) σ B m := fun B1 H1 b eh x e Q q => h B1 H1 b eh x e _ fun v B2 H2 g2 hv => by
  cases (show v = .int x from hv)
  exact .inl ⟨x, rfl, q _ B2 H2 g2 rfl⟩
end
end Cf
namespace Cf
/-! ### the mirrors' operations -/
theorem pmod_some {i j : Int} (h : 0 < j) : pmod i j = some (i % j) := if_pos h
theorem pdiv_some {i j : Int} (h : 0 < j) (h2 : j < 1073741824) : pdiv i j = some (i / j) := if_pos ⟨h, h2⟩
theorem pmul_r {i j : Int} (h1 : -18446744073709551616 < j) (h2 : j < 18446744073709551616) : pmul i j = some (i * j) := if_pos (.inr ⟨h1, h2⟩)
theorem pmul_l {i j : Int} (h1 : -18446744073709551616 < i) (h2 : i < 18446744073709551616) : pmul i j = some (i * j) := if_pos (.inl ⟨h1, h2⟩)
theorem pshr_some {i j : Int} (h : 0 ≤ j) : pshr i j = some (i / 2 ^ j.toNat) := if_pos h
theorem at_nat {α : Type} {xs : List α} {i : Int} (h : 0 ≤ i) : at? xs i = xs[i.toNat]? := if_pos h
theorem forF_nil {α S R : Type} (b : α → S → Option (Fl S R)) (s : S) : forF b [] s = some (.nx s) := rfl
theorem forF_cons {α S R : Type} (b : α → S → Option (Fl S R)) (x : α) (xs : List α) (s : S) : forF b (x :: xs) s = (b x s).bind fun c => match c with
    | .nx s' => forF b xs s'
    | .bk s' => some (.nx s')
    | .rt r => some (.rt r) := rfl
theorem forN_cons {α S : Type} (b : α → S → Option S) (x : α) (xs : List α) (s : S) : forN b (x :: xs) s = (b x s).bind fun s' => forN b xs s' := rfl
/-- a loop that never leaves and keeps I -/
theorem forF_all {α S R : Type} {b : α → S → Option (Fl S R)} (I : S → Prop) : ∀ (xs : List α) (s : S), I s → (∀ x ∈ xs, ∀ s, I s → ∃ s', b x s = some (.nx s') ∧ I s') → ∃ s', forF b xs s = some (.nx s') ∧ I s'
  | [], s, h, _ => ⟨s, rfl, h⟩
  | x :: xs, s, h, hb => by
    obtain ⟨s', e, h'⟩ := hb x List.mem_cons_self s h
    obtain ⟨s2, e2, h2⟩ := forF_all I xs s' h' fun y hy => hb y (List.mem_cons_of_mem _ hy)
    exact ⟨s2, by rw [forF_cons, e]; exact e2, h2⟩
theorem forN_all {α S : Type} {b : α → S → Option S} (I : S → Prop) : ∀ (xs : List α) (s : S), I s → (∀ x ∈ xs, ∀ s, I s → ∃ s', b x s = some s' ∧ I s') → ∃ s', forN b xs s = some s' ∧ I s'
  | [], s, h, _ => ⟨s, rfl, h⟩
  | x :: xs, s, h, hb => by
    obtain ⟨s', e, h'⟩ := hb x List.mem_cons_self s h
    obtain ⟨s2, e2, h2⟩ := forN_all I xs s' h' fun y hy => hb y (List.mem_cons_of_mem _ hy)
    exact ⟨s2, by rw [forN_cons, e]; exact e2, h2⟩
theorem mem_rangeL {lo hi x : Int} : x ∈ rangeL lo hi ↔ lo ≤ x ∧ x < hi := by
  unfold rangeL
  rw [List.mem_map]
  constructor
  · rintro ⟨i, h, rfl⟩
    rw [List.mem_range] at h
    omega
  · intro h
    exact ⟨(x - lo).toNat, by rw [List.mem_range]; omega, by omega⟩
end Cf

set_option Elab.async false
set_option linter.all false
set_option maxRecDepth 100000
set_option maxHeartbeats 4000000
namespace Cf
open PySem L2
open Rp (rp)
open RpL (rpl)
open Enc (enc)
/-! ### expressions that change one's own -/
def Cs {S α : Type} [Rp α] (K : Fg) (P : Ow S) (te : TE) (σ : L2.St) (B : Hp) (m : S → Option (α × S)) : Prop :=
  ∀ B1 H1 W s, Ex B B1 → Ex B1 H1 → Ex W H1 → Dj W B1 → P W B1 s → ∀ x s', m s = some (x, s') → ∀ Q : VK, (∀ v B2 H2 W2, Sw W B1 H1 W2 B2 H2 → P W2 B2 s' → rp K B2 v x → Q v H2) → te σ H1 Q
def Cst {S : Type} (P : Ow S) (tt : TT) (σ : L2.St) (B : Hp) (m : S → Option (Bool × S)) : Prop :=
  ∀ B1 H1 W s, Ex B B1 → Ex B1 H1 → Ex W H1 → Dj W B1 → P W B1 s → ∀ x s', m s = some (x, s') → ∀ Q : Bool → Hp → Prop, (∀ B2 H2 W2, Sw W B1 H1 W2 B2 H2 → P W2 B2 s' → Q x H2) → tt σ H1 Q
def Csa {S τ : Type} [RpL τ] (K : Fg) (P : Ow S) (ta : TA) (σ : L2.St) (B : Hp) (m : S → Option (τ × S)) : Prop :=
  ∀ B1 H1 W s, Ex B B1 → Ex B1 H1 → Ex W H1 → Dj W B1 → P W B1 s → ∀ x s', m s = some (x, s') → ∀ Q : List V → Hp → Prop, (∀ vs B2 H2 W2, Sw W B1 H1 W2 B2 H2 → P W2 B2 s' → rpl K B2 vs x → Q vs H2) → ta σ H1 Q
/-- .. a new list, not known yet: its place p and items vs stand apart from one's own -/
def Cso {S α : Type} [Rp α] (K : Fg) (P : Ow S) (te : TE) (σ : L2.St) (B : Hp) (m : S → Option (List α × S)) : Prop :=
  ∀ B1 H1 W s, Ex B B1 → Ex B1 H1 → Ex W H1 → Dj W B1 → P W B1 s → ∀ xs s', m s = some (xs, s') → ∀ Q : VK,
    (∀ p vs B2 H2 W2, Sw W B1 H1 W2 B2 H2 → P W2 B2 s' → H1 p = none → B2 p = none → W2 p = none → H2 p = some (.lst vs) → Paired (rp K B2) vs xs → Q (.ref p) H2) → te σ H1 Q
/-- a part of one's own: get it, put it -/
structure Ln {S' S : Type} (P' : Ow S') (P : Ow S) (get : S' → S) (put : S' → S → S') : Prop where
  open_ : ∀ W B s', P' W B s' → ∃ W1 W2, W = uni W1 W2 ∧ Dj W1 W2 ∧ P W1 B (get s') ∧ ∀ W1' B' x, Ex B B' → Dj W1' W2 → P W1' B' x → P' (uni W1' W2) B' (put s' x)
section
variable {K : Fg} {σ : L2.St} {B H B' H' : Hp} {te ta tb tc : TE} {tt tu : TT} {tas : TA} {α β γ τ ρ S S' S1 S2 : Type} {P : Ow S} {P' : Ow S'} {R : Ow S1}
theorem uni_emp {W : Hp} : uni W emp = W := by
  funext a
  unfold uni
  split
  · rename_i o h
    exact h.symm
  · rename_i h
    exact h.symm
theorem ln_id : Ln P P (fun s => s) (fun _ x => x) := ⟨fun W B s p => ⟨W, emp, uni_emp.symm, fun a _ => rfl, p, fun W1' B' x _ _ q => by rw [uni_emp]; exact q⟩⟩
theorem ln_l [OwOk R] : Ln (star P R) P (fun s => s.1) (fun s x => (x, s.2)) := ⟨fun W B s ⟨W1, W2, h, d, p, r⟩ => ⟨W1, W2, h, d, p, fun W1' B' x e dj q => ⟨W1', W2, rfl, dj, q, OwOk.mono e r⟩⟩⟩
theorem uni_comm {W1 W2 : Hp} (d : Dj W1 W2) : uni W1 W2 = uni W2 W1 := by
  funext a
  cases q : W1 a with
  | some o =>
    have := d a (nn q)
    rw [uni_l q, uni_r this, q]
  | none =>
    rw [uni_r q]
    cases q2 : W2 a with
    | some o => rw [uni_l q2]
    | none => rw [uni_r q2, q]
theorem ln_r [OwOk P] : Ln (star P R) R (fun s => s.2) (fun s x => (s.1, x)) := ⟨fun W B s ⟨W1, W2, h, d, p, r⟩ => ⟨W2, W1, h.trans (uni_comm d), d.symm, r, fun W1' B' x e dj q => ⟨W1, W1', uni_comm dj, dj.symm, OwOk.mono e p, q⟩⟩⟩
theorem uni_assoc {A C D : Hp} : uni (uni A C) D = uni A (uni C D) := by
  funext a
  cases q : A a with
  | some o => rw [uni_l (uni_l q), uni_l q]
  | none =>
    rw [uni_r q]
    cases q2 : C a with
    | some o => rw [uni_l (show uni A C a = some o by rw [uni_r q, q2]), uni_l q2]
    | none => rw [uni_r (show uni A C a = none by rw [uni_r q, q2]), uni_r q2]
theorem dj_uni {A C D : Hp} (h1 : Dj A D) (h2 : Dj C D) : Dj (uni A C) D := fun a h => by
  rcases uni_dom h with z | z
  · exact h1 a z
  · exact h2 a z
theorem dj_l {A C D : Hp} (h : Dj (uni A C) D) : Dj A D := fun a z => h a (uni_dom_l z)
theorem dj_r {A C D : Hp} (d : Dj A C) (h : Dj (uni A C) D) : Dj C D := fun a z => h a (uni_dom_r d z)
theorem Ln.comp {P1 : Ow S1} {P2 : Ow S2} {g1 : S → S1} {p1 : S → S1 → S} {g2 : S1 → S2} {p2 : S1 → S2 → S1} (l : Ln P P1 g1 p1) (m : Ln P1 P2 g2 p2) : Ln P P2 (fun s => g2 (g1 s)) (fun s x => p1 s (p2 (g1 s) x)) := ⟨fun W B s p => by
  obtain ⟨W1, W2, h, d, q, put⟩ := l.open_ W B s p
  obtain ⟨W3, W4, h', d', q', put'⟩ := m.open_ W1 B _ q
  subst h'
  refine ⟨W3, uni W4 W2, by rw [h, uni_assoc], fun a z => ?_, q', fun W1' B' x e dj px => ?_⟩
  · cases hh : uni W4 W2 a with
    | none => rfl
    | some o =>
      rcases uni_dom (nn hh) with y | y
      · exact absurd (d' a z) y
      · exact absurd (d a (uni_dom_l z)) y
  · have dj4 : Dj W1' W4 := fun a z => by
      cases hh : W4 a with
      | none => rfl
      | some o => exact absurd (dj a z) (uni_dom_l (nn hh))
    have dj2 : Dj W1' W2 := fun a z => by
      cases hh : W2 a with
      | none => rfl
      | some o =>
        have dw : Dj W4 W2 := dj_r d' d
        exact absurd (dj a z) (uni_dom_r dw (nn hh))
    rw [← uni_assoc]
    exact put _ _ _ e (dj_uni dj2 (dj_r d' d)) (put' _ _ _ e dj4 px)⟩
theorem Ow.split {get : S' → S} {put : S' → S → S'} (l : Ln P' P get put) {W B : Hp} {s : S'} (p : P' W B s) : ∃ W1 W2, W = uni W1 W2 ∧ Dj W1 W2 ∧ P W1 B (get s) ∧ ∀ W1' B' x, Ex B B' → Dj W1' W2 → P W1' B' x → P' (uni W1' W2) B' (put s x) := l.open_ W B s p
/-! what changes nothing -/
theorem Cp.s [Rp α] [OwOk P] {m : Option α} (h : Cp K te σ B m) : Cs K P te σ B (fun s => m.bind fun x => some (x, s)) := fun B1 H1 W s b e w d p x s' em Q q => by
  obtain ⟨y, e1, e2⟩ := bd_some em
  cases e2
  exact h B1 H1 b e x e1 Q fun v B2 H2 g hv => q v B2 H2 W (Sw.pure g w d) (OwOk.mono g.b p) hv
theorem Ct.s [OwOk P] {m : Option Bool} (h : Ct tt σ B m) : Cst P tt σ B (fun s => m.bind fun x => some (x, s)) := fun B1 H1 W s b e w d p x s' em Q q => by
  obtain ⟨y, e1, e2⟩ := bd_some em
  cases e2
  exact h B1 H1 b e x e1 Q fun B2 H2 g => q B2 H2 W (Sw.pure g w d) (OwOk.mono g.b p)
theorem Ca.s [RpL τ] [OwOk P] {m : Option τ} (h : Ca K tas σ B m) : Csa K P tas σ B (fun s => m.bind fun x => some (x, s)) := fun B1 H1 W s b e w d p x s' em Q q => by
  obtain ⟨y, e1, e2⟩ := bd_some em
  cases e2
  exact h B1 H1 b e x e1 Q fun v B2 H2 g hv => q v B2 H2 W (Sw.pure g w d) (OwOk.mono g.b p) hv
theorem Co.s [Rp α] [OwOk P] {m : Option (List α)} (h : Co K te σ B m) : Cso K P te σ B (fun s => m.bind fun x => some (x, s)) := fun B1 H1 W s b e w d p x s' em Q q => by
  obtain ⟨y, e1, e2⟩ := bd_some em
  cases e2
  refine h B1 H1 b e x e1 Q fun a vs B2 H2 g f n hp pr => q a vs B2 H2 W (Sw.pure g w d) (OwOk.mono g.b p) f n ?_ hp pr
  cases hh : W a with
  | none => rfl
  | some o =>
    rw [w a o hh] at f
    cases f
theorem Cso.cs [Rp α] {m : S → Option (List α × S)} [OwOk P] (h : Cso K P te σ B m) : Cs K P te σ B m := fun B1 H1 W s b e w d p xs s' em Q q => h B1 H1 W s b e w d p xs s' em Q fun a vs B2 H2 W2 sw p2 f n nw hp pr =>
  q (.ref a) (upd B2 a (.lst vs)) H2 W2 ⟨sw.g.freeze hp f n, sw.w, fun c z => by
    rw [upd_ne (show c ≠ a from fun y => z (by rw [y]; exact nw))]
    exact sw.d c z, sw.f⟩ (OwOk.mono (Ex.new n) p2) ⟨a, vs, rfl, upd_same, pr_mono (Ex.new n) pr⟩
theorem sm2 {m1 : S → Option (α × S)} {m2 : S → Option (β × S)} {f : α → β → Option γ} {s s' : S} {z : γ} (h : ((m1 s).bind fun p => (m2 p.2).bind fun q => (f p.1 q.1).bind fun z => some (z, q.2)) = some (z, s')) : ∃ x s1 y, m1 s = some (x, s1) ∧ m2 s1 = some (y, s') ∧ f x y = some z := by
  obtain ⟨⟨x, s1⟩, e1, h⟩ := bd_some h
  obtain ⟨⟨y, s2⟩, e2, h⟩ := bd_some h
  obtain ⟨w, e3, h⟩ := bd_some h
  cases h
  exact ⟨x, s1, y, e1, e2, e3⟩
theorem cs_op [Rp α] [Rp β] [Rp γ] {r : R2} {f : α → β → Option γ} {m1 : S → Option (α × S)} {m2 : S → Option (β × S)} (hr : R2p K r f) [OwOk P] (ha : Cs K P ta σ B m1) (hb : Cs K P tb σ B m2) :
    Cs K P (tOp r ta tb) σ B (fun s => (m1 s).bind fun p => (m2 p.2).bind fun q => (f p.1 q.1).bind fun z => some (z, q.2)) := fun B1 H1 W s b e w d p z s' em Q q => by
  obtain ⟨x, s1, y, e1, e2, e3⟩ := sm2 em
  refine ha B1 H1 W s b e w d p x s1 e1 _ fun v B2 H2 W2 sw p2 hv => ?_
  refine hb B2 H2 W2 s1 (b.trans sw.g.b) sw.g.e sw.w sw.d p2 y s' e2 _ fun u B3 H3 W3 sw3 p3 hu => ?_
  exact hr B3 H3 x y z v u sw3.g.e (Rp.mono sw3.g.b hv) hu e3 Q fun t B4 H4 g4 ht => q t B4 H4 W3 ((sw.trans sw3).trans (Sw.pure g4 sw3.w sw3.d)) (OwOk.mono g4.b p3) ht
theorem cs_un [Rp α] [Rp γ] {r : V → Hp → VK → Prop} {f : α → Option γ} {m : S → Option (α × S)} (hr : R1p K r f) [OwOk P] (ha : Cs K P ta σ B m) : Cs K P (tUn r ta) σ B (fun s => (m s).bind fun p => (f p.1).bind fun z => some (z, p.2)) := fun B1 H1 W s b e w d p z s' em Q q => by
  obtain ⟨⟨x, s1⟩, e1, em⟩ := bd_some em
  obtain ⟨z', e2, em⟩ := bd_some em
  cases em
  refine ha B1 H1 W s b e w d p x _ e1 _ fun v B2 H2 W2 sw p2 hv => ?_
  exact hr B2 H2 x z v sw.g.e hv e2 Q fun t B3 H3 g3 ht => q t B3 H3 W2 (sw.trans (Sw.pure g3 sw.w sw.d)) (OwOk.mono g3.b p2) ht
theorem cs_cb [RpL τ] [Rp γ] {r : List V → Hp → VK → Prop} {f : τ → Option γ} {m : S → Option (τ × S)} (hr : Rcp K r f) [OwOk P] (ha : Csa K P tas σ B m) : Cs K P (tCB r tas) σ B (fun s => (m s).bind fun p => (f p.1).bind fun z => some (z, p.2)) := fun B1 H1 W s b e w d p z s' em Q q => by
  obtain ⟨⟨x, s1⟩, e1, em⟩ := bd_some em
  obtain ⟨z', e2, em⟩ := bd_some em
  cases em
  refine ha B1 H1 W s b e w d p x _ e1 _ fun vs B2 H2 W2 sw p2 hv => ?_
  exact hr B2 H2 x z vs sw.g.e hv e2 Q fun t B3 H3 g3 ht => q t B3 H3 W2 (sw.trans (Sw.pure g3 sw.w sw.d)) (OwOk.mono g3.b p2) ht
theorem cs_int1 {m : S → Option (Int × S)} (h : Cs K P ta σ B m) : Cs K P (tCB RInt (tCons ta tNil)) σ B m := fun B1 H1 W s b e w d p x s' em Q q => h B1 H1 W s b e w d p x s' em _ fun v B2 H2 W2 sw p2 hv => by
  cases (show v = .int x from hv)
  exact .inl ⟨x, rfl, q _ B2 H2 W2 sw p2 rfl⟩
theorem csa_nil : Csa K P tNil σ B (fun s => some ((), s)) := fun B1 H1 W s b e w d p x s' em Q q => by
  cases em
  exact q [] B1 H1 W (Sw.refl e w d) p rfl
theorem csa_cons [Rp α] [RpL τ] {m1 : S → Option (α × S)} {m2 : S → Option (τ × S)} (ha : Cs K P ta σ B m1) (hb : Csa K P tas σ B m2) :
    Csa K P (tCons ta tas) σ B (fun s => (m1 s).bind fun p => (m2 p.2).bind fun q => some ((p.1, q.1), q.2)) := fun B1 H1 W s b e w d p z s' em Q q => by
  obtain ⟨⟨x, s1⟩, e1, em⟩ := bd_some em
  obtain ⟨⟨y, s2⟩, e2, em⟩ := bd_some em
  cases em
  refine ha B1 H1 W s b e w d p x s1 e1 _ fun v B2 H2 W2 sw p2 hv => ?_
  refine hb B2 H2 W2 s1 (b.trans sw.g.b) sw.g.e sw.w sw.d p2 y _ e2 _ fun vs B3 H3 W3 sw3 p3 hu => ?_
  exact q (v :: vs) B3 H3 W3 (sw.trans sw3) p3 ⟨v, vs, rfl, Rp.mono sw3.g.b hv, hu⟩
theorem cs_call [RpL τ] [Rp γ] {f : τ → Option γ} {m : S → Option (τ × S)} {E : XK} [OwOk P] (ha : Csa K P tas σ B m) : Cs K P (tCall (spP K f) [] E tas) σ B (fun s => (m s).bind fun p => (f p.1).bind fun z => some (z, p.2)) := fun B1 H1 W s b e w d p z s' em Q q => by
  obtain ⟨⟨x, s1⟩, e1, em⟩ := bd_some em
  obtain ⟨z', e2, em⟩ := bd_some em
  cases em
  refine ha B1 H1 W s b e w d p x _ e1 _ fun vs B2 H2 W2 sw p2 hv => ?_
  rw [List.append_nil]
  exact ⟨B2, x, z, sw.g.e, hv, e2, fun t B3 H3 g3 ht => q t B3 H3 W2 (sw.trans (Sw.pure g3 sw.w sw.d)) (OwOk.mono g3.b p2) ht⟩
/-- the promise of a def that changes the object handed in first -/
def spM {S τ γ : Type} [RpL τ] [Rp γ] (K : Fg) (Pb : Addr → Ow S) (f : S → τ → Option (γ × S)) : Sp := fun vs H Q _ => ∃ a us W B s t r s', vs = .ref a :: us ∧ Ex B H ∧ Ex W H ∧ Dj W B ∧ Pb a W B s ∧ rpl K B us t ∧ f s t = some (r, s') ∧
  ∀ v W' B' H', Sw W B H W' B' H' → Pb a W' B' s' → rp K B' v r → Q v H'
theorem cs_callM [RpL τ] [Rp γ] {Pb : Addr → Ow S} {a : Addr} {get : S' → S} {put : S' → S → S'} {f : S → τ → Option (γ × S)} {i : Nat} {m : S' → Option (τ × S')} {E : XK} (l : Ln P' (Pb a) get put) (hs : σ[i]? = some (some (.ref a))) (ha : Csa K P' tas σ B m) :
    Cs K P' (tCall (spM K Pb f) [] E (tCons (tVar i) tas)) σ B (fun s => (m s).bind fun p => (f (get p.2) p.1).bind fun q => some (q.1, put p.2 q.2)) := fun B1 H1 W s b e w d p z s' em Q q => by
  obtain ⟨⟨x, s1⟩, e1, em⟩ := bd_some em
  obtain ⟨⟨y, s2⟩, e2, em⟩ := bd_some em
  cases em
  refine ⟨.ref a, hs, ?_⟩
  refine ha B1 H1 W s b e w d p x s1 e1 _ fun vs B2 H2 W2 sw p2 hv => ?_
  obtain ⟨V1, V2, hV, dV, q1, back⟩ := l.open_ W2 B2 s1 p2
  subst hV
  refine ⟨a, vs, V1, B2, get s1, x, _, s2, (by rw [List.append_nil]), sw.g.e, fun c o h => sw.w c o (uni_l h), dj_l sw.d, q1, hv, e2, fun v W' B3 H3 y p3 hr => ?_⟩
  have w2 : Ex V2 H2 := fun c o h => sw.w c o (by rw [uni_r (dV.symm c (nn h))]; exact h)
  obtain ⟨y2, dj⟩ := y.beside w2 dV (dj_r dV sw.d)
  exact q v B3 H3 (uni W' V2) (sw.trans y2) (back W' B3 s2 y.g.b dj p3) hr
/-! tests -/
theorem cst_test {m : S → Option (Bool × S)} (h : Cs K P te σ B m) : Cst P (tTest te) σ B m := fun B1 H1 W s b e w d p x s' em Q q => h B1 H1 W s b e w d p x s' em _ fun v B2 H2 W2 sw p2 hv => ⟨x, hv, q B2 H2 W2 sw p2⟩
theorem cst_B {m : S → Option (Bool × S)} (h : Cs K P te σ B m) : Cst P (tB te) σ B m := fun B1 H1 W s b e w d p x s' em Q q => h B1 H1 W s b e w d p x s' em _ fun v B2 H2 W2 sw p2 hv => ⟨x, hv, q B2 H2 W2 sw p2⟩
theorem cst_not {m : S → Option (Bool × S)} (h : Cst P tt σ B m) : Cst P (tNot tt) σ B (fun s => (m s).bind fun p => some (!p.1, p.2)) := fun B1 H1 W s b e w d p x s' em Q q => by
  obtain ⟨⟨y, s1⟩, e1, em⟩ := bd_some em
  cases em
  exact h B1 H1 W s b e w d p y _ e1 _ fun B2 H2 W2 sw p2 => q B2 H2 W2 sw p2
theorem cst_and {m1 m2 : S → Option (Bool × S)} (h1 : Cst P tt σ B m1) (h2 : Cst P tu σ B m2) : Cst P (tAnd tt tu) σ B (fun s => (m1 s).bind fun p => if p.1 = true then m2 p.2 else some (false, p.2)) := fun B1 H1 W s b e w d p z s' em Q q => by
  obtain ⟨⟨a, s1⟩, e1, em⟩ := bd_some em
  refine h1 B1 H1 W s b e w d p a s1 e1 _ fun B2 H2 W2 sw p2 => ?_
  cases a with
  | true => exact h2 B2 H2 W2 s1 (b.trans sw.g.b) sw.g.e sw.w sw.d p2 z s' em Q fun B3 H3 W3 sw3 p3 => q B3 H3 W3 (sw.trans sw3) p3
  | false =>
    cases em
    exact q B2 H2 W2 sw p2
theorem cst_or {m1 m2 : S → Option (Bool × S)} (h1 : Cst P tt σ B m1) (h2 : Cst P tu σ B m2) : Cst P (tOr tt tu) σ B (fun s => (m1 s).bind fun p => if p.1 = true then some (true, p.2) else m2 p.2) := fun B1 H1 W s b e w d p z s' em Q q => by
  obtain ⟨⟨a, s1⟩, e1, em⟩ := bd_some em
  refine h1 B1 H1 W s b e w d p a s1 e1 _ fun B2 H2 W2 sw p2 => ?_
  cases a with
  | false => exact h2 B2 H2 W2 s1 (b.trans sw.g.b) sw.g.e sw.w sw.d p2 z s' em Q fun B3 H3 W3 sw3 p3 => q B3 H3 W3 (sw.trans sw3) p3
  | true =>
    cases em
    exact q B2 H2 W2 sw p2
/-! ### one's own lists -/
/-- a list at p that is one's own -/
def OwL {α : Type} [Rp α] (K : Fg) (p : Addr) : Ow (List α) := fun W B xs => ∃ vs, W = sing p (.lst vs) ∧ Paired (rp K B) vs xs
instance {α : Type} [Rp α] {K : Fg} {p : Addr} : OwOk (OwL (α := α) K p) := ⟨fun e ⟨vs, h, r⟩ => ⟨vs, h, pr_mono e r⟩, fun {W B s a o} ⟨vs, h, r⟩ e => by
  subst h
  have := sing_dom (nn e)
  subst this
  rw [sing_at] at e
  cases e
  rfl⟩
theorem upd_sing {p : Addr} {o o' : HO} : upd (sing p o) p o' = sing p o' := upd_upd
theorem sw_sing {p : Addr} {o o' : HO} (e : Ex B H) (w : Ex (sing p o) H) (d : Dj (sing p o) B) : Sw (sing p o) B H (sing p o') B (upd H p o') :=
  have hp : sing p o p ≠ none := by rw [sing_at]; exact fun z => nomatch z
  ⟨Gr.mut e hp (d p hp) (w.nn hp), fun a u h => by
    have := sing_dom (nn h)
    subst this
    rw [sing_at] at h
    rw [upd_same]
    exact h, fun a h => by
    have := sing_dom h
    subst this
    exact d a hp, fun a h => by
    have := sing_dom h
    subst this
    exact .inl hp⟩
/-- xs.append(e): the list's room is part of the mirror -/
def papp {α : Type} (xs : List α) (x : α) : Option (List α) := if xs.length < 1000000 then some (xs ++ [x]) else none
theorem cs_append [Rp α] {a : Addr} {get : S' → List α} {put : S' → List α → S'} {i : Nat} {m : S' → Option (α × S')} (l : Ln P' (OwL K a) get put) (hs : σ[i]? = some (some (.ref a))) (he : Cs K P' te σ B m) :
    Cs K P' (tBM K "list" rAppend (tVar i) (tCons te tNil)) σ B (fun s => (m s).bind fun p => (papp (get p.2) p.1).bind fun q => some ((), put p.2 q)) := fun B1 H1 W s b e w d p z s' em Q q => by
  obtain ⟨⟨x, s1⟩, e1, em⟩ := bd_some em
  obtain ⟨ys, e2, em⟩ := bd_some em
  cases em
  obtain ⟨hl, e2⟩ := if_some e2
  subst e2
  replace hl : (get s1).length < 1000000 := hl
  refine ⟨.ref a, hs, ?_, ?_⟩
  · obtain ⟨V1, V2, hV, dV, ⟨vs, hv, _⟩, _⟩ := l.open_ W B1 s p
    subst hV hv
    exact .inl ⟨rfl, vs, .inl (.inl (w a _ (uni_l sing_at)))⟩
  refine he B1 H1 W s b e w d p x s1 e1 _ fun v B2 H2 W2 sw p2 hv => ?_
  obtain ⟨V1, V2, hV, dV, ⟨vs, hvs, pr⟩, back⟩ := l.open_ W2 B2 s1 p2
  subst hV hvs
  have w2 : Ex V2 H2 := fun c o h => sw.w c o (by rw [uni_r (dV.symm c (nn h))]; exact h)
  have y := sw_sing (o' := .lst (vs ++ [v])) sw.g.e (fun c o h => sw.w c o (uni_l h)) (dj_l sw.d)
  obtain ⟨y2, dj⟩ := y.beside w2 dV (dj_r dV sw.d)
  have hlen := pr_len pr
  refine ⟨a, vs, v, rfl, rfl, sw.w a _ (uni_l sing_at), Nat.lt_of_lt_of_le (show vs.length < 1000000 by omega) (by decide), ?_⟩
  exact q .non B2 (upd H2 a (.lst (vs ++ [v]))) _ (sw.trans y2) (back _ B2 _ (Ex.refl B2) dj ⟨vs ++ [v], rfl, pr_app pr (.cons hv .nil)⟩) rfl
/-! ### the law's box of digits -/
/-- a list of a list of ints and a place in it: what is left of the ints -/
def OwBox (K : Fg) (b : Addr) : Ow (List Int) := fun W B rest => ∃ (u : V) (ds : List Int) (k : Nat), W = sing b (.lst [u, .int k]) ∧ rp K B u ds ∧ rest = ds.drop k
instance {K : Fg} {p : Addr} : OwOk (OwBox K p) := ⟨fun e ⟨u, ds, k, h, r, z⟩ => ⟨u, ds, k, h, Rp.mono e r, z⟩, fun {W B s a o} ⟨u, ds, k, h, r, z⟩ e => by
  subst h
  have := sing_dom (nn e)
  subst this
  rw [sing_at] at e
  cases e
  rfl⟩
/-- a draw -/
def draw : List Int → Int × Unit → Option (Int × List Int)
  | [], _ => some (0, [])
  | d :: r, n => (pmod d n.1).bind fun x => some (x, r)
end
/-! ### statements that change one's own -/
section
variable {K : Fg} {M : Ms} {Bs Hs W : Hp} {σ : L2.St} {B H B' H' : Hp} {te ta tb tc : TE} {tt tu : TT} {tas : TA} {α β γ τ ρ S S' S1 S2 Z R : Type} {P : Ow S} {s : S} {D : Ends} {t u ts : TS} {g : TG}
theorem st_asgS [Rp α] {m : S → Option (α × S)} {m' : Option (α × S)} {k : α × S → Option ρ} {r : ρ} {i : Nat} (hm : m'.bind k = some r) (N : Now M Bs Hs P W B H s) (hc : Cs K P te σ B m) (he : m s = m')
    (q : ∀ x s1 v W1 B1 H1, k (x, s1) = some r → Now M Bs Hs P W1 B1 H1 s1 → Ex B B1 → rp K B1 v x → D.nx (σ.set i (some v)) H1) : tAsg te (gName i) D σ H := by
  subst he
  obtain ⟨⟨x, s1⟩, e1, e2⟩ := bd_some hm
  exact hc B H W s (Ex.refl B) N.ex N.w N.d N.p x s1 e1 _ fun v B1 H1 W1 sw p hv => q x s1 v W1 B1 H1 e2 (N.step sw p) sw.g.b hv
theorem st_dropS [Rp α] {m : S → Option (α × S)} {m' : Option (α × S)} {k : α × S → Option ρ} {r : ρ} (hm : m'.bind k = some r) (N : Now M Bs Hs P W B H s) (hc : Cs K P te σ B m) (he : m s = m')
    (q : ∀ x s1 W1 B1 H1, k (x, s1) = some r → Now M Bs Hs P W1 B1 H1 s1 → Ex B B1 → D.nx σ H1) : tDrop te D σ H := by
  subst he
  obtain ⟨⟨x, s1⟩, e1, e2⟩ := bd_some hm
  exact hc B H W s (Ex.refl B) N.ex N.w N.d N.p x s1 e1 _ fun v B1 H1 W1 sw p hv => q x s1 W1 B1 H1 e2 (N.step sw p) sw.g.b
theorem st_retS [Rp α] {m : S → Option (α × S)} {m' : Option (α × S)} {k : α × S → Option ρ} {r : ρ} (hm : m'.bind k = some r) (N : Now M Bs Hs P W B H s) (hc : Cs K P te σ B m) (he : m s = m')
    (q : ∀ x s1 v W1 B1 H1, k (x, s1) = some r → Now M Bs Hs P W1 B1 H1 s1 → Ex B B1 → rp K B1 v x → D.rt v H1) : tRet te D σ H := by
  subst he
  obtain ⟨⟨x, s1⟩, e1, e2⟩ := bd_some hm
  exact hc B H W s (Ex.refl B) N.ex N.w N.d N.p x s1 e1 _ fun v B1 H1 W1 sw p hv => q x s1 v W1 B1 H1 e2 (N.step sw p) sw.g.b hv
theorem st_ifS {m : S → Option (Bool × S)} {m' : Option (Bool × S)} {A A' : Bool × S → Option ρ} {r : ρ} (hm : (m'.bind fun b => if b.1 = true then A b else A' b) = some r) (N : Now M Bs Hs P W B H s) (hc : Cst P tt σ B m) (he : m s = m')
    (h1 : ∀ s1 W1 B1 H1, m' = some (true, s1) → A (true, s1) = some r → Now M Bs Hs P W1 B1 H1 s1 → Ex B B1 → t D σ H1) (h2 : ∀ s1 W1 B1 H1, m' = some (false, s1) → A' (false, s1) = some r → Now M Bs Hs P W1 B1 H1 s1 → Ex B B1 → u D σ H1) : tIfS tt t u D σ H := by
  subst he
  obtain ⟨⟨b, s1⟩, e1, e2⟩ := bd_some hm
  refine hc B H W s (Ex.refl B) N.ex N.w N.d N.p b s1 e1 _ fun B1 H1 W1 sw p => ?_
  cases b with
  | true => exact h1 s1 W1 B1 H1 e1 e2 (N.step sw p) sw.g.b
  | false => exact h2 s1 W1 B1 H1 e1 e2 (N.step sw p) sw.g.b
theorem st_ifJS {m : S → Option (Bool × S)} {m' : Option (Bool × S)} {A A' : Bool × S → Option Z} {k : Z → Option ρ} {r : ρ} (hm : ((m'.bind fun b => if b.1 = true then A b else A' b).bind k) = some r) (J : Z → L2.St → Hp → Prop) (N : Now M Bs Hs P W B H s) (hc : Cst P tt σ B m) (he : m s = m')
    (h1 : ∀ z s1 W1 B1 H1 (Nx : L2.St → Hp → Prop), m' = some (true, s1) → A (true, s1) = some z → Now M Bs Hs P W1 B1 H1 s1 → Ex B B1 → (∀ σ' H', J z σ' H' → Nx σ' H') → t { D with nx := Nx } σ H1)
    (h2 : ∀ z s1 W1 B1 H1 (Nx : L2.St → Hp → Prop), m' = some (false, s1) → A' (false, s1) = some z → Now M Bs Hs P W1 B1 H1 s1 → Ex B B1 → (∀ σ' H', J z σ' H' → Nx σ' H') → u { D with nx := Nx } σ H1)
    (q : ∀ z σ' H', k z = some r → J z σ' H' → D.nx σ' H') : tIfS tt t u D σ H := by
  subst he
  obtain ⟨z, e0, e3⟩ := bd_some hm
  obtain ⟨⟨b, s1⟩, e1, e2⟩ := bd_some e0
  refine hc B H W s (Ex.refl B) N.ex N.w N.d N.p b s1 e1 _ fun B1 H1 W1 sw p => ?_
  cases b with
  | true => exact h1 z s1 W1 B1 H1 D.nx e1 e2 (N.step sw p) sw.g.b fun σ' H' j => q z σ' H' e3 j
  | false => exact h2 z s1 W1 B1 H1 D.nx e1 e2 (N.step sw p) sw.g.b fun σ' H' j => q z σ' H' e3 j
/-- a new list of one's own: x = [..] -/
theorem st_asgL [Rp α] {m : S → Option (List α × S)} {m' : Option (List α × S)} {k : List α × S → Option ρ} {r : ρ} {i : Nat} (hm : m'.bind k = some r) (N : Now M Bs Hs P W B H s) (hc : Cso K P te σ B m) (he : m s = m')
    (q : ∀ xs s1 p W1 B1 H1, k (xs, s1) = some r → Now M Bs Hs (star P (OwL K p)) W1 B1 H1 (s1, xs) → Ex B B1 → Hs p = none → D.nx (σ.set i (some (.ref p))) H1) : tAsg te (gName i) D σ H := by
  subst he
  obtain ⟨⟨xs, s1⟩, e1, e2⟩ := bd_some hm
  refine hc B H W s (Ex.refl B) N.ex N.w N.d N.p xs s1 e1 _ fun p vs B1 H1 W1 sw p1 f n nw hp pr => ?_
  have N1 := N.step sw p1
  have fp : Hs p = none := N.g.fresh f
  refine q xs s1 p (uni W1 (sing p (.lst vs))) B1 H1 e2 ⟨N1.g, ex_uni N1.w fun a o h => ?_, fun a h => ?_, ⟨W1, sing p (.lst vs), rfl, fun a h => ?_, p1, ⟨vs, rfl, pr⟩⟩, fun a h => ?_⟩ sw.g.b fp
  · have := sing_dom (nn h)
    subst this
    rw [sing_at] at h
    cases h
    exact hp
  · rcases uni_dom h with z | z
    · exact N1.d a z
    · have := sing_dom z
      subst this
      exact n
  · by_cases ea : a = p
    · subst ea
      exact absurd nw h
    · exact sing_ne ea
  · rcases uni_dom h with z | z
    · exact N1.f a z
    · have := sing_dom z
      subst this
      exact .inr fp
/-- what is no longer needed is dropped -/
theorem Now.drop {S' : Type} {R : Ow S'} {x : S × S'} (N : Now M Bs Hs (star P R) W B H x) : ∃ W1, Now M Bs Hs P W1 B H x.1 := by
  obtain ⟨W1, W2, h, d, p, r⟩ := N.p
  subst h
  exact ⟨W1, N.g, fun a o h => N.w a o (uni_l h), dj_l N.d, p, fun a h => N.f a (uni_dom_l h)⟩
/-- a list of one's own is known from now on -/
theorem Now.freeze [Rp α] {p : Addr} {x : S × List α} [OwOk P] (N : Now M Bs Hs (star P (OwL K p)) W B H x) (fp : Hs p = none) : ∃ W1 B1, Now M Bs Hs P W1 B1 H x.1 ∧ Ex B B1 ∧ rp K B1 (.ref p) x.2 := by
  obtain ⟨W1, W2, h, d, p1, ⟨vs, hv, pr⟩⟩ := N.p
  subst h hv
  have hp : H p = some (.lst vs) := N.w p _ (by rw [uni_r (d.symm p (nn sing_at))]; exact sing_at)
  have nb : B p = none := dj_r d N.d p (nn sing_at)
  refine ⟨W1, upd B p (.lst vs), ⟨N.g.freeze hp fp nb, fun a o h => N.w a o (uni_l h), fun a h => ?_, OwOk.mono (Ex.new nb) p1, fun a h => N.f a (uni_dom_l h)⟩, Ex.new nb, p, vs, rfl, upd_same, pr_mono (Ex.new nb) pr⟩
  have : a ≠ p := fun z => by
    subst z
    exact h (d.symm a (nn sing_at))
  rw [upd_ne this]
  exact dj_l N.d a h
end
end Cf

set_option Elab.async false
set_option linter.all false
set_option maxRecDepth 100000
set_option maxHeartbeats 4000000
namespace Cf
open PySem L2
open Rp (rp)
open RpL (rpl)
open Enc (enc)
/-! ### values without lists or objects in them -/
/-- B' holds the tuples of B -/
def ExT (B B' : Hp) : Prop := ∀ a o, B a = some o → plainO o = false → B' a = some o
class Flat (α : Type) [Rp α] : Prop where
  flat : ∀ {K : Fg} {B B' : Hp} {v : V} {x : α}, ExT B B' → rp K B v x → rp K B' v x
theorem sqt_flat {K : Fg} {B B' : Hp} {a : Addr} {xs : List V} (e : ExT B B') (h : SqT K B a xs) : SqT K B' a xs := by
  rcases h with (h | ⟨o, h⟩) | h
  · exact .inl (.inl (e _ _ h rfl))
  · exact .inl (.inr ⟨o, e _ _ h rfl⟩)
  · exact .inr h
instance : Flat Int := ⟨fun _ h => h⟩
instance : Flat Bool := ⟨fun _ h => h⟩
instance : Flat Str := ⟨fun _ h => h⟩
instance : Flat Unit := ⟨fun _ h => h⟩
instance {α : Type} [Rp α] [Flat α] : Flat (Option α) := ⟨fun {K B B' v x} e h => by
  cases x with
  | none => exact h
  | some y => exact Flat.flat (α := α) e h⟩
instance {α β : Type} [Rp α] [Rp β] [Flat α] [Flat β] : Flat (α × β) := ⟨fun e ⟨a, u, w, h, s, p, q⟩ => ⟨a, u, w, h, sqt_flat e s, Flat.flat e p, Flat.flat e q⟩⟩
instance {α β γ : Type} [Rp α] [Rp β] [Rp γ] [Flat α] [Flat β] [Flat γ] : Flat (T3 α β γ) := ⟨fun e ⟨a, u1, u2, u3, h, s, p1, p2, p3⟩ => ⟨a, u1, u2, u3, h, sqt_flat e s, Flat.flat e p1, Flat.flat e p2, Flat.flat e p3⟩⟩
instance {α β γ δ : Type} [Rp α] [Rp β] [Rp γ] [Rp δ] [Flat α] [Flat β] [Flat γ] [Flat δ] : Flat (T4 α β γ δ) := ⟨fun e ⟨a, u1, u2, u3, u4, h, s, p1, p2, p3, p4⟩ => ⟨a, u1, u2, u3, u4, h, sqt_flat e s, Flat.flat e p1, Flat.flat e p2, Flat.flat e p3, Flat.flat e p4⟩⟩
theorem pr_flat {α : Type} [Rp α] [Flat α] {K : Fg} {B B' : Hp} (e : ExT B B') : ∀ {vs : List V} {xs : List α}, Paired (rp K B) vs xs → Paired (rp K B') vs xs
  | _, _, .nil => .nil
  | _, _, .cons r t => .cons (Flat.flat e r) (pr_flat e t)
/-- B without W's places -/
def less (B W : Hp) : Hp := fun a => match W a with
  | some _ => none
  | none => B a
theorem less_ex {B W : Hp} : Ex (less B W) B := fun a o h => by
  unfold less at h
  split at h
  · cases h
  · exact h
theorem less_in {B W : Hp} {a : Addr} (h : W a = none) : less B W a = B a := by
  unfold less
  rw [h]
theorem less_out {B W : Hp} {a : Addr} (h : W a ≠ none) : less B W a = none := by
  obtain ⟨o, q⟩ := nn_ex h
  unfold less
  rw [q]
section
variable {K : Fg} {σ : L2.St} {B H B' H' : Hp} {te ta tb tc : TE} {tt tu : TT} {tas : TA} {α β γ τ ρ S S' S1 S2 : Type} {P : Ow S} {P' : Ow S'} {R : Ow S1}
theorem view_back {W B1 H1 B2 H2 : Hp} {s : S} [OwOk P] (e : Ex B1 H1) (w : Ex W H1) (d : Dj W B1) (p : P W B1 s) (g : Gr noM (uni W B1) H1 B2 H2) : Sw W B1 H1 W (less B2 W) H2 ∧ P W (less B2 W) s ∧ ExT B2 (less B2 W) := by
  have eb : Ex B1 (less B2 W) := fun a o h => by
    have n : W a = none := by
      cases q : W a with
      | none => rfl
      | some o' =>
        have := d a (nn q)
        rw [h] at this
        cases this
    rw [less_in n]
    exact g.b a o (by rw [uni_r n]; exact h)
  refine ⟨⟨⟨e, eb, fun a o m h => g.exH a o h, less_ex.trans g.e, fun a h n => ?_, g.k⟩, w.trans g.exH, fun a h => less_out h, fun a h => .inl h⟩, OwOk.mono eb p, fun a o h hp => ?_⟩
  · cases q : W a with
    | some o => exact less_out (nn q)
    | none =>
      rw [less_in q]
      exact g.n a h (by rw [uni_r q]; exact n)
  · cases q : W a with
    | none =>
      rw [less_in q]
      exact h
    | some o' =>
      have := OwOk.nt p q
      have h2 : B2 a = some o' := g.b a o' (uni_l q)
      rw [h] at h2
      cases h2
      rw [hp] at this
      cases this
/-- what reads one's own and changes nothing -/
theorem cs_view [Rp α] [Flat α] [OwOk P] {m : S → Option α} (h : ∀ W1 B1 s, Ex B B1 → Dj W1 B1 → P W1 B1 s → Cp K te σ (uni W1 B1) (m s)) : Cs K P te σ B (fun s => (m s).bind fun x => some (x, s)) := fun B1 H1 W s b e w d p x s' em Q q => by
  obtain ⟨y, e1, e2⟩ := bd_some em
  cases e2
  refine h W B1 s b d p _ H1 (Ex.refl _) (ex_uni w e) x e1 Q fun v B2 H2 g hv => ?_
  obtain ⟨sw, p2, et⟩ := view_back e w d p g
  exact q v _ H2 W sw p2 (Flat.flat et hv)
theorem cst_view [OwOk P] {m : S → Option Bool} (h : ∀ W1 B1 s, Ex B B1 → Dj W1 B1 → P W1 B1 s → Ct tt σ (uni W1 B1) (m s)) : Cst P tt σ B (fun s => (m s).bind fun x => some (x, s)) := fun B1 H1 W s b e w d p x s' em Q q => by
  obtain ⟨y, e1, e2⟩ := bd_some em
  cases e2
  refine h W B1 s b d p _ H1 (Ex.refl _) (ex_uni w e) x e1 Q fun B2 H2 g => ?_
  obtain ⟨sw, p2, et⟩ := view_back e w d p g
  exact q _ H2 W sw p2
theorem cso_view [Rp α] [Flat α] [OwOk P] {m : S → Option (List α)} (h : ∀ W1 B1 s, Ex B B1 → Dj W1 B1 → P W1 B1 s → Co K te σ (uni W1 B1) (m s)) : Cso K P te σ B (fun s => (m s).bind fun x => some (x, s)) := fun B1 H1 W s b e w d p x s' em Q q => by
  obtain ⟨y, e1, e2⟩ := bd_some em
  cases e2
  refine h W B1 s b d p _ H1 (Ex.refl _) (ex_uni w e) x e1 Q fun a vs B2 H2 g f n hp pr => ?_
  obtain ⟨sw, p2, et⟩ := view_back e w d p g
  have hw : W a = none := by
    cases hh : W a with
    | none => rfl
    | some o =>
      rw [w a o hh] at f
      cases f
  exact q a vs _ H2 W sw p2 f (by rw [less_in hw]; exact n) hw hp (pr_flat et pr)
/-- a list of one's own, seen as known -/
theorem ol_rp [Rp α] {a : Addr} {get : S → List α} {put : S → List α → S} {W : Hp} {s : S} (l : Ln P (OwL K a) get put) (p : P W B s) (d : Dj W B) : rp K (uni W B) (.ref a) (get s) := by
  obtain ⟨V1, V2, hV, dV, ⟨vs, hv, pr⟩, _⟩ := l.open_ W B s p
  subst hV hv
  exact ⟨a, vs, rfl, uni_l (uni_l sing_at), pr_mono (ex_uni_r d) pr⟩
/-! ### new lists -/
theorem co_nil [Rp α] : Co K (tLst tNil) σ B (some ([] : List α)) := fun B1 H1 b e xs em Q q => by
  cases em
  refine ⟨by show 0 ≤ sizeLine; decide, fun p hp => ?_⟩
  exact q p [] B1 _ (Gr.newM e hp) hp (e.none hp) upd_same .nil
/-- items of one kind -/
inductive Cl {α : Type} [Rp α] (K : Fg) (σ : L2.St) (B : Hp) : TA → Option (List α) → Prop where
  | nil : Cl K σ B tNil (some [])
  | cons {ta : TE} {tas : TA} {m1 : Option α} {m2 : Option (List α)} : Cp K ta σ B m1 → Cl K σ B tas m2 → Cl K σ B (tCons ta tas) (o2 m1 m2 fun x y => some (x :: y))
theorem Cl.run [Rp α] {ta : TA} {m : Option (List α)} (h : Cl K σ B ta m) : ∀ B1 H1, Ex B B1 → Ex B1 H1 → ∀ xs, m = some xs → ∀ Q : List V → Hp → Prop, (∀ vs B2 H2, Gr noM B1 H1 B2 H2 → Paired (rp K B2) vs xs → Q vs H2) → ta σ H1 Q := by
  induction h with
  | nil =>
    intro B1 H1 b e xs em Q q
    cases em
    exact q [] B1 H1 (Gr.refl e) .nil
  | cons h1 h2 ih =>
    intro B1 H1 b e xs em Q q
    obtain ⟨x, y, e1, e2, e3⟩ := o2_some em
    cases e3
    refine h1 B1 H1 b e x e1 _ fun v B2 H2 g2 hv => ?_
    refine ih B2 H2 (b.trans g2.b) g2.e y e2 _ fun vs B3 H3 g3 hp => ?_
    exact q (v :: vs) B3 H3 (g2.trans g3) (.cons (Rp.mono g3.b hv) hp)
def plst {α : Type} (xs : List α) : Option (List α) := if xs.length < 1000000 then some xs else none
theorem co_lst [Rp α] {ta : TA} {m : Option (List α)} (h : Cl K σ B ta m) : Co K (tLst ta) σ B (m.bind plst) := fun B1 H1 b e xs em Q q => by
  obtain ⟨ys, e1, e2⟩ := bd_some em
  obtain ⟨hl, e2⟩ := if_some e2
  subst e2
  refine h.run B1 H1 b e ys e1 _ fun vs B2 H2 g2 hp => ⟨?_, fun p np => ?_⟩
  · have := pr_len hp
    exact Nat.le_trans (show vs.length ≤ 1000000 by omega) (by decide)
  · exact q p vs B2 _ (g2.trans (Gr.newM g2.e np)) (g2.fresh np) (g2.e.none np) upd_same hp
/-- slices -/
def cut {α : Type} (xs : List α) (lo hi : Option Int) : List α := (xs.drop (HT.sIx xs.length 0 lo)).take (HT.sIx xs.length xs.length hi - HT.sIx xs.length 0 lo)
def Cpo (to : TO) (σ : L2.St) (B : Hp) (m : Option (Option Int)) : Prop := ∀ B1 H1, Ex B B1 → Ex B1 H1 → ∀ x, m = some x → ∀ Q : Option Int → Hp → Prop, (∀ B2 H2, Gr noM B1 H1 B2 H2 → Q x H2) → to σ H1 Q
theorem cpo_none : Cpo tNoPart σ B (some none) := fun B1 H1 b e x em Q q => by
  cases em
  exact q B1 H1 (Gr.refl e)
theorem cpo_some {m : Option Int} (h : Cp K te σ B m) : Cpo (tPart te) σ B (m.bind fun x => some (some x)) := fun B1 H1 b e x em Q q => by
  obtain ⟨y, e1, e2⟩ := bd_some em
  cases e2
  refine h B1 H1 b e y e1 _ fun v B2 H2 g2 hv => ⟨y, hv, q B2 H2 g2⟩
theorem co_slice [Rp α] {tl th : TO} {m : Option (List α)} {m1 m2 : Option (Option Int)} (h : Cp K te σ B m) (h1 : Cpo tl σ B m1) (h2 : Cpo th σ B m2) : Co K (tSl (rSlL K) te tl th) σ B (m.bind fun xs => m1.bind fun lo => m2.bind fun hi => some (cut xs lo hi)) := fun B1 H1 b e ys em Q q => by
  obtain ⟨xs, e1, em⟩ := bd_some em
  obtain ⟨lo, e2, em⟩ := bd_some em
  obtain ⟨hi, e3, em⟩ := bd_some em
  cases em
  refine h B1 H1 b e xs e1 _ fun v B2 H2 g2 hv => ?_
  refine h1 B2 H2 (b.trans g2.b) g2.e lo e2 _ fun B3 H3 g3 => ?_
  refine h2 B3 H3 (b.trans (g2.trans g3).b) g3.e hi e3 _ fun B4 H4 g4 => ?_
  obtain ⟨a, vs, rfl, hs, hp⟩ := hv
  refine ⟨a, vs, rfl, sq_lst (g4.e _ _ ((g3.trans g4).b _ _ hs)), fun p np => ?_⟩
  have G := (g2.trans g3).trans g4
  refine q p _ B4 _ (G.trans (Gr.newM g4.e np)) (G.fresh np) (g4.e.none np) upd_same ?_
  unfold cutV cut
  rw [pr_len hp]
  exact pr_mono (g3.trans g4).b (pr_take _ (pr_drop _ hp))
theorem co_cat [Rp α] {m1 m2 : Option (List α)} (h1 : Cp K ta σ B m1) (h2 : Cp K tb σ B m2) : Co K (tOp rCat ta tb) σ B (m1.bind fun x => m2.bind fun y => plst (x ++ y)) := fun B1 H1 b e zs em Q q => by
  obtain ⟨xs, e1, em⟩ := bd_some em
  obtain ⟨ys, e2, em⟩ := bd_some em
  obtain ⟨hl, em⟩ := if_some em
  subst em
  refine h1 B1 H1 b e xs e1 _ fun v B2 H2 g2 hv => ?_
  refine h2 B2 H2 (b.trans g2.b) g2.e ys e2 _ fun u B3 H3 g3 hu => ?_
  obtain ⟨a, vs, rfl, ha, pa⟩ := hv
  obtain ⟨c, us, rfl, hc, pc⟩ := hu
  have l1 := pr_len pa
  have l2 := pr_len pc
  rw [List.length_append] at hl
  refine ⟨a, c, vs, us, rfl, rfl, g3.e _ _ (g3.b _ _ ha), g3.e _ _ hc, Nat.le_trans (show vs.length + us.length ≤ 1000000 by omega) (by decide), fun p np => ?_⟩
  have G := g2.trans g3
  exact q p _ B3 _ (G.trans (Gr.newM g3.e np)) (G.fresh np) (g3.e.none np) upd_same (pr_app (pr_mono g3.b pa) pc)
/-! ### comprehensions -/
def lcF {α β : Type} (t : α → Option Bool) (f : α → Option β) : List α → Option (List β)
  | [] => some []
  | x :: xs => (t x).bind fun b => if b = true then (f x).bind fun y => (lcF t f xs).bind fun ys => some (y :: ys) else lcF t f xs
def pbig {α : Type} (xs : List α) : Option (List α) := if xs.length < 1000000 then some xs else none
theorem lcF_len {t : α → Option Bool} {f : α → Option β} : ∀ {xs : List α} {ys : List β}, lcF t f xs = some ys → ys.length ≤ xs.length
  | [], ys, h => by cases h; exact Nat.le_refl _
  | x :: xs, ys, h => by
    obtain ⟨b, e1, h⟩ := bd_some (show ((t x).bind fun b => if b = true then (f x).bind fun y => (lcF t f xs).bind fun ys => some (y :: ys) else lcF t f xs) = some ys from h)
    cases b with
    | true =>
      obtain ⟨y, e2, h⟩ := bd_some h
      obtain ⟨zs, e3, h⟩ := bd_some h
      cases h
      have := lcF_len e3
      simp only [List.length_cons]
      omega
    | false =>
      have := lcF_len h
      simp only [List.length_cons]
      omega
/-- the loop of a comprehension, whatever it walks -/
theorem lc_run {J : It} {xs : List α} [Rp α] [Rp β] {t : α → Option Bool} {f : α → Option β} {ys : List β} {g : TG} {vs : List Nat} {B1 H1 : Hp} {Q : VK} (hl : xs.length < 1000000)
    (hgo : ∀ i B H, Ex B1 B → Ex B H → i < xs.length → J.go i H) (hst : ∀ i B H, Ex B1 B → Ex B H → xs.length ≤ i → J.stop i H)
    (hy : ∀ i x B H v H', Ex B1 B → Ex B H → xs[i]? = some x → J.yld i H v H' → ∃ B', Gr noM B H B' H' ∧ rp K B' v x)
    (hm : lcF t f xs = some ys) (e : Ex B1 H1)
    (hs : ∀ x B H v, Ex B1 B → Ex B H → rp K B v x → ∀ b, t x = some b → (b = true → ∃ y, f x = some y) →
      ∀ (Qy : VK) (Qn : Hp → Prop), (b = true → ∀ y, f x = some y → ∀ v2 B2 H2, Gr noM B H B2 H2 → rp K B2 v2 y → Qy v2 H2) → (b = false → ∀ B2 H2, Gr noM B H B2 H2 → Qn H2) →
      g v (wipe σ vs) H fun σ2 H2 => wipe σ2 vs = wipe σ vs ∧ tt σ2 H2 fun b H3 => if b = true then te σ2 H3 Qy else Qn H3)
    (hq : ∀ D us B2 H2, Gr noM B1 H1 B2 H2 → H1 D = none → B2 D = none → H2 D = some (.lst us) → Paired (rp K B2) us ys → Q (.ref D) H2) :
    ∀ D, H1 D = none → ∃ W : Nat → Nat → Hp → Prop, (∃ m, W 0 m (upd H1 D (.lst []))) ∧ ∀ i m H, W i m H → (J.stop i H ∧ Q (.ref D) H) ∨ (J.go i H ∧ ∃ Nx : Hp → Prop, (∀ H', Nx H' → ∃ m', m' < m ∧ W (i + 1) m' H') ∧
      ∀ x H', J.yld i H x H' → g x (wipe σ vs) H' fun σ2 H2 => wipe σ2 vs = wipe σ vs ∧ tt σ2 H2 fun b H3 => if b = true then te σ2 H3 fun y H4 => ∃ acc, H4 D = some (.lst acc) ∧ acc.length < sizeLine ∧ Nx (upd H4 D (.lst (acc ++ [y]))) else Nx H3) := by
  intro D nD
  refine ⟨fun i m H => m = xs.length - i ∧ i ≤ xs.length ∧ ∃ B us zs rs, Gr noM B1 H1 B H ∧ B D = none ∧ H D = some (.lst us) ∧ Paired (rp K B) us zs ∧ zs.length ≤ i ∧ lcF t f (xs.drop i) = some rs ∧ ys = zs ++ rs, ⟨_, rfl, Nat.zero_le _, B1, [], [], ys, Gr.newM e nD, e.none nD, upd_same, .nil, Nat.le_refl _, hm, rfl⟩, ?_⟩
  rintro i m H ⟨rfl, hi, B, us, zs, rs, G, nb, hD, pr, hz, hr, hys⟩
  by_cases hlt : i < xs.length
  · refine .inr ⟨hgo i B H G.b G.e hlt, fun H' => i + 1 ≤ xs.length ∧ ∃ B us zs rs, Gr noM B1 H1 B H' ∧ B D = none ∧ H' D = some (.lst us) ∧ Paired (rp K B) us zs ∧ zs.length ≤ i + 1 ∧ lcF t f (xs.drop (i + 1)) = some rs ∧ ys = zs ++ rs, fun H' h => ⟨xs.length - (i + 1), by omega, rfl, h.1, h.2⟩, fun v H' y => ?_⟩
    have hx : xs[i]? = some xs[i] := List.getElem?_eq_getElem hlt
    obtain ⟨B', g1, hv⟩ := hy i xs[i] B H v H' G.b G.e hx y
    have ed : xs.drop i = xs[i] :: xs.drop (i + 1) := List.drop_eq_getElem_cons hlt
    rw [ed] at hr
    obtain ⟨b, e1, hr⟩ := bd_some (show ((t xs[i]).bind fun b => if b = true then (f xs[i]).bind fun y => (lcF t f (xs.drop (i + 1))).bind fun ys => some (y :: ys) else lcF t f (xs.drop (i + 1))) = some rs from hr)
    have hex : b = true → ∃ y, f xs[i] = some y := fun eb => by
      subst eb
      obtain ⟨y1, e2, _⟩ := bd_some (show ((f xs[i]).bind fun y => (lcF t f (xs.drop (i + 1))).bind fun ys => some (y :: ys)) = some rs from hr)
      exact ⟨y1, e2⟩
    refine hs xs[i] B' H' v (G.b.trans g1.b) g1.e hv b e1 hex _ _ (fun eb y0 ey v2 B2 H2 g2 h2 => ?_) (fun eb B2 H2 g2 => ?_)
    · subst eb
      obtain ⟨y1, e2, hr⟩ := bd_some hr
      obtain ⟨rs', e3, hr⟩ := bd_some hr
      cases hr
      rw [ey] at e2
      cases e2
      have G2 := G.trans (g1.trans g2)
      have hD2 : H2 D = some (.lst us) := (g1.trans g2).exH D _ hD
      have nb2 : B2 D = none := (g1.trans g2).n D (nn hD) nb
      have hul := pr_len pr
      refine ⟨us, hD2, Nat.lt_of_lt_of_le (show us.length < 1000000 by omega) (by decide), hlt, B2, us ++ [v2], zs ++ [y0], rs', ?_, nb2, upd_same, pr_app (pr_mono (g1.trans g2).b pr) (.cons h2 .nil), ?_, e3, ?_⟩
      · refine ⟨G2.s, G2.b, fun a o m h => ?_, G2.e.mut nb2, G2.n, fun a h => ?_⟩
        · rw [upd_ne (ne_of_none h nD)]
          exact G2.h a o m h
        · by_cases ea : a = D
          · subst ea
            exact absurd nD h
          · rw [upd_ne ea]
            exact G2.k a h
      · simp only [List.length_append, List.length_cons, List.length_nil]
        omega
      · rw [hys, List.append_assoc]
        rfl
    · subst eb
      have G2 := G.trans (g1.trans g2)
      exact ⟨hlt, B2, us, zs, rs, G2, (g1.trans g2).n D (nn hD) nb, (g1.trans g2).exH D _ hD, pr_mono (g1.trans g2).b pr, Nat.le_trans hz (Nat.le_succ _), hr, hys⟩
  · have ed : xs.drop i = [] := List.drop_eq_nil_of_le (by omega)
    rw [ed] at hr
    cases hr
    rw [List.append_nil] at hys
    subst hys
    exact .inl ⟨hst i B H G.b G.e (by omega), hq D us B H G nD nb hD pr⟩
theorem tyes_ok {x : L2.St} {H : Hp} {Q : Bool → Hp → Prop} (h : Q true H) : tYes x H Q := h
/-- [f for x in a list if t] -/
theorem co_lcL [Rp α] [Rp β] {g : TG} {vs : List Nat} {mi : Option (List α)} {t : α → Option Bool} {f : α → Option β} (hc : Cp K ta σ B mi)
    (hs : ∀ x B1 v, Ex B B1 → rp K B1 v x → ∃ σ2, (∀ H (Q : L2.St → Hp → Prop), Q σ2 H → g v (wipe σ vs) H Q) ∧ wipe σ2 vs = wipe σ vs ∧ Ct tt σ2 B1 (t x) ∧ Cp K te σ2 B1 (f x)) :
    Co K (tLc (iList K ta) g tt te vs) σ B (mi.bind fun xs => (pbig xs).bind fun xs => lcF t f xs) := fun B1 H1 b e ys em Q q => by
  obtain ⟨xs, e1, em⟩ := bd_some em
  obtain ⟨xs', e2, em⟩ := bd_some em
  obtain ⟨hl, e2⟩ := if_some e2
  subst e2
  refine hc B1 H1 b e xs e1 _ fun v B2 H2 g2 hv => ?_
  obtain ⟨a, ws, rfl, hS, hp⟩ := hv
  have hlw := pr_len hp
  refine ⟨a, rfl, ⟨ws, sq_lst (g2.e _ _ hS)⟩, lc_run (K := K) (xs := xs) (B1 := B2) hl (fun i B H x1 x2 hi => itl_go (sq_lst ((x1.trans x2) _ _ hS)) (by omega)) (fun i B H x1 x2 hi => itl_stop (sq_lst ((x1.trans x2) _ _ hS)) (by omega))
    (fun i x B H v H' x1 x2 hxi y => ?_) em g2.e (fun x B H v x1 x2 hv bb tb hex Qy Qn hy hn => ?_) fun D us B3 H3 g3 f n hD pr => q D us B3 H3 (g2.trans g3) (g2.fresh f) n hD pr⟩
  · obtain ⟨eH, y⟩ := y
    subst eH
    obtain ⟨w, hw, hr⟩ := pr_get hp hxi
    have ew := y ws (sq_lst ((x1.trans x2) _ _ hS))
    rw [hw] at ew
    cases ew
    exact ⟨B, Gr.refl x2, Rp.mono x1 hr⟩
  · obtain ⟨σ2, hg, hw, ht, hf⟩ := hs x B v ((b.trans g2.b).trans x1) hv
    refine hg H _ ⟨hw, ht B H (Ex.refl B) x2 _ tb _ fun B3 H3 g3 => ?_⟩
    cases bb with
    | true =>
      rw [if_pos rfl]
      obtain ⟨y, hfx⟩ := hex rfl
      exact hf B3 H3 g3.b g3.e y hfx _ fun v2 B4 H4 g4 h4 => hy rfl y hfx v2 B4 H4 (g3.trans g4) h4
    | false =>
      rw [if_neg Bool.false_ne_true]
      exact hn rfl B3 H3 g3
theorem ct_yes : Ct tYes σ B (some true) := fun B1 H1 b e x em Q q => by
  cases em
  exact q B1 H1 (Gr.refl e)
theorem co_lcR [Rp β] {g : TG} {vs : List Nat} {mi : Option Int} {t : Int → Option Bool} {f : Int → Option β} (hc : Cp K ta σ B mi)
    (hs : ∀ x B1 v, Ex B B1 → rp K B1 v x → ∃ σ2, (∀ H (Q : L2.St → Hp → Prop), Q σ2 H → g v (wipe σ vs) H Q) ∧ wipe σ2 vs = wipe σ vs ∧ Ct tt σ2 B1 (t x) ∧ Cp K te σ2 B1 (f x)) :
    Co K (tLc (iRng1 (tCons ta tNil)) g tt te vs) σ B (mi.bind fun n => (prange1 n).bind fun xs => (pbig xs).bind fun xs => lcF t f xs) := fun B1 H1 b e ys em Q q => by
  obtain ⟨n, e1, em⟩ := bd_some em
  obtain ⟨xs, e2, em⟩ := bd_some em
  obtain ⟨hb, e2⟩ := if_some e2
  subst e2
  obtain ⟨xs', e2, em⟩ := bd_some em
  obtain ⟨hl, e2⟩ := if_some e2
  subst e2
  refine hc B1 H1 b e n e1 _ fun v B2 H2 g2 hv => ?_
  cases (show v = .int n from hv)
  have hn := rangeL_len 0 n
  rw [Int.sub_zero] at hn
  refine ⟨n, rfl, hb.1, hb.2, lc_run (K := K) (xs := rangeL 0 n) (B1 := B2) hl (fun i B H x1 x2 hi => (by rw [hn] at hi; exact hi)) (fun i B H x1 x2 hi => (by rw [hn] at hi; exact hi))
    (fun i x B H v H' x1 x2 hxi y => ?_) em g2.e (fun x B H v x1 x2 hv bb tb hex Qy Qn hy hn => ?_) fun D us B3 H3 g3 f n hD pr => q D us B3 H3 (g2.trans g3) (g2.fresh f) n hD pr⟩
  · obtain ⟨eH, ev⟩ := itr_yld _ hxi y
    subst eH
    exact ⟨B, Gr.refl x2, ev⟩
  · obtain ⟨σ2, hg, hw, ht, hf⟩ := hs x B v ((b.trans g2.b).trans x1) hv
    refine hg H _ ⟨hw, ht B H (Ex.refl B) x2 _ tb _ fun B3 H3 g3 => ?_⟩
    cases bb with
    | true =>
      rw [if_pos rfl]
      obtain ⟨y, hfx⟩ := hex rfl
      exact hf B3 H3 g3.b g3.e y hfx _ fun v2 B4 H4 g4 h4 => hy rfl y hfx v2 B4 H4 (g3.trans g4) h4
    | false =>
      rw [if_neg Bool.false_ne_true]
      exact hn rfl B3 H3 g3
end
end Cf

set_option Elab.async false
set_option linter.all false
set_option maxRecDepth 100000
set_option maxHeartbeats 4000000
namespace Cf
open PySem L2
open Rp (rp)
open RpL (rpl)
open Enc (enc)
/-! ### a part of one's own that becomes another -/
structure Lr {S' S : Type} (P' P'' : Ow S') (P Q : Ow S) (get : S' → S) (put : S' → S → S') : Prop where
  open_ : ∀ W B s', P' W B s' → ∃ W1 W2, W = uni W1 W2 ∧ Dj W1 W2 ∧ P W1 B (get s') ∧ ∀ W1' B' x, Ex B B' → Dj W1' W2 → Q W1' B' x → P'' (uni W1' W2) B' (put s' x)
section
variable {K : Fg} {σ : L2.St} {B H B' H' : Hp} {te ta tb tc : TE} {tt tu : TT} {tas : TA} {α β γ τ ρ S S' S1 S2 : Type} {P : Ow S} {P' : Ow S'} {R : Ow S1}
theorem lr_id {P Q : Ow S} : Lr P Q P Q (fun s => s) (fun _ x => x) := ⟨fun W B s p => ⟨W, emp, uni_emp.symm, fun a _ => rfl, p, fun W1' B' x _ _ q => by rw [uni_emp]; exact q⟩⟩
theorem lr_l {P Q : Ow S} [OwOk R] : Lr (star P R) (star Q R) P Q (fun s => s.1) (fun s x => (x, s.2)) := ⟨fun W B s ⟨W1, W2, h, d, p, r⟩ => ⟨W1, W2, h, d, p, fun W1' B' x e dj q => ⟨W1', W2, rfl, dj, q, OwOk.mono e r⟩⟩⟩
theorem lr_r {R Q : Ow S1} [OwOk P] : Lr (star P R) (star P Q) R Q (fun s => s.2) (fun s x => (s.1, x)) := ⟨fun W B s ⟨W1, W2, h, d, p, r⟩ => ⟨W2, W1, h.trans (uni_comm d), d.symm, r, fun W1' B' x e dj q => ⟨W1, W1', uni_comm dj, dj.symm, OwOk.mono e p, q⟩⟩⟩
theorem Lr.comp {P P3 : Ow S} {P1 P4 : Ow S1} {P2 P5 : Ow S2} {g1 : S → S1} {p1 : S → S1 → S} {g2 : S1 → S2} {p2 : S1 → S2 → S1} (l : Lr P P3 P1 P4 g1 p1) (m : Lr P1 P4 P2 P5 g2 p2) : Lr P P3 P2 P5 (fun s => g2 (g1 s)) (fun s x => p1 s (p2 (g1 s) x)) := ⟨fun W B s p => by
  obtain ⟨W1, W2, h, d, q, put⟩ := l.open_ W B s p
  obtain ⟨W3, W4, h', d', q', put'⟩ := m.open_ W1 B _ q
  subst h'
  refine ⟨W3, uni W4 W2, by rw [h, uni_assoc], fun a z => ?_, q', fun W1' B' x e dj px => ?_⟩
  · cases hh : uni W4 W2 a with
    | none => rfl
    | some o =>
      rcases uni_dom (nn hh) with y | y
      · exact absurd (d' a z) y
      · exact absurd (d a (uni_dom_l z)) y
  · have dj4 : Dj W1' W4 := fun a z => by
      cases hh : W4 a with
      | none => rfl
      | some o => exact absurd (dj a z) (uni_dom_l (nn hh))
    have dj2 : Dj W1' W2 := fun a z => by
      cases hh : W2 a with
      | none => rfl
      | some o =>
        have dw : Dj W4 W2 := dj_r d' d
        exact absurd (dj a z) (uni_dom_r dw (nn hh))
    rw [← uni_assoc]
    exact put _ _ _ e (dj_uni dj2 (dj_r d' d)) (put' _ _ _ e dj4 px)⟩
end
/-! ### == of data -/
class Eqv (α : Type) extends Enc α where
  deep : Nat
  dep : ∀ x : α, (enc x).depth ≤ deep
  dec : DecidableEq α
  eqv : ∀ x y : α, PyData.eqv (enc x) (enc y) = true ↔ x = y
  pl : ∀ x : α, (enc x).plain = true
class Eqn (α : Type) extends Eqv α where
  nn : ∀ y : α, PyData.eqv .none (enc y) = false ∧ PyData.eqv (enc y) .none = false
instance : Eqn Int where
  pl := fun _ => rfl
  deep := 0
  dep := fun _ => Nat.le_refl _
  dec := inferInstance
  eqv := fun x y => by show (x == y) = true ↔ _; simp
  nn := fun _ => ⟨rfl, rfl⟩
instance : Eqn Bool where
  pl := fun _ => rfl
  deep := 0
  dep := fun _ => Nat.le_refl _
  dec := inferInstance
  eqv := fun x y => by show (x == y) = true ↔ _; simp
  nn := fun _ => ⟨rfl, rfl⟩
instance : Eqn Str where
  pl := fun _ => rfl
  deep := 0
  dep := fun _ => Nat.le_refl _
  dec := inferInstance
  eqv := fun x y => by show (x == y) = true ↔ _; simp
  nn := fun _ => ⟨rfl, rfl⟩
instance : Eqv Unit where
  pl := fun _ => rfl
  deep := 0
  dep := fun _ => Nat.le_refl _
  dec := inferInstance
  eqv := fun x y => ⟨fun _ => rfl, fun _ => rfl⟩
instance {α : Type} [Eqn α] : Eqv (Option α) where
  pl := fun x => by
    cases x with
    | none => rfl
    | some y => exact Eqv.pl y
  deep := Eqv.deep α
  dep := fun x => by
    cases x with
    | none => exact Nat.zero_le _
    | some y => exact Eqv.dep y
  dec := by
    have : DecidableEq α := Eqv.dec
    infer_instance
  eqv := fun x y => by
    cases x with
    | none => cases y with
      | none => exact ⟨fun _ => rfl, fun _ => rfl⟩
      | some j =>
        constructor
        · intro h
          rw [show PyData.eqv (enc (none : Option α)) (enc (some j)) = PyData.eqv .none (enc j) from rfl, (Eqn.nn j).1] at h
          cases h
        · intro h
          cases h
    | some i => cases y with
      | none =>
        constructor
        · intro h
          rw [show PyData.eqv (enc (some i)) (enc (none : Option α)) = PyData.eqv (enc i) .none from rfl, (Eqn.nn i).2] at h
          cases h
        · intro h
          cases h
      | some j => exact (Eqv.eqv i j).trans ⟨fun h => by rw [h], fun h => Option.some.inj h⟩
theorem eqvAll_iff {α : Type} [Eqv α] : ∀ xs ys : List α, PyData.eqvAll (xs.map enc) (ys.map enc) = true ↔ xs = ys
  | [], [] => ⟨fun _ => rfl, fun _ => rfl⟩
  | [], _ :: _ => ⟨(fun h => nomatch h), (fun h => nomatch h)⟩
  | _ :: _, [] => ⟨(fun h => nomatch h), (fun h => nomatch h)⟩
  | x :: xs, y :: ys => by
    show (PyData.eqv (enc x) (enc y) && PyData.eqvAll (xs.map enc) (ys.map enc)) = true ↔ _
    rw [Bool.and_eq_true, Eqv.eqv, eqvAll_iff xs ys, List.cons.injEq]
theorem depthAll_le {α : Type} [Eqv α] : ∀ xs : List α, PyData.depthAll (xs.map enc) ≤ Eqv.deep α
  | [] => Nat.zero_le _
  | x :: xs => Nat.max_le.mpr ⟨Eqv.dep x, depthAll_le xs⟩
theorem plainAll_map {α : Type} [Eqv α] : ∀ xs : List α, PyData.plainAll (xs.map enc) = true
  | [] => rfl
  | x :: xs => by
    show ((enc x).plain && PyData.plainAll (xs.map enc)) = true
    rw [Eqv.pl x, plainAll_map xs]
    rfl
instance {α : Type} [Eqv α] : Eqn (List α) where
  pl := plainAll_map
  deep := Eqv.deep α + 1
  dep := fun xs => Nat.succ_le_succ (depthAll_le xs)
  dec := by
    have : DecidableEq α := Eqv.dec
    infer_instance
  eqv := eqvAll_iff
  nn := fun _ => ⟨rfl, rfl⟩
theorem and3 {a b : Bool} : (a && (b && true)) = true ↔ a = true ∧ b = true := by simp
instance {α β : Type} [Eqv α] [Eqv β] : Eqn (α × β) where
  pl := fun x => by
    show ((enc x.1).plain && ((enc x.2).plain && true)) = true
    rw [Eqv.pl, Eqv.pl]
    rfl
  deep := max (Eqv.deep α) (Eqv.deep β) + 1
  dep := fun x => Nat.succ_le_succ (by
    show max (enc x.1).depth (max (enc x.2).depth 0) ≤ _
    have h1 := Eqv.dep x.1
    have h2 := Eqv.dep x.2
    omega)
  dec := by
    have : DecidableEq α := Eqv.dec
    have : DecidableEq β := Eqv.dec
    infer_instance
  eqv := fun x y => by
    show (PyData.eqv (enc x.1) (enc y.1) && (PyData.eqv (enc x.2) (enc y.2) && true)) = true ↔ _
    rw [and3, Eqv.eqv, Eqv.eqv]
    exact ⟨fun ⟨a, b⟩ => Prod.ext a b, fun h => by rw [h]; exact ⟨rfl, rfl⟩⟩
  nn := fun _ => ⟨rfl, rfl⟩
instance {α β γ : Type} [Eqv α] [Eqv β] [Eqv γ] : Eqn (T3 α β γ) where
  pl := fun x => by
    show ((enc x.a).plain && ((enc x.b).plain && ((enc x.c).plain && true))) = true
    rw [Eqv.pl, Eqv.pl, Eqv.pl]
    rfl
  deep := max (Eqv.deep α) (max (Eqv.deep β) (Eqv.deep γ)) + 1
  dep := fun x => Nat.succ_le_succ (by
    show max (enc x.a).depth (max (enc x.b).depth (max (enc x.c).depth 0)) ≤ _
    have h1 := Eqv.dep x.a
    have h2 := Eqv.dep x.b
    have h3 := Eqv.dep x.c
    omega)
  dec := by
    have : DecidableEq α := Eqv.dec
    have : DecidableEq β := Eqv.dec
    have : DecidableEq γ := Eqv.dec
    infer_instance
  eqv := fun x y => by
    show (PyData.eqv (enc x.a) (enc y.a) && (PyData.eqv (enc x.b) (enc y.b) && (PyData.eqv (enc x.c) (enc y.c) && true))) = true ↔ _
    rw [Bool.and_eq_true, and3, Eqv.eqv, Eqv.eqv, Eqv.eqv]
    cases x
    cases y
    simp
  nn := fun _ => ⟨rfl, rfl⟩
instance {α β γ δ : Type} [Eqv α] [Eqv β] [Eqv γ] [Eqv δ] : Eqn (T4 α β γ δ) where
  pl := fun x => by
    show ((enc x.a).plain && ((enc x.b).plain && ((enc x.c).plain && ((enc x.d).plain && true)))) = true
    rw [Eqv.pl, Eqv.pl, Eqv.pl, Eqv.pl]
    rfl
  deep := max (Eqv.deep α) (max (Eqv.deep β) (max (Eqv.deep γ) (Eqv.deep δ))) + 1
  dep := fun x => Nat.succ_le_succ (by
    show max (enc x.a).depth (max (enc x.b).depth (max (enc x.c).depth (max (enc x.d).depth 0))) ≤ _
    have h1 := Eqv.dep x.a
    have h2 := Eqv.dep x.b
    have h3 := Eqv.dep x.c
    have h4 := Eqv.dep x.d
    omega)
  dec := by
    have : DecidableEq α := Eqv.dec
    have : DecidableEq β := Eqv.dec
    have : DecidableEq γ := Eqv.dec
    have : DecidableEq δ := Eqv.dec
    infer_instance
  eqv := fun x y => by
    show (PyData.eqv (enc x.a) (enc y.a) && (PyData.eqv (enc x.b) (enc y.b) && (PyData.eqv (enc x.c) (enc y.c) && (PyData.eqv (enc x.d) (enc y.d) && true)))) = true ↔ _
    rw [Bool.and_eq_true, Bool.and_eq_true, and3, Eqv.eqv, Eqv.eqv, Eqv.eqv, Eqv.eqv]
    cases x
    cases y
    simp
  nn := fun _ => ⟨rfl, rfl⟩
/-! a data == b -/
def rEqP (K : Fg) : R2 := fun x y H Q => ∃ d e, Dp K H x d ∧ Dp K H y e ∧ d.plain = true ∧ e.plain = true ∧ d.depth ≤ 60 ∧ Q (.bl (PyData.eqv d e)) H
def rNeP (K : Fg) : R2 := fun x y H Q => ∃ d e, Dp K H x d ∧ Dp K H y e ∧ d.plain = true ∧ e.plain = true ∧ d.depth ≤ 60 ∧ Q (.bl (!PyData.eqv d e)) H
theorem op_eqP {X : Cx} (hu : X.A.units + 64 < cLine) : OpR X (compareOp .Eq) (rEqP X.K) := by
  intro pins s σ H x y v u Q I rx ry h
  obtain ⟨d, e, hd, he, sd, se, hl, q⟩ := h
  obtain ⟨as, r1⟩ := Dp.reads I d x v hd rx
  obtain ⟨bs, r2⟩ := Dp.reads I e y u he ry
  exact SeqAt.eq_plain r1 r2 sd se (by omega) ⟨.bl _, H, I, rfl, q⟩
theorem op_neP {X : Cx} (hu : X.A.units + 64 < cLine) : OpR X (compareOp .NotEq) (rNeP X.K) := by
  intro pins s σ H x y v u Q I rx ry h
  obtain ⟨d, e, hd, he, sd, se, hl, q⟩ := h
  obtain ⟨as, r1⟩ := Dp.reads I d x v hd rx
  obtain ⟨bs, r2⟩ := Dp.reads I e y u he ry
  exact SeqAt.ne_plain r1 r2 sd se (by omega) ⟨.bl _, H, I, rfl, q⟩
theorem eqvD {α : Type} [Eqv α] [DecidableEq α] (x y : α) : PyData.eqv (enc x) (enc y) = decide (x = y) := by
  rw [Bool.eq_iff_iff, decide_eq_true_eq]
  exact Eqv.eqv x y
theorem r2_eqD {α : Type} {K : Fg} [i : Eqv α] [d : DecidableEq α] (hd : Eqv.deep α ≤ 60) : R2p K (rEqP K) (fun x y : α => some (decide (x = y))) := fun B H x y z vx vy e hx hy ez Q q => by
  cases ez
  refine ⟨enc x, enc y, dp_mono e _ _ (Enc.to hx), dp_mono e _ _ (Enc.to hy), Eqv.pl x, Eqv.pl y, Nat.le_trans (Eqv.dep x) hd, q _ B H (Gr.refl e) ?_⟩
  exact congrArg V.bl (eqvD x y)
theorem r2_neD {α : Type} {K : Fg} [i : Eqv α] [d : DecidableEq α] (hd : Eqv.deep α ≤ 60) : R2p K (rNeP K) (fun x y : α => some (!decide (x = y))) := fun B H x y z vx vy e hx hy ez Q q => by
  cases ez
  refine ⟨enc x, enc y, dp_mono e _ _ (Enc.to hx), dp_mono e _ _ (Enc.to hy), Eqv.pl x, Eqv.pl y, Nat.le_trans (Eqv.dep x) hd, q _ B H (Gr.refl e) ?_⟩
  exact congrArg (fun b => V.bl (!b)) (eqvD x y)
/-! x in a list of data -/
def rInP (K : Fg) : R2 := fun x c H Q => ∃ d ds, Dp K H x d ∧ Dp K H c (.list ds) ∧ d.plain = true ∧ PyData.plainAll ds = true ∧ d.depth ≤ 60 ∧ Q (.bl (ds.any fun y => PyData.eqv y d)) H
def rNinP (K : Fg) : R2 := fun x c H Q => ∃ d ds, Dp K H x d ∧ Dp K H c (.list ds) ∧ d.plain = true ∧ PyData.plainAll ds = true ∧ d.depth ≤ 60 ∧ Q (.bl (!ds.any fun y => PyData.eqv y d)) H
theorem op_inP {X : Cx} (hu : X.A.units + 64 < cLine) : OpR X (compareOp .In) (rInP X.K) := by
  intro pins s σ H x y v u Q I rx ry h
  obtain ⟨d, ds, hd, he, sd, se, hl, q⟩ := h
  obtain ⟨as, r1⟩ := Dp.reads I d x v hd rx
  obtain ⟨bs, r2⟩ := Dp.reads I _ y u he ry
  exact SeqAt.in_list_data r2 r1 se sd (by omega) ⟨.bl _, H, I, rfl, q⟩
theorem op_ninP {X : Cx} (hu : X.A.units + 64 < cLine) : OpR X (compareOp .NotIn) (rNinP X.K) := by
  intro pins s σ H x y v u Q I rx ry h
  obtain ⟨d, ds, hd, he, sd, se, hl, q⟩ := h
  obtain ⟨as, r1⟩ := Dp.reads I d x v hd rx
  obtain ⟨bs, r2⟩ := Dp.reads I _ y u he ry
  exact SeqAt.notIn_list_data r2 r1 se sd (by omega) ⟨.bl _, H, I, rfl, q⟩
theorem any_eqv {α : Type} [Eqv α] [DecidableEq α] (x : α) : ∀ xs : List α, ((xs.map enc).any fun y => PyData.eqv y (enc x)) = decide (x ∈ xs)
  | [] => rfl
  | y :: ys => by
    rw [List.map_cons, List.any_cons, any_eqv x ys, eqvD y x, Bool.eq_iff_iff]
    simp only [Bool.or_eq_true, decide_eq_true_eq, List.mem_cons]
    exact ⟨fun h => h.elim (fun h => .inl h.symm) .inr, fun h => h.elim (fun h => .inl h.symm) .inr⟩
theorem r2_inD {α : Type} {K : Fg} [i : Eqv α] [d : DecidableEq α] (hd : Eqv.deep α ≤ 60) : R2p K (rInP K) (fun (x : α) (xs : List α) => some (decide (x ∈ xs))) := fun B H x y z vx vy e hx hy ez Q q => by
  cases ez
  refine ⟨enc x, y.map enc, dp_mono e _ _ (Enc.to hx), dp_mono e _ _ (Enc.to hy), Eqv.pl x, plainAll_map y, Nat.le_trans (Eqv.dep x) hd, q _ B H (Gr.refl e) ?_⟩
  exact congrArg V.bl (any_eqv x y)
theorem r2_ninD {α : Type} {K : Fg} [i : Eqv α] [d : DecidableEq α] (hd : Eqv.deep α ≤ 60) : R2p K (rNinP K) (fun (x : α) (xs : List α) => some (!decide (x ∈ xs))) := fun B H x y z vx vy e hx hy ez Q q => by
  cases ez
  refine ⟨enc x, y.map enc, dp_mono e _ _ (Enc.to hx), dp_mono e _ _ (Enc.to hy), Eqv.pl x, plainAll_map y, Nat.le_trans (Eqv.dep x) hd, q _ B H (Gr.refl e) ?_⟩
  exact congrArg (fun b => V.bl (!b)) (any_eqv x y)
end Cf

set_option Elab.async false
set_option linter.all false
set_option maxRecDepth 100000
set_option maxHeartbeats 4000000
namespace Cf
open PySem L2
open Rp (rp)
open RpL (rpl)
open Enc (enc)
section
variable {K : Fg} {σ : L2.St} {B H B' H' : Hp} {te ta tb tc : TE} {tt tu : TT} {tas : TA} {α β γ δ τ ρ S S' S1 S2 : Type} {P : Ow S} {P' : Ow S'} {R : Ow S1}
/-! ### more expressions -/
theorem Cs.opt [Rp α] {m : S → Option (α × S)} (h : Cs K P te σ B m) : Cs K P te σ B (fun s => (m s).bind fun p => some (some p.1, p.2)) := fun B1 H1 W s b e w d p x s' em Q q => by
  obtain ⟨⟨y, s1⟩, e1, em⟩ := bd_some em
  cases em
  exact h B1 H1 W s b e w d p y _ e1 Q q
theorem cs_notV {m : S → Option (Bool × S)} (h : Cs K P ta σ B m) : Cs K P (tNotV ta) σ B (fun s => (m s).bind fun p => some (!p.1, p.2)) := fun B1 H1 W s b e w d p x s' em Q q => by
  obtain ⟨⟨y, s1⟩, e1, em⟩ := bd_some em
  cases em
  exact h B1 H1 W s b e w d p y _ e1 _ fun v B2 H2 W2 sw p2 hv => ⟨y, hv, q _ B2 H2 W2 sw p2 rfl⟩
theorem cs_andV {m1 m2 : S → Option (Bool × S)} (h1 : Cs K P ta σ B m1) (h2 : Cs K P tb σ B m2) : Cs K P (tAndV ta tb) σ B (fun s => (m1 s).bind fun p => if p.1 = true then m2 p.2 else some (false, p.2)) := fun B1 H1 W s b e w d p z s' em Q q => by
  obtain ⟨⟨a, s1⟩, e1, em⟩ := bd_some em
  refine h1 B1 H1 W s b e w d p a s1 e1 _ fun v B2 H2 W2 sw p2 hv => ⟨a, hv, ?_⟩
  cases a with
  | true => exact h2 B2 H2 W2 s1 (b.trans sw.g.b) sw.g.e sw.w sw.d p2 z s' em Q fun v B3 H3 W3 sw3 p3 h3 => q v B3 H3 W3 (sw.trans sw3) p3 h3
  | false =>
    cases em
    exact q _ B2 H2 W2 sw p2 rfl
theorem cs_orV {m1 m2 : S → Option (Bool × S)} (h1 : Cs K P ta σ B m1) (h2 : Cs K P tb σ B m2) : Cs K P (tOrV ta tb) σ B (fun s => (m1 s).bind fun p => if p.1 = true then some (true, p.2) else m2 p.2) := fun B1 H1 W s b e w d p z s' em Q q => by
  obtain ⟨⟨a, s1⟩, e1, em⟩ := bd_some em
  refine h1 B1 H1 W s b e w d p a s1 e1 _ fun v B2 H2 W2 sw p2 hv => ⟨a, hv, ?_⟩
  cases a with
  | false => exact h2 B2 H2 W2 s1 (b.trans sw.g.b) sw.g.e sw.w sw.d p2 z s' em Q fun v B3 H3 W3 sw3 p3 h3 => q v B3 H3 W3 (sw.trans sw3) p3 h3
  | true =>
    cases em
    exact q _ B2 H2 W2 sw p2 rfl
/-! None or not -/
class Nn (α : Type) [Rp α] : Prop where
  nn : ∀ {K : Fg} {B : Hp} {v : V} {x : α}, rp K B v x → v ≠ .non
instance : Nn Int := ⟨fun h z => by rw [z] at h; exact nomatch h⟩
instance : Nn Bool := ⟨fun h z => by rw [z] at h; exact nomatch h⟩
instance : Nn Str := ⟨fun h z => by rw [z] at h; exact nomatch h⟩
instance [Rp α] : Nn (List α) := ⟨fun ⟨a, vs, h, _⟩ z => by rw [z] at h; exact nomatch h⟩
instance [Rp α] [Rp β] : Nn (α × β) := ⟨fun ⟨a, u, w, h, _⟩ z => by rw [z] at h; exact nomatch h⟩
instance [Rp α] [Rp β] [Rp γ] : Nn (T3 α β γ) := ⟨fun ⟨a, u1, u2, u3, h, _⟩ z => by rw [z] at h; exact nomatch h⟩
instance [Rp α] [Rp β] [Rp γ] [Rp δ] : Nn (T4 α β γ δ) := ⟨fun ⟨a, u1, u2, u3, u4, h, _⟩ z => by rw [z] at h; exact nomatch h⟩
theorem isN_of [Rp α] [Nn α] {v : V} {x : Option α} (h : rp K B v x) : decide (v = .non) = x.isNone := by
  cases x with
  | none => exact decide_eq_true h
  | some y => exact decide_eq_false (Nn.nn (α := α) h)
theorem cp_isN [Rp α] [Nn α] {m : Option (Option α)} (h : Cp K ta σ B m) : Cp K (tIsN ta) σ B (m.bind fun x => some x.isNone) := fun B1 H1 b e z em Q q => by
  obtain ⟨x, e1, em⟩ := bd_some em
  cases em
  exact h B1 H1 b e x e1 _ fun v B2 H2 g2 hv => q _ B2 H2 g2 (congrArg V.bl (isN_of hv))
theorem cp_notN [Rp α] [Nn α] {m : Option (Option α)} (h : Cp K ta σ B m) : Cp K (tNotN ta) σ B (m.bind fun x => some x.isSome) := fun B1 H1 b e z em Q q => by
  obtain ⟨x, e1, em⟩ := bd_some em
  cases em
  refine h B1 H1 b e x e1 _ fun v B2 H2 g2 hv => q _ B2 H2 g2 ?_
  show V.bl _ = V.bl _
  rw [isN_of hv]
  cases x <;> rfl
theorem cs_isN [Rp α] [Nn α] {m : S → Option (Option α × S)} (h : Cs K P ta σ B m) : Cs K P (tIsN ta) σ B (fun s => (m s).bind fun p => some (p.1.isNone, p.2)) := fun B1 H1 W s b e w d p z s' em Q q => by
  obtain ⟨⟨x, s1⟩, e1, em⟩ := bd_some em
  cases em
  exact h B1 H1 W s b e w d p x _ e1 _ fun v B2 H2 W2 sw p2 hv => q _ B2 H2 W2 sw p2 (congrArg V.bl (isN_of hv))
theorem cs_notN [Rp α] [Nn α] {m : S → Option (Option α × S)} (h : Cs K P ta σ B m) : Cs K P (tNotN ta) σ B (fun s => (m s).bind fun p => some (p.1.isSome, p.2)) := fun B1 H1 W s b e w d p z s' em Q q => by
  obtain ⟨⟨x, s1⟩, e1, em⟩ := bd_some em
  cases em
  refine h B1 H1 W s b e w d p x _ e1 _ fun v B2 H2 W2 sw p2 hv => q _ B2 H2 W2 sw p2 ?_
  show V.bl _ = V.bl _
  rw [isN_of hv]
  cases x <;> rfl
/-! tuples -/
theorem cp_tup2 [Rp α] [Rp β] {m : Option (α × β × Unit)} (h : Ca K tas σ B m) : Cp K (tTup tas) σ B (m.bind fun t => some (t.1, t.2.1)) := fun B1 H1 b e z em Q q => by
  obtain ⟨t, e1, em⟩ := bd_some em
  cases em
  refine h B1 H1 b e t e1 _ fun vs B2 H2 g2 hv => ?_
  obtain ⟨v1, _, rfl, h1, v2, _, rfl, h2, h3⟩ := hv
  cases h3
  exact ⟨by show 2 ≤ sizeLine; decide, fun p np => q _ (upd B2 p (.tup [v1, v2])) _ (g2.trans (Gr.new g2.e np)) ⟨p, v1, v2, rfl, .inl (.inl upd_same), Rp.mono (Ex.new (g2.e.none np)) h1, Rp.mono (Ex.new (g2.e.none np)) h2⟩⟩
theorem cp_tup3 [Rp α] [Rp β] [Rp γ] {m : Option (α × β × γ × Unit)} (h : Ca K tas σ B m) : Cp K (tTup tas) σ B (m.bind fun t => some (T3.mk t.1 t.2.1 t.2.2.1)) := fun B1 H1 b e z em Q q => by
  obtain ⟨t, e1, em⟩ := bd_some em
  cases em
  refine h B1 H1 b e t e1 _ fun vs B2 H2 g2 hv => ?_
  obtain ⟨v1, _, rfl, h1, v2, _, rfl, h2, v3, _, rfl, h3, h4⟩ := hv
  cases h4
  exact ⟨by show 3 ≤ sizeLine; decide, fun p np => q _ (upd B2 p (.tup [v1, v2, v3])) _ (g2.trans (Gr.new g2.e np)) ⟨p, v1, v2, v3, rfl, .inl (.inl upd_same), Rp.mono (Ex.new (g2.e.none np)) h1, Rp.mono (Ex.new (g2.e.none np)) h2, Rp.mono (Ex.new (g2.e.none np)) h3⟩⟩
theorem cs_tup2 [Rp α] [Rp β] [OwOk P] {m : S → Option ((α × β × Unit) × S)} (h : Csa K P tas σ B m) : Cs K P (tTup tas) σ B (fun s => (m s).bind fun t => some ((t.1.1, t.1.2.1), t.2)) := fun B1 H1 W s b e w d p z s' em Q q => by
  obtain ⟨⟨t, s1⟩, e1, em⟩ := bd_some em
  cases em
  refine h B1 H1 W s b e w d p t _ e1 _ fun vs B2 H2 W2 sw p2 hv => ?_
  obtain ⟨v1, _, rfl, h1, v2, _, rfl, h2, h3⟩ := hv
  cases h3
  refine ⟨by show 2 ≤ sizeLine; decide, fun c np => q _ (upd B2 c (.tup [v1, v2])) _ W2 (sw.trans (Sw.pure (Gr.new sw.g.e np) sw.w sw.d)) (OwOk.mono (Ex.new (sw.g.e.none np)) p2) ⟨c, v1, v2, rfl, .inl (.inl upd_same), Rp.mono (Ex.new (sw.g.e.none np)) h1, Rp.mono (Ex.new (sw.g.e.none np)) h2⟩⟩
theorem cs_tup3 [Rp α] [Rp β] [Rp γ] [OwOk P] {m : S → Option ((α × β × γ × Unit) × S)} (h : Csa K P tas σ B m) : Cs K P (tTup tas) σ B (fun s => (m s).bind fun t => some (T3.mk t.1.1 t.1.2.1 t.1.2.2.1, t.2)) := fun B1 H1 W s b e w d p z s' em Q q => by
  obtain ⟨⟨t, s1⟩, e1, em⟩ := bd_some em
  cases em
  refine h B1 H1 W s b e w d p t _ e1 _ fun vs B2 H2 W2 sw p2 hv => ?_
  obtain ⟨v1, _, rfl, h1, v2, _, rfl, h2, v3, _, rfl, h3, h4⟩ := hv
  cases h4
  refine ⟨by show 3 ≤ sizeLine; decide, fun c np => q _ (upd B2 c (.tup [v1, v2, v3])) _ W2 (sw.trans (Sw.pure (Gr.new sw.g.e np) sw.w sw.d)) (OwOk.mono (Ex.new (sw.g.e.none np)) p2) ⟨c, v1, v2, v3, rfl, .inl (.inl upd_same), Rp.mono (Ex.new (sw.g.e.none np)) h1, Rp.mono (Ex.new (sw.g.e.none np)) h2, Rp.mono (Ex.new (sw.g.e.none np)) h3⟩⟩
/-- an item of a tuple at a written place -/
theorem cp_ixT [Rp α] [Rp γ] {i : Int} {f : α → γ} (hf : ∀ {B : Hp} {v : V} {x : α}, rp K B v x → ∃ a vs u, v = .ref a ∧ SqT K B a vs ∧ atI vs i = some u ∧ rp K B u (f x)) {m : Option α} (h : Cp K ta σ B m) : Cp K (tOp (rIxT K) ta (tC (.int i))) σ B (m.bind fun x => some (f x)) := fun B1 H1 b e z em Q q => by
  obtain ⟨x, e1, em⟩ := bd_some em
  cases em
  refine h B1 H1 b e x e1 _ fun v B2 H2 g2 hv => ?_
  obtain ⟨a, vs, u, rfl, s, ha, hu⟩ := hf hv
  exact ⟨a, vs, i, u, rfl, rfl, sqt_mono g2.e s, ha, q u B2 H2 g2 hu⟩
theorem cp_item2_0 [Rp α] [Rp β] {m : Option (α × β)} (h : Cp K ta σ B m) : Cp K (tOp (rIxT K) ta (tC (.int 0))) σ B (m.bind fun x => some x.1) := cp_ixT (fun h => by obtain ⟨a, u, w, h, s, p, q⟩ := h; exact ⟨a, _, u, h, s, rfl, p⟩) h
theorem cp_item2_1 [Rp α] [Rp β] {m : Option (α × β)} (h : Cp K ta σ B m) : Cp K (tOp (rIxT K) ta (tC (.int 1))) σ B (m.bind fun x => some x.2) := cp_ixT (fun h => by obtain ⟨a, u, w, h, s, p, q⟩ := h; exact ⟨a, _, w, h, s, rfl, q⟩) h
/-! lists -/
theorem ct_truL [Rp α] {m : Option (List α)} (h : Cp K ta σ B m) : Ct (fun σ H Q => ta σ H fun x H' => ∃ k, TruV K x H' k ∧ Q k H') σ B (m.bind fun x => some (!x.isEmpty)) := fun B1 H1 b e z em Q q => by
  obtain ⟨x, e1, em⟩ := bd_some em
  cases em
  refine h B1 H1 b e x e1 _ fun v B2 H2 g2 hv => ?_
  obtain ⟨a, vs, rfl, s, p⟩ := hv
  refine ⟨!x.isEmpty, .inl ⟨vs, sq_lst (g2.e _ _ s), ?_⟩, q B2 H2 g2⟩
  cases p <;> rfl
def RListOf (K : Fg) : List V → Hp → VK → Prop := fun xs H Q => ∃ p ys, xs = [.ref p] ∧ (SqL K H p ys ∨ SqT K H p ys) ∧ ∀ l, H l = none → Q (.ref l) (upd H l (.lst ys))
theorem co_listof [Rp α] {m : Option (List α)} (h : Cp K ta σ B m) : Co K (tCB (RListOf K) (tCons ta tNil)) σ B m := fun B1 H1 b e xs em Q q => by
  refine h B1 H1 b e xs em _ fun v B2 H2 g2 hv => ?_
  obtain ⟨a, vs, rfl, s, p⟩ := hv
  exact ⟨a, vs, rfl, .inl (sq_lst (g2.e _ _ s)), fun l nl => q l vs B2 _ (g2.trans (Gr.newM g2.e nl)) (g2.fresh nl) (g2.e.none nl) upd_same p⟩
theorem inV_ints {x : Int} : ∀ {vs : List V} {xs : List Int}, Paired (rp K B) vs xs → inV (.int x) vs = decide (x ∈ xs)
  | _, _, .nil => rfl
  | _, _, .cons (b := y) r t => by
    cases (show _ = V.int _ from r)
    show (eqV (.int y) (.int x) || inV (.int x) _) = _
    rw [inV_ints t]
    rw [Bool.eq_iff_iff, Bool.or_eq_true, decide_eq_true_eq, decide_eq_true_eq, List.mem_cons]
    have : eqV (.int y) (.int x) = true ↔ x = y := by
      show (y == x) = true ↔ _
      rw [beq_iff_eq]
      exact eq_comm
    rw [this]
theorem flat_ints : ∀ {vs : List V} {xs : List Int}, Paired (rp K B) vs xs → vs.all flatV = true
  | _, _, .nil => rfl
  | _, _, .cons r t => by
    cases (show _ = V.int _ from r)
    show (true && _) = true
    rw [flat_ints t]
    rfl
theorem r2_inL : R2p K (rIn K false) (fun (x : Int) (xs : List Int) => some (decide (x ∈ xs))) := fun B H x xs z vx vy e hx hy ez Q q => by
  cases ez
  cases (show vx = .int x from hx)
  obtain ⟨a, vs, rfl, s, p⟩ := hy
  refine ⟨a, vs, rfl, .inl (sq_lst (e _ _ s)), rfl, flat_ints p, q _ B H (Gr.refl e) ?_⟩
  show V.bl _ = V.bl _
  rw [if_neg Bool.false_ne_true, inV_ints p]
theorem r2_ninL : R2p K (rIn K true) (fun (x : Int) (xs : List Int) => some (!decide (x ∈ xs))) := fun B H x xs z vx vy e hx hy ez Q q => by
  cases ez
  cases (show vx = .int x from hx)
  obtain ⟨a, vs, rfl, s, p⟩ := hy
  refine ⟨a, vs, rfl, .inl (sq_lst (e _ _ s)), rfl, flat_ints p, q _ B H (Gr.refl e) ?_⟩
  show V.bl _ = V.bl _
  rw [if_pos rfl, inV_ints p]
/-! min, max of two -/
def pmin2 (i j : Int) : Int := if j < i then j else i
def pmax2 (i j : Int) : Int := if j > i then j else i
theorem rc_min2 : Rcp K (fun xs H Q => ∃ i j, xs = [.int i, .int j] ∧ Q (.int (if j < i then j else i)) H) (fun t : Int × Int × Unit => some (pmin2 t.1 t.2.1)) := fun B H t z vs e h ez Q q => by
  cases ez
  obtain ⟨v1, _, rfl, h1, v2, _, rfl, h2, h3⟩ := h
  cases h3
  cases (show v1 = .int _ from h1)
  cases (show v2 = .int _ from h2)
  exact ⟨_, _, rfl, q _ B H (Gr.refl e) rfl⟩
theorem rc_max2 : Rcp K (fun xs H Q => ∃ i j, xs = [.int i, .int j] ∧ Q (.int (if j > i then j else i)) H) (fun t : Int × Int × Unit => some (pmax2 t.1 t.2.1)) := fun B H t z vs e h ez Q q => by
  cases ez
  obtain ⟨v1, _, rfl, h1, v2, _, rfl, h2, h3⟩ := h
  cases h3
  cases (show v1 = .int _ from h1)
  cases (show v2 = .int _ from h2)
  exact ⟨_, _, rfl, q _ B H (Gr.refl e) rfl⟩
/-! isinstance -/
theorem kit_int_int {K : Fg} : PySem.W.kitOne K (.type "int") (.type "int") = some true := kit_ty (by decide +kernel)
theorem kit_bool_int {K : Fg} : PySem.W.kitOne K (.type "bool") (.type "int") = some true := kit_ty (by decide +kernel)
theorem kit_int_bool {K : Fg} : PySem.W.kitOne K (.type "int") (.type "bool") = some false := kit_ty (by decide +kernel)
theorem kit_str_str {K : Fg} : PySem.W.kitOne K (.type "str") (.type "str") = some true := kit_ty (by decide +kernel)
theorem kit_list_list {K : Fg} : PySem.W.kitOne K (.type "list") (.type "list") = some true := kit_ty (by decide +kernel)
theorem kit_tuple_tuple {K : Fg} : PySem.W.kitOne K (.type "tuple") (.type "tuple") = some true := kit_ty (by decide +kernel)
theorem kit_NoneType_tuple {K : Fg} : PySem.W.kitOne K (.type "NoneType") (.type "tuple") = some false := kit_ty (by decide +kernel)

def Isi (α : Type) [Rp α] (K : Fg) (c : String) (f : α → Bool) : Prop := ∀ {B : Hp} {v : V} {x : α}, rp K B v x → ∃ t, TyX K B v t ∧ PySem.W.kitOne K t (.type c) = some (f x)
theorem tyx_mono {v : V} {t : Value} (e : Ex B H) (h : TyX K B v t) : TyX K H v t := by
  cases h with
  | base b =>
    cases b with
    | non => exact .base .non
    | bl x => exact .base (.bl x)
    | int x => exact .base (.int x)
    | str x => exact .base (.str x)
    | flt x => exact .base (.flt x)
    | lst h => exact .base (.lst (e _ _ h))
    | frz h => exact .base (.frz (e _ _ h))
    | tup h => exact .base (.tup (e _ _ h))
    | dK h => exact .base (.dK (e _ _ h))
    | dT h => exact .base (.dT (e _ _ h))
    | ins h a b c d f => exact .base (.ins (e _ _ h) a b c d f)
  | byt b => exact .byt b
  | set h => exact .set (e _ _ h)
  | kList h c => exact .kList h c
  | kTuple h c => exact .kTuple h c
  | kDict h c => exact .kDict h c
  | fTuple h => exact .fTuple (e _ _ h)
  | fDict h => exact .fDict (e _ _ h)
theorem cp_isi [Rp α] {c : String} {f : α → Bool} (hi : Isi α K c f) {m : Option α} (h : Cp K ta σ B m) : Cp K (tCB (rIsi K) (tCons ta (tCons (tC (.ty c)) tNil))) σ B (m.bind fun x => some (f x)) := fun B1 H1 b e z em Q q => by
  obtain ⟨x, e1, em⟩ := bd_some em
  cases em
  refine h B1 H1 b e x e1 _ fun v B2 H2 g2 hv => ?_
  obtain ⟨t, ht, hk⟩ := hi hv
  exact ⟨v, .ty c, t, .type c, f x, rfl, ClsV.ty c, tyx_mono g2.e ht, hk, q _ B2 H2 g2 rfl⟩
theorem isi_int : Isi Int K "int" (fun _ => true) := fun h => by
  cases (show _ = V.int _ from h)
  exact ⟨_, .base (.int _), kit_int_int⟩
theorem isi_bool_int : Isi Bool K "int" (fun _ => true) := fun h => by
  cases (show _ = V.bl _ from h)
  exact ⟨_, .base (.bl _), kit_bool_int⟩
theorem isi_int_bool : Isi Int K "bool" (fun _ => false) := fun h => by
  cases (show _ = V.int _ from h)
  exact ⟨_, .base (.int _), kit_int_bool⟩
theorem isi_str : Isi Str K "str" (fun _ => true) := fun h => by
  cases (show _ = V.str _ from h)
  exact ⟨_, .base (.str _), kit_str_str⟩
theorem isi_list [Rp α] : Isi (List α) K "list" (fun _ => true) := fun h => by
  obtain ⟨a, vs, rfl, s, p⟩ := h
  exact ⟨_, .base (.lst s), kit_list_list⟩
theorem tyx_sqt {a : Addr} {xs : List V} (s : SqT K B a xs) : TyX K B (.ref a) (.type "tuple") := by
  rcases s with (h | ⟨o, h⟩) | ⟨o, its, n, h, c, _⟩
  · exact .base (.tup h)
  · exact .fTuple h
  · exact .kTuple h c
theorem isi_tuple2 [Rp α] [Rp β] : Isi (α × β) K "tuple" (fun _ => true) := fun h => by
  obtain ⟨a, u, w, rfl, s, p, q⟩ := h
  exact ⟨_, tyx_sqt s, kit_tuple_tuple⟩
theorem isi_otuple2 [Rp α] [Rp β] : Isi (Option (α × β)) K "tuple" (fun x => x.isSome) := fun {B v x} h => by
  cases x with
  | none =>
    cases (show v = V.non from h)
    exact ⟨_, .base .non, kit_NoneType_tuple⟩
  | some y =>
    obtain ⟨a, u, w, rfl, s, p, q⟩ := (show rp K B v y from h)
    exact ⟨_, tyx_sqt s, kit_tuple_tuple⟩
end
/-! ### objects -/
structure Mc (P : Program) (w : World) (K : Fg) (mg : Str → Option Value) (base : Heap) (k : Nat) (C m : Str) (ps : List Str) (sp : Sp) : Prop where
  ex : ∃ f fd, FnOk P w K mg base CX0 k f fd ps sp ∧ Meth K (He.ga K C) m f ∧ Binds K fd ps []
theorem pe_mfc {X : Cx} {k j : Nat} {C m : Str} {ps : List Str} {sp : Sp} {apos pos : Pos} {o e : Expr} {es : List Expr} {ta : TE} {t : TA} {pl : Sem Bool} (he : PE X o ta) (c : Cls X.K (He.ga X.K C)) (M : Mc X.prog X.w X.K X.mg X.base k C m ps sp) (hr : Room j X.A) (hk : k ≤ j) (ha : PA X (e :: es) t)
    (hst : starEach (e :: es) X.env = (false, eval e X.env) :: starEach es X.env := by rfl) (hpl : (backTo pos (starEach es X.env)).any (·.1) = false := by rfl)
    (ht : eval (.Call (.Attribute o m apos) (e :: es) [] pos) X.env = (do
      let ov ← eval o X.env
      standAt apos.atName
      let (f, first) ← holding [ov] (getMethod ov m pl)
      callWith pos f first (backTo pos (starEach (e :: es) X.env)) (backToKw pos (keywordEach [] X.env))) := by rfl) :
    PE X (.Call (.Attribute o m apos) (e :: es) [] pos) (tMeth (He.ga X.K C) m sp [] E0 ta t) := by
  obtain ⟨f, fd, F, hm, hb⟩ := M.ex
  exact pe_meth he c hm F (hr.mono hk) hb .nil pass0 ha hst hpl ht
theorem pe_mfc0 {X : Cx} {k j : Nat} {C m : Str} {ps : List Str} {sp : Sp} {apos pos : Pos} {o : Expr} {ta : TE} {pl : Sem Bool} (he : PE X o ta) (c : Cls X.K (He.ga X.K C)) (M : Mc X.prog X.w X.K X.mg X.base k C m ps sp) (hr : Room j X.A) (hk : k ≤ j)
    (ht : eval (.Call (.Attribute o m apos) [] [] pos) X.env = (do
      let ov ← eval o X.env
      standAt apos.atName
      let (f, first) ← holding [ov] (getMethod ov m pl)
      callWith pos f first (backTo pos (starEach [] X.env)) (backToKw pos (keywordEach [] X.env))) := by rfl) :
    PE X (.Call (.Attribute o m apos) [] [] pos) (tMeth (He.ga X.K C) m sp [] E0 ta tNil) := by
  obtain ⟨f, fd, F, hm, hb⟩ := M.ex
  exact pe_meth0 he c hm F (hr.mono hk) hb .nil pass0 ht
theorem pe_mkc {X : Cx} {k j : Nat} {C : Str} {ps : List Str} {sp : Sp} {p pos : Pos} {e : Expr} {es : List Expr} {t : TA} (M : Mk X.K (He.ga X.K C) (He.ma X.K (He.ga X.K C) "__init__")) (c : Mc X.prog X.w X.K X.mg X.base k C "__init__" ps sp) (hr : Room j X.A) (hk : k + 1 ≤ j) (hg : Gl X C) (hm : X.mg C = some (.ref (He.ga X.K C))) (ha : PA X (e :: es) t)
    (hdb : (C == ("__debug__" : Str)) = false := by decide) (he : starEach (e :: es) X.env = (false, eval e X.env) :: starEach es X.env := by rfl) (hpl : (backTo pos (starEach es X.env)).any (·.1) = false := by rfl) :
    PE X (.Call (.Name C p) (e :: es) [] pos) (tMake (He.ga X.K C) sp [] E0 t) := by
  obtain ⟨f, fd, F, hmt, hb⟩ := c.ex
  have e1 : f = He.ma X.K (He.ga X.K C) "__init__" := by
    have := hmt.at_.symm.trans M.init
    cases this
    rfl
  subst e1
  exact pe_make M F (hr.mono hk) hg hm hb .nil pass0 ha hdb he hpl
theorem pe_mkc0 {X : Cx} {k j : Nat} {C : Str} {ps : List Str} {sp : Sp} {p pos : Pos} (M : Mk X.K (He.ga X.K C) (He.ma X.K (He.ga X.K C) "__init__")) (c : Mc X.prog X.w X.K X.mg X.base k C "__init__" ps sp) (hr : Room j X.A) (hk : k + 1 ≤ j) (hg : Gl X C) (hm : X.mg C = some (.ref (He.ga X.K C)))
    (hdb : (C == ("__debug__" : Str)) = false := by decide) :
    PE X (.Call (.Name C p) [] [] pos) (tMake (He.ga X.K C) sp [] E0 tNil) := by
  obtain ⟨f, fd, F, hmt, hb⟩ := c.ex
  have e1 : f = He.ma X.K (He.ga X.K C) "__init__" := by
    have := hmt.at_.symm.trans M.init
    cases this
    rfl
  subst e1
  exact pe_make0 M F (hr.mono hk) hg hm hb .nil pass0 hdb
theorem mc_of {P : Program} {w : World} {K : Fg} {mg : Str → Option Value} {base : Heap} {k : Nat} {C m qual : Str} {pa : Arguments} {bd : List Stmt} {sc : Scope} {ps : List Str} {sp : Sp} {f : Addr} {fd : FuncData} (F : FunD K m qual pa bd sc [] [] f fd) (ok : FnOk P w K mg base CX0 k f fd ps sp) (g : Meth K (He.ga K C) m f)
    (h : ∀ (kV doc pm : Value) (an : Option Addr) (cdv ct : Value) (us : List Value), us.length = ps.length → bindArgs (PySem.W.fnOf m qual pa bd sc .none kV doc pm an cdv ct) ⟨us, []⟩ = pure (ps.zip us)) : Mc P w K mg base k C m ps sp :=
  ⟨f, fd, ok, g, F.bindsN h⟩
section
variable {K : Fg} {σ : L2.St} {B H B' H' : Hp} {te ta tb tc : TE} {tt tu : TT} {tas : TA} {α β γ δ τ ρ S S' S1 S2 : Type} {P : Ow S} {P' : Ow S'} {R : Ow S1}
/-- the object at a is an instance of the class C, and m is no attribute of it -/
def IsObj (Pb : Addr → Ow S) (K : Fg) (C m : Str) : Prop := ∀ {a : Addr} {W B : Hp} {s : S}, Pb a W B s → ∃ dx fs, W a = some (.ins (He.ga K C) dx fs) ∧ fs.lookup m = none
theorem cs_methM [RpL τ] [Rp γ] {Pb : Addr → Ow S} {C mt : Str} {a : Addr} {get : S' → S} {put : S' → S → S'} {f : S → τ → Option (γ × S)} {i : Nat} {m : S' → Option (τ × S')} {E : XK} [OwOk P'] (l : Ln P' (Pb a) get put) (hs : σ[i]? = some (some (.ref a))) (ho : IsObj Pb K C mt) (ha : Csa K P' tas σ B m) :
    Cs K P' (tMeth (He.ga K C) mt (spM K Pb f) [] E (tVar i) tas) σ B (fun s => (m s).bind fun p => (f (get p.2) p.1).bind fun q => some (q.1, put p.2 q.2)) := fun B1 H1 W s b e w d p z s' em Q q => by
  obtain ⟨⟨x, s1⟩, e1, em⟩ := bd_some em
  obtain ⟨⟨y, s2⟩, e2, em⟩ := bd_some em
  cases em
  refine ⟨.ref a, hs, ?_⟩
  obtain ⟨V1, V2, hV, dV, q1, back⟩ := l.open_ W B1 s p
  obtain ⟨dx, fs, hw, hn⟩ := ho q1
  refine ⟨a, dx, fs, rfl, w a _ (by rw [hV]; exact uni_l hw), hn, ?_⟩
  refine ha B1 H1 W s b e w d p x s1 e1 _ fun vs B2 H2 W2 sw p2 hv => ?_
  obtain ⟨V1, V2, hV, dV, q1, back⟩ := l.open_ W2 B2 s1 p2
  subst hV
  refine ⟨a, vs, V1, B2, get s1, x, _, s2, (by rw [List.append_nil]), sw.g.e, fun c o h => sw.w c o (uni_l h), dj_l sw.d, q1, hv, e2, fun v W' B3 H3 y p3 hr => ?_⟩
  have w2 : Ex V2 H2 := fun c o h => sw.w c o (by rw [uni_r (dV.symm c (nn h))]; exact h)
  obtain ⟨y2, dj⟩ := y.beside w2 dV (dj_r dV sw.d)
  exact q v B3 H3 (uni W' V2) (sw.trans y2) (back W' B3 s2 y.g.b dj p3) hr
/-- the promise of an __init__ -/
def spI {S τ : Type} [RpL τ] (K : Fg) (C : Str) (Pb : Addr → Ow S) (f : τ → Option S) : Sp := fun vs H Q _ => ∃ a us dx B t s, vs = .ref a :: us ∧ H a = some (.ins (He.ga K C) dx []) ∧ H dx = some (.own a) ∧ dx ≠ a ∧ Ex B H ∧ B a = none ∧ B dx = none ∧ rpl K B us t ∧ f t = some s ∧
  ∀ W' B' H', Sw (sing a (.ins (He.ga K C) dx [])) B H W' B' H' → Pb a W' B' s → Q .non H'
theorem st_mk {M : Ms} {Bs Hs W : Hp} {s : S} {D : Ends} [RpL τ] {Pb : Addr → Ow S'} {C : Str} {f : τ → Option S'} {m : Option τ} {m' : Option S'} {k : S' → Option ρ} {r : ρ} {i : Nat} {E : XK} [OwOk P] (hm : m'.bind k = some r) (N : Now M Bs Hs P W B H s) (ha : Ca K tas σ B m) (he : m.bind f = m')
    (q : ∀ x p W1 B1 H1, k x = some r → Now M Bs Hs (star P (Pb p)) W1 B1 H1 (s, x) → Ex B B1 → Hs p = none → D.nx (σ.set i (some (.ref p))) H1) : tAsg (tMake (He.ga K C) (spI K C Pb f) [] E tas) (gName i) D σ H := by
  subst he
  obtain ⟨x, e0, e3⟩ := bd_some hm
  obtain ⟨t, e1, e2⟩ := bd_some e0
  refine ha B H (Ex.refl B) N.ex t e1 _ fun vs B1 H1 g1 hv => fun p dx np ndx ne => ?_
  have N1 := N.pure g1
  have g2 : Gr noM B1 H1 B1 (upd H1 dx (.own p)) := Gr.newM g1.e ndx
  have np2 : (upd H1 dx (.own p)) p = none := by rw [upd_ne ne.symm]; exact np
  have g3 : Gr noM B1 (upd H1 dx (.own p)) B1 (upd (upd H1 dx (.own p)) p (.ins (He.ga K C) dx [])) := Gr.newM g2.e np2
  have N3 := (N1.pure g2).pure g3
  have fp : Hs p = none := N1.g.fresh np
  refine ⟨p, vs, dx, B1, t, x, (by rw [List.append_nil]), upd_same, (by rw [upd_ne ne, upd_same]), ne, g3.e, g1.e.none np, g1.e.none ndx, hv, e2, fun W' B' H' sw pp => ⟨rfl, ?_⟩⟩
  have hWp : W p = none := by
    cases hh : W p with
    | none => rfl
    | some o =>
      rw [N1.w p o hh] at np
      cases np
  have dj : Dj (sing p (.ins (He.ga K C) dx [])) W := fun a h => by
    have := sing_dom h
    subst this
    exact hWp
  obtain ⟨sw2, dj2⟩ := sw.beside N3.w dj N3.d
  have hs2 : star P (Pb p) (uni W' W) B' (s, x) := ⟨W, W', uni_comm dj2, dj2.symm, OwOk.mono sw.g.b N3.p, pp⟩
  have f2 : ∀ a, uni (sing p (.ins (He.ga K C) dx [])) W a ≠ none → M a ∨ Hs a = none := fun a h => by
    rcases uni_dom h with z | z
    · have := sing_dom z
      subst this
      exact .inr fp
    · exact N3.f a z
  have N4 : Now M Bs Hs (star oE P) (uni (sing p (.ins (He.ga K C) dx [])) W) B1 (upd (upd H1 dx (.own p)) p (.ins (He.ga K C) dx [])) ((), s) → True := fun _ => trivial
  refine q x p (uni W' W) B' H' e3 ⟨⟨N3.g.s, N3.g.b.trans sw2.g.b, fun a o m h => ?_, sw2.g.e, fun a h n => sw2.g.n a (N3.g.k a h) (N3.g.n a h n), fun a h => sw2.g.k a (N3.g.k a h)⟩, sw2.w, sw2.d, hs2, fun a h => ?_⟩ (g1.b.trans sw.g.b) fp
  · refine sw2.g.h a o (fun z => ?_) (N3.g.h a o m h)
    rcases f2 a z with y | y
    · exact m y
    · rw [y] at h
      cases h
  · rcases sw2.f a h with z | z
    · exact f2 a z
    · exact .inr (N3.g.fresh z)
/-- an attribute of an object of one's own, read -/
theorem cp_ownfld [Rp γ] {C f : Str} {a dx : Addr} {i : Nat} {fs : List (Str × V)} {W : Hp} {u : V} {x : γ} (hs : σ[i]? = some (some (.ref a))) (ho : uni W B a = some (.ins (He.ga K C) dx fs)) (c : Cls K (He.ga K C)) (n : NoAttr K (He.ga K C) f) (hf : fs.lookup f = some u) (hr : rp K (uni W B) u x) : Cp K (tFld K (tVar i) f) σ (uni W B) (some x) := fun B1 H1 b e z em Q q => by
  cases em
  exact ⟨.ref a, hs, a, _, dx, fs, u, rfl, e _ _ (b _ _ ho), c, n, hf, q u B1 H1 (Gr.refl e) (Rp.mono b hr)⟩
/-- an attribute of an object that is known -/
theorem cp_fld [Rp α] [Rp γ] {C f : Str} {g : α → γ} {m : Option α} (hf : ∀ {B : Hp} {v : V} {x : α}, rp K B v x → ∃ a dx fs u, v = .ref a ∧ B a = some (.ins (He.ga K C) dx fs) ∧ fs.lookup f = some u ∧ rp K B u (g x)) (c : Cls K (He.ga K C)) (n : NoAttr K (He.ga K C) f) (h : Cp K ta σ B m) :
    Cp K (tFld K ta f) σ B (m.bind fun x => some (g x)) := fun B1 H1 b e z em Q q => by
  obtain ⟨x, e1, em⟩ := bd_some em
  cases em
  refine h B1 H1 b e x e1 _ fun v B2 H2 g2 hv => ?_
  obtain ⟨a, dx, fs, u, rfl, ho, hl, hu⟩ := hf hv
  exact ⟨a, _, dx, fs, u, rfl, g2.e _ _ ho, c, n, hl, q u B2 H2 g2 hu⟩
/-! ### more statements -/
theorem st_box {M : Ms} {Bs Hs W : Hp} {D : Ends} {m m' : Option (List Int)} {k : List Int → Option ρ} {r : ρ} {i : Nat} (hm : m'.bind k = some r) (N : Now M Bs Hs oE W B H ()) (hc : Cp K te σ B m) (he : m = m')
    (q : ∀ ds p W1 B1 H1, k ds = some r → Now M Bs Hs (OwBox K p) W1 B1 H1 ds → Ex B B1 → Hs p = none → D.nx (σ.set i (some (.ref p))) H1) : tAsg (tLst (tCons te (tCons (tC (.int 0)) tNil))) (gName i) D σ H := by
  subst he
  obtain ⟨x, e1, e2⟩ := bd_some hm
  refine hc B H (Ex.refl B) N.ex x e1 _ fun v B1 H1 g hv => ⟨by show 2 ≤ sizeLine; decide, fun p np => ?_⟩
  have N1 := N.pure g
  have fp : Hs p = none := N1.g.fresh np
  refine q x p (sing p (.lst [v, .int 0])) B1 _ e2 ⟨N1.g.trans (Gr.newM g.e np), fun a o h => ?_, fun a h => ?_, ⟨v, x, 0, rfl, hv, rfl⟩, fun a h => ?_⟩ g.b fp
  · have := sing_dom (nn h)
    subst this
    rw [sing_at] at h
    rw [upd_same]
    exact h
  · have := sing_dom h
    subst this
    exact g.e.none np
  · have := sing_dom h
    subst this
    exact .inr fp
/-- x = [..] again, where x is one's own -/
theorem st_reL {M : Ms} {Bs Hs W : Hp} {D : Ends} [Rp α] {s : S} {a : Addr} {P2 : Addr → Ow S} {get : S → List α} {put : S → List α → S} {m : S → Option (List α × S)} {m' : Option (List α × S)} {k : List α × S → Option ρ} {r : ρ} {i : Nat} (l : ∀ p, Lr P (P2 p) (OwL K a) (OwL K p) get put)
    (hm : m'.bind k = some r) (N : Now M Bs Hs P W B H s) (hc : Cso K P te σ B m) (he : m s = m')
    (q : ∀ xs s1 p W1 B1 H1, k (xs, s1) = some r → Now M Bs Hs (P2 p) W1 B1 H1 (put s1 xs) → Ex B B1 → Hs p = none → D.nx (σ.set i (some (.ref p))) H1) : tAsg te (gName i) D σ H := by
  subst he
  obtain ⟨⟨xs, s1⟩, e1, e2⟩ := bd_some hm
  refine hc B H W s (Ex.refl B) N.ex N.w N.d N.p xs s1 e1 _ fun p vs B1 H1 W1 sw p1 f n nw hp pr => ?_
  have N1 := N.step sw p1
  have fp : Hs p = none := N.g.fresh f
  obtain ⟨V1, V2, hV, dV, ⟨us, hv, pu⟩, back⟩ := (l p).open_ W1 B1 s1 p1
  subst hV hv
  have hV2 : V2 p = none := by
    cases hh : V2 p with
    | none => rfl
    | some o => exact absurd nw (uni_dom_r dV (nn hh))
  have dj : Dj (sing p (.lst vs)) V2 := fun c h => by
    have := sing_dom h
    subst this
    exact hV2
  refine q xs s1 p (uni (sing p (.lst vs)) V2) B1 H1 e2 ⟨N1.g, fun c o h => ?_, fun c h => ?_, back _ B1 xs (Ex.refl B1) dj ⟨vs, rfl, pr⟩, fun c h => ?_⟩ sw.g.b fp
  · by_cases ec : c = p
    · subst ec
      rw [uni_l sing_at] at h
      cases h
      exact hp
    · rw [uni_r (sing_ne ec)] at h
      exact N1.w c o (by rw [uni_r (dV.symm c (nn h))]; exact h)
  · rcases uni_dom h with z | z
    · have := sing_dom z
      subst this
      exact n
    · exact N1.d c (uni_dom_r dV z)
  · rcases uni_dom h with z | z
    · have := sing_dom z
      subst this
      exact .inr fp
    · exact N1.f c (uni_dom_r dV z)
end
end Cf

set_option Elab.async false
set_option linter.all false
set_option maxRecDepth 100000
set_option maxHeartbeats 4000000
namespace Cf
open PySem L2
open Rp (rp)
open RpL (rpl)
open Enc (enc)
section
variable {K : Fg} {M : Ms} {Bs Hs W : Hp} {σ : L2.St} {B H B' H' : Hp} {te ta tb tc : TE} {tt tu : TT} {tas : TA} {α β γ δ τ ρ S S' S1 S2 Z R : Type} {P : Ow S} {s : S} {D : Ends} {t u ts : TS} {g : TG}
/-! ### loops whose source changes one's own -/
theorem st_forF_r1S [OwOk P] {m : S → Option (Int × S)} {m' : Option (Int × S)} {b : Int → Z → Option (Fl Z R)} {z0 : Int × S → Z} {k : Fl Z R → Option ρ} {r : ρ} (I : Hp → Z → Hp → L2.St → Hp → Prop)
    (hm : (m'.bind fun p => ((some p.1).bind fun n => prange1 n).bind fun xs => (forF b xs (z0 p)).bind k) = some r) (N : Now M Bs Hs P W B H s) (hc : Cs K P ta σ B m) (he : m s = m')
    (h0 : ∀ Be H1 W1 x s1, Now M Bs Hs P W1 Be H1 s1 → Ex B Be → I Be (z0 (x, s1)) Be σ H1)
    (hs : ∀ Be x z B σ H v c (N : L2.St → Hp → Prop), I Be z B σ H → rp K B v x → b x z = some c → (∀ s2 B2 σ2 H2, c = .nx s2 → I Be s2 B2 σ2 H2 → N σ2 H2) → (∀ s2 B2 σ2 H2, c = .bk s2 → I Be s2 B2 σ2 H2 → D.nx σ2 H2) →
      (∀ r', c = .rt r' → k (.rt r') = some r) → g v σ H fun σ2 H2 => ts { D with nx := N, ct := N, bk := D.nx } σ2 H2)
    (hd : ∀ Be z B σ H, k (.nx z) = some r → I Be z B σ H → D.nx σ H) : tFor (iRng1 (tCons ta tNil)) g ts D σ H := by
  subst he
  obtain ⟨⟨n, s1⟩, e1, hm⟩ := bd_some hm
  obtain ⟨xs, e2, hm⟩ := bd_some hm
  obtain ⟨hb, ex⟩ := if_some (show (if -(2 ^ 62) ≤ n ∧ n < 2 ^ 62 then some (rangeL 0 n) else none) = some xs from e2)
  subst ex
  refine hc B H W s (Ex.refl B) N.ex N.w N.d N.p n s1 e1 _ fun v Be H1 W1 sw p1 hv => ?_
  cases (show v = .int n from hv)
  have hl := rangeL_len 0 n
  rw [Int.sub_zero] at hl
  refine ⟨n, rfl, hb.1, hb.2, forF_run (K := K) (xs := rangeL 0 n) (B := Be) (I Be) (fun i z B σ H hI hi => (by rw [hl] at hi; exact hi)) (fun i z B σ H hI hi => (by rw [hl] at hi; exact hi)) (fun i x z B σ H v H' hI hxi y => ?_) hm (h0 Be H1 W1 n s1 (N.step sw p1) sw.g.b) (fun x z B σ H v c N => hs Be x z B σ H v c N) (fun z B σ H => hd Be z B σ H)⟩
  obtain ⟨eH, ev⟩ := itr_yld _ hxi y
  subst eH
  exact ⟨B, hI, ev⟩
theorem st_forN_r1S [OwOk P] {m : S → Option (Int × S)} {m' : Option (Int × S)} {b : Int → Z → Option Z} {z0 : Int × S → Z} {k : Z → Option ρ} {r : ρ} (I : Hp → Z → Hp → L2.St → Hp → Prop)
    (hm : (m'.bind fun p => ((some p.1).bind fun n => prange1 n).bind fun xs => (forN b xs (z0 p)).bind k) = some r) (N : Now M Bs Hs P W B H s) (hc : Cs K P ta σ B m) (he : m s = m')
    (h0 : ∀ Be H1 W1 x s1, Now M Bs Hs P W1 Be H1 s1 → Ex B Be → I Be (z0 (x, s1)) Be σ H1)
    (hs : ∀ Be x z B σ H v z' (N : L2.St → Hp → Prop), I Be z B σ H → rp K B v x → b x z = some z' → (∀ B2 σ2 H2, I Be z' B2 σ2 H2 → N σ2 H2) → g v σ H fun σ2 H2 => ts { D with nx := N, ct := N, bk := D.nx } σ2 H2)
    (hd : ∀ Be z B σ H, k z = some r → I Be z B σ H → D.nx σ H) : tFor (iRng1 (tCons ta tNil)) g ts D σ H := by
  subst he
  obtain ⟨⟨n, s1⟩, e1, hm⟩ := bd_some hm
  obtain ⟨xs, e2, hm⟩ := bd_some hm
  obtain ⟨hb, ex⟩ := if_some (show (if -(2 ^ 62) ≤ n ∧ n < 2 ^ 62 then some (rangeL 0 n) else none) = some xs from e2)
  subst ex
  refine hc B H W s (Ex.refl B) N.ex N.w N.d N.p n s1 e1 _ fun v Be H1 W1 sw p1 hv => ?_
  cases (show v = .int n from hv)
  have hl := rangeL_len 0 n
  rw [Int.sub_zero] at hl
  refine ⟨n, rfl, hb.1, hb.2, forN_run (K := K) (xs := rangeL 0 n) (B := Be) (I Be) (fun i z B σ H hI hi => (by rw [hl] at hi; exact hi)) (fun i z B σ H hI hi => (by rw [hl] at hi; exact hi)) (fun i x z B σ H v H' hI hxi y => ?_) hm (h0 Be H1 W1 n s1 (N.step sw p1) sw.g.b) (fun x z B σ H v z' N => hs Be x z B σ H v z' N) (fun z B σ H => hd Be z B σ H)⟩
  obtain ⟨eH, ev⟩ := itr_yld _ hxi y
  subst eH
  exact ⟨B, hI, ev⟩
/-! ### range(a, b) -/
theorem st_forF_r2 {mi mi' : Option (Int × Int)} {b : Int → S → Option (Fl S R)} {s0 : S} {k : Fl S R → Option ρ} {r : ρ} (I : Hp → S → Hp → L2.St → Hp → Prop) (hm : ((mi'.bind fun n => prange2 n.1 n.2).bind fun xs => (forF b xs s0).bind k) = some r) (e : Ex B H) (hc : Ca K tas σ B (mi.bind fun n => some (n.1, n.2, ()))) (he : mi = mi')
    (h0 : ∀ Be H1, Gr noM B H Be H1 → I Be s0 Be σ H1)
    (hs : ∀ Be x s B σ H v c (N : L2.St → Hp → Prop), I Be s B σ H → rp K B v x → b x s = some c → (∀ s2 B2 σ2 H2, c = .nx s2 → I Be s2 B2 σ2 H2 → N σ2 H2) → (∀ s2 B2 σ2 H2, c = .bk s2 → I Be s2 B2 σ2 H2 → D.nx σ2 H2) →
      (∀ r', c = .rt r' → k (.rt r') = some r) → g v σ H fun σ2 H2 => ts { D with nx := N, ct := N, bk := D.nx } σ2 H2)
    (hd : ∀ Be s B σ H, k (.nx s) = some r → I Be s B σ H → D.nx σ H) : tFor (iRng2 tas) g ts D σ H := by
  subst he
  obtain ⟨xs, e1, e2⟩ := bd_some hm
  obtain ⟨⟨lo, hi⟩, e3, e4⟩ := bd_some e1
  obtain ⟨hb, ex⟩ := if_some (show (if -(2 ^ 62) ≤ lo ∧ lo < 2 ^ 62 ∧ -(2 ^ 62) ≤ hi ∧ hi < 2 ^ 62 then some (rangeL lo hi) else none) = some xs from e4)
  subst ex
  subst e3
  refine hc B H (Ex.refl B) e (lo, hi, ()) rfl _ fun vs Be H1 g1 hv => ?_
  obtain ⟨v1, _, rfl, h1, v2, _, rfl, h2, h3⟩ := hv
  cases h3
  cases (show v1 = .int lo from h1)
  cases (show v2 = .int hi from h2)
  have hl := rangeL_len lo hi
  refine ⟨lo, hi, rfl, hb, forF_run (K := K) (xs := rangeL lo hi) (B := Be) (I Be) (fun i s B σ H hI hi => (by rw [hl] at hi; exact hi)) (fun i s B σ H hI hi => (by rw [hl] at hi; exact hi)) (fun i x s B σ H v H' hI hxi y => ?_) e2 (h0 Be H1 g1) (fun x s B σ H v c N => hs Be x s B σ H v c N) (fun s B σ H => hd Be s B σ H)⟩
  obtain ⟨eH, ev⟩ := itr_yld _ hxi y
  subst eH
  exact ⟨B, hI, ev⟩
theorem st_forN_r2 {mi mi' : Option (Int × Int)} {b : Int → S → Option S} {s0 : S} {k : S → Option ρ} {r : ρ} (I : Hp → S → Hp → L2.St → Hp → Prop) (hm : ((mi'.bind fun n => prange2 n.1 n.2).bind fun xs => (forN b xs s0).bind k) = some r) (e : Ex B H) (hc : Ca K tas σ B (mi.bind fun n => some (n.1, n.2, ()))) (he : mi = mi')
    (h0 : ∀ Be H1, Gr noM B H Be H1 → I Be s0 Be σ H1)
    (hs : ∀ Be x s B σ H v s' (N : L2.St → Hp → Prop), I Be s B σ H → rp K B v x → b x s = some s' → (∀ B2 σ2 H2, I Be s' B2 σ2 H2 → N σ2 H2) → g v σ H fun σ2 H2 => ts { D with nx := N, ct := N, bk := D.nx } σ2 H2)
    (hd : ∀ Be s B σ H, k s = some r → I Be s B σ H → D.nx σ H) : tFor (iRng2 tas) g ts D σ H := by
  subst he
  obtain ⟨xs, e1, e2⟩ := bd_some hm
  obtain ⟨⟨lo, hi⟩, e3, e4⟩ := bd_some e1
  obtain ⟨hb, ex⟩ := if_some (show (if -(2 ^ 62) ≤ lo ∧ lo < 2 ^ 62 ∧ -(2 ^ 62) ≤ hi ∧ hi < 2 ^ 62 then some (rangeL lo hi) else none) = some xs from e4)
  subst ex
  subst e3
  refine hc B H (Ex.refl B) e (lo, hi, ()) rfl _ fun vs Be H1 g1 hv => ?_
  obtain ⟨v1, _, rfl, h1, v2, _, rfl, h2, h3⟩ := hv
  cases h3
  cases (show v1 = .int lo from h1)
  cases (show v2 = .int hi from h2)
  have hl := rangeL_len lo hi
  refine ⟨lo, hi, rfl, hb, forN_run (K := K) (xs := rangeL lo hi) (B := Be) (I Be) (fun i s B σ H hI hi => (by rw [hl] at hi; exact hi)) (fun i s B σ H hI hi => (by rw [hl] at hi; exact hi)) (fun i x s B σ H v H' hI hxi y => ?_) e2 (h0 Be H1 g1) (fun x s B σ H v s' N => hs Be x s B σ H v s' N) (fun s B σ H => hd Be s B σ H)⟩
  obtain ⟨eH, ev⟩ := itr_yld _ hxi y
  subst eH
  exact ⟨B, hI, ev⟩
/-! ### x += e -/
def Ipp (K : Fg) {α β γ : Type} [Rp α] [Rp β] [Rp γ] (ti : TIp) (f : α → β → Option γ) : Prop := ∀ B H x y z vx vy, Ex B H → rp K B vx x → rp K B vy y → f x y = some z → ∀ Q : VK, (∀ v, rp K B v z → Q v H) → ti vx vy H Q
theorem r2_ipadd : Ipp K (ipI fun i j => i + j) (fun i j : Int => some (i + j)) := fun B H x y z vx vy e hx hy ez Q q => by
  cases ez
  exact ⟨x, y, hx, hy, q _ rfl⟩
theorem r2_ipsub : Ipp K (ipI fun i j => i - j) (fun i j : Int => some (i - j)) := fun B H x y z vx vy e hx hy ez Q q => by
  cases ez
  exact ⟨x, y, hx, hy, q _ rfl⟩
theorem st_aug [Rp α] [Rp β] [Rp γ] {i : Nat} {v0 : V} {x0 : α} {ti : TIp} {f : α → β → Option γ} {m : Option β} {m' : Option γ} {k : γ → Option ρ} {r : ρ} (hm : m'.bind k = some r) (e : Ex B H) (hs : σ[i]? = some (some v0)) (h0 : rp K B v0 x0) (hf : Ipp K ti f) (hc : Cp K te σ B m) (he : (m.bind fun y => f x0 y) = m')
    (q : ∀ x v B1 H1, k x = some r → Gr noM B H B1 H1 → rp K B1 v x → D.nx (σ.set i (some v)) H1) : tAug i te ti D σ H := by
  subst he
  obtain ⟨z, e0, e3⟩ := bd_some hm
  obtain ⟨y, e1, e2⟩ := bd_some e0
  refine ⟨v0, hs, hc B H (Ex.refl B) e y e1 _ fun v B1 H1 g hv => ?_⟩
  exact hf B1 H1 x0 y z v0 v g.e (Rp.mono g.b h0) hv e2 _ fun w hw => q z w B1 H1 e3 g hw
end
end Cf
namespace Cf
open PySem L2
/-- an object of one's own changes -/
theorem sw_upd {W B H : Hp} {p : Addr} {o : HO} (e : Ex B H) (w : Ex W H) (d : Dj W B) (hp : W p ≠ none) : Sw W B H (upd W p o) B (upd H p o) :=
  ⟨Gr.mut e hp (d p hp) (w.nn hp), w.two, fun a h => by
    by_cases ea : a = p
    · subst ea
      exact d a hp
    · rw [upd_ne ea] at h
      exact d a h, fun a h => by
    by_cases ea : a = p
    · subst ea
      exact .inl hp
    · rw [upd_ne ea] at h
      exact .inl h⟩
/-- a new object of one's own -/
theorem sw_new {W B H : Hp} {p : Addr} {o : HO} (e : Ex B H) (w : Ex W H) (d : Dj W B) (hp : H p = none) : Sw W B H (upd W p o) B (upd H p o) :=
  ⟨Gr.newM e hp, w.two, fun a h => by
    by_cases ea : a = p
    · subst ea
      exact e.none hp
    · rw [upd_ne ea] at h
      exact d a h, fun a h => by
    by_cases ea : a = p
    · subst ea
      exact .inr hp
    · rw [upd_ne ea] at h
      exact .inl h⟩
end Cf

set_option Elab.async false
set_option linter.all false
set_option maxRecDepth 100000
set_option maxHeartbeats 4000000
namespace Cf
open PySem L2
open Rp (rp)
open RpL (rpl)
open Enc (enc)
structure T6 (α β γ δ ε ζ : Type) where
  a : α
  b : β
  c : γ
  d : δ
  e : ε
  f : ζ
  deriving DecidableEq
instance {α β γ δ ε ζ : Type} [Rp α] [Rp β] [Rp γ] [Rp δ] [Rp ε] [Rp ζ] : Rp (T6 α β γ δ ε ζ) := ⟨fun K B v x => ∃ a u0 u1 u2 u3 u4 u5, v = .ref a ∧ SqT K B a [u0, u1, u2, u3, u4, u5] ∧ rp K B u0 x.a ∧ rp K B u1 x.b ∧ rp K B u2 x.c ∧ rp K B u3 x.d ∧ rp K B u4 x.e ∧ rp K B u5 x.f, fun e ⟨a, u0, u1, u2, u3, u4, u5, h, s, p0, p1, p2, p3, p4, p5⟩ => ⟨a, u0, u1, u2, u3, u4, u5, h, sqt_mono e s, Rp.mono e p0, Rp.mono e p1, Rp.mono e p2, Rp.mono e p3, Rp.mono e p4, Rp.mono e p5⟩⟩
instance {α β γ δ ε ζ : Type} [Enc α] [Enc β] [Enc γ] [Enc δ] [Enc ε] [Enc ζ] : Enc (T6 α β γ δ ε ζ) where
  enc := fun x => PyData.tuple [enc x.a, enc x.b, enc x.c, enc x.d, enc x.e, enc x.f]
  to := fun h => by
    obtain ⟨a, u0, u1, u2, u3, u4, u5, rfl, s, p0, p1, p2, p3, p4, p5⟩ := h
    exact .tup s (.cons (Enc.to p0) (.cons (Enc.to p1) (.cons (Enc.to p2) (.cons (Enc.to p3) (.cons (Enc.to p4) (.cons (Enc.to p5) .nil))))))
instance {α β γ δ ε : Type} [Rp α] [Rp β] [Rp γ] [Rp δ] [Rp ε] [Flat α] [Flat β] [Flat γ] [Flat δ] [Flat ε] : Flat (T5 α β γ δ ε) := ⟨fun e ⟨a, u0, u1, u2, u3, u4, h, s, p0, p1, p2, p3, p4⟩ => ⟨a, u0, u1, u2, u3, u4, h, sqt_flat e s, Flat.flat e p0, Flat.flat e p1, Flat.flat e p2, Flat.flat e p3, Flat.flat e p4⟩⟩
instance {α β γ δ ε : Type} [Rp α] [Rp β] [Rp γ] [Rp δ] [Rp ε] : Nn (T5 α β γ δ ε) := ⟨fun ⟨a, u0, u1, u2, u3, u4, h, _⟩ z => by rw [z] at h; exact nomatch h⟩
instance {α β γ δ ε : Type} [Eqv α] [Eqv β] [Eqv γ] [Eqv δ] [Eqv ε] : Eqn (T5 α β γ δ ε) where
  pl := fun x => by
    show ((enc x.a).plain && ((enc x.b).plain && ((enc x.c).plain && ((enc x.d).plain && ((enc x.e).plain && true))))) = true
    rw [Eqv.pl, Eqv.pl, Eqv.pl, Eqv.pl, Eqv.pl]
    rfl
  deep := max (Eqv.deep α) (max (Eqv.deep β) (max (Eqv.deep γ) (max (Eqv.deep δ) (Eqv.deep ε)))) + 1
  dep := fun x => Nat.succ_le_succ (by
    show max (enc x.a).depth (max (enc x.b).depth (max (enc x.c).depth (max (enc x.d).depth (max (enc x.e).depth (0))))) ≤ _
    have h0 := Eqv.dep x.a
    have h1 := Eqv.dep x.b
    have h2 := Eqv.dep x.c
    have h3 := Eqv.dep x.d
    have h4 := Eqv.dep x.e
    omega)
  dec := by
    have : DecidableEq α := Eqv.dec
    have : DecidableEq β := Eqv.dec
    have : DecidableEq γ := Eqv.dec
    have : DecidableEq δ := Eqv.dec
    have : DecidableEq ε := Eqv.dec
    infer_instance
  eqv := fun x y => by
    show (PyData.eqv (enc x.a) (enc y.a) && (PyData.eqv (enc x.b) (enc y.b) && (PyData.eqv (enc x.c) (enc y.c) && (PyData.eqv (enc x.d) (enc y.d) && (PyData.eqv (enc x.e) (enc y.e) && true))))) = true ↔ _
    rw [Bool.and_eq_true, Bool.and_eq_true, Bool.and_eq_true,  and3, Eqv.eqv, Eqv.eqv, Eqv.eqv, Eqv.eqv, Eqv.eqv]
    cases x
    cases y
    simp
  nn := fun _ => ⟨rfl, rfl⟩
instance {α β γ δ ε ζ : Type} [Rp α] [Rp β] [Rp γ] [Rp δ] [Rp ε] [Rp ζ] [Flat α] [Flat β] [Flat γ] [Flat δ] [Flat ε] [Flat ζ] : Flat (T6 α β γ δ ε ζ) := ⟨fun e ⟨a, u0, u1, u2, u3, u4, u5, h, s, p0, p1, p2, p3, p4, p5⟩ => ⟨a, u0, u1, u2, u3, u4, u5, h, sqt_flat e s, Flat.flat e p0, Flat.flat e p1, Flat.flat e p2, Flat.flat e p3, Flat.flat e p4, Flat.flat e p5⟩⟩
instance {α β γ δ ε ζ : Type} [Rp α] [Rp β] [Rp γ] [Rp δ] [Rp ε] [Rp ζ] : Nn (T6 α β γ δ ε ζ) := ⟨fun ⟨a, u0, u1, u2, u3, u4, u5, h, _⟩ z => by rw [z] at h; exact nomatch h⟩
instance {α β γ δ ε ζ : Type} [Eqv α] [Eqv β] [Eqv γ] [Eqv δ] [Eqv ε] [Eqv ζ] : Eqn (T6 α β γ δ ε ζ) where
  pl := fun x => by
    show ((enc x.a).plain && ((enc x.b).plain && ((enc x.c).plain && ((enc x.d).plain && ((enc x.e).plain && ((enc x.f).plain && true)))))) = true
    rw [Eqv.pl, Eqv.pl, Eqv.pl, Eqv.pl, Eqv.pl, Eqv.pl]
    rfl
  deep := max (Eqv.deep α) (max (Eqv.deep β) (max (Eqv.deep γ) (max (Eqv.deep δ) (max (Eqv.deep ε) (Eqv.deep ζ))))) + 1
  dep := fun x => Nat.succ_le_succ (by
    show max (enc x.a).depth (max (enc x.b).depth (max (enc x.c).depth (max (enc x.d).depth (max (enc x.e).depth (max (enc x.f).depth (0)))))) ≤ _
    have h0 := Eqv.dep x.a
    have h1 := Eqv.dep x.b
    have h2 := Eqv.dep x.c
    have h3 := Eqv.dep x.d
    have h4 := Eqv.dep x.e
    have h5 := Eqv.dep x.f
    omega)
  dec := by
    have : DecidableEq α := Eqv.dec
    have : DecidableEq β := Eqv.dec
    have : DecidableEq γ := Eqv.dec
    have : DecidableEq δ := Eqv.dec
    have : DecidableEq ε := Eqv.dec
    have : DecidableEq ζ := Eqv.dec
    infer_instance
  eqv := fun x y => by
    show (PyData.eqv (enc x.a) (enc y.a) && (PyData.eqv (enc x.b) (enc y.b) && (PyData.eqv (enc x.c) (enc y.c) && (PyData.eqv (enc x.d) (enc y.d) && (PyData.eqv (enc x.e) (enc y.e) && (PyData.eqv (enc x.f) (enc y.f) && true)))))) = true ↔ _
    rw [Bool.and_eq_true, Bool.and_eq_true, Bool.and_eq_true, Bool.and_eq_true,  and3, Eqv.eqv, Eqv.eqv, Eqv.eqv, Eqv.eqv, Eqv.eqv, Eqv.eqv]
    cases x
    cases y
    simp
  nn := fun _ => ⟨rfl, rfl⟩
section
variable {K : Fg} {σ : L2.St} {B H B' H' : Hp} {te ta tb tc : TE} {tt tu : TT} {tas : TA} {α β γ δ ε ζ τ ρ S : Type} {P : Ow S}
theorem cp_tup4 [Rp α] [Rp β] [Rp γ] [Rp δ] {m : Option (α × β × γ × δ × Unit)} (h : Ca K tas σ B m) : Cp K (tTup tas) σ B (m.bind fun t => some (T4.mk t.1 t.2.1 t.2.2.1 t.2.2.2.1)) := fun B1 H1 b e z em Q q => by
  obtain ⟨t, e1, em⟩ := bd_some em
  cases em
  refine h B1 H1 b e t e1 _ fun vs B2 H2 g2 hv => ?_
  obtain ⟨v0, _, rfl, h0, v1, _, rfl, h1, v2, _, rfl, h2, v3, _, rfl, h3, hz⟩ := hv
  cases hz
  exact ⟨by show 4 ≤ sizeLine; decide, fun p np => q _ (upd B2 p (.tup [v0, v1, v2, v3])) _ (g2.trans (Gr.new g2.e np)) ⟨p, v0, v1, v2, v3, rfl, .inl (.inl upd_same), Rp.mono (Ex.new (g2.e.none np)) h0, Rp.mono (Ex.new (g2.e.none np)) h1, Rp.mono (Ex.new (g2.e.none np)) h2, Rp.mono (Ex.new (g2.e.none np)) h3⟩⟩
theorem cs_tup4 [Rp α] [Rp β] [Rp γ] [Rp δ] [OwOk P] {m : S → Option ((α × β × γ × δ × Unit) × S)} (h : Csa K P tas σ B m) : Cs K P (tTup tas) σ B (fun s => (m s).bind fun t => some (T4.mk t.1.1 t.1.2.1 t.1.2.2.1 t.1.2.2.2.1, t.2)) := fun B1 H1 W s b e w d p z s' em Q q => by
  obtain ⟨⟨t, s1⟩, e1, em⟩ := bd_some em
  cases em
  refine h B1 H1 W s b e w d p t _ e1 _ fun vs B2 H2 W2 sw p2 hv => ?_
  obtain ⟨v0, _, rfl, h0, v1, _, rfl, h1, v2, _, rfl, h2, v3, _, rfl, h3, hz⟩ := hv
  cases hz
  exact ⟨by show 4 ≤ sizeLine; decide, fun c np => q _ (upd B2 c (.tup [v0, v1, v2, v3])) _ W2 (sw.trans (Sw.pure (Gr.new sw.g.e np) sw.w sw.d)) (OwOk.mono (Ex.new (sw.g.e.none np)) p2) ⟨c, v0, v1, v2, v3, rfl, .inl (.inl upd_same), Rp.mono (Ex.new (sw.g.e.none np)) h0, Rp.mono (Ex.new (sw.g.e.none np)) h1, Rp.mono (Ex.new (sw.g.e.none np)) h2, Rp.mono (Ex.new (sw.g.e.none np)) h3⟩⟩
theorem cp_tup5 [Rp α] [Rp β] [Rp γ] [Rp δ] [Rp ε] {m : Option (α × β × γ × δ × ε × Unit)} (h : Ca K tas σ B m) : Cp K (tTup tas) σ B (m.bind fun t => some (T5.mk t.1 t.2.1 t.2.2.1 t.2.2.2.1 t.2.2.2.2.1)) := fun B1 H1 b e z em Q q => by
  obtain ⟨t, e1, em⟩ := bd_some em
  cases em
  refine h B1 H1 b e t e1 _ fun vs B2 H2 g2 hv => ?_
  obtain ⟨v0, _, rfl, h0, v1, _, rfl, h1, v2, _, rfl, h2, v3, _, rfl, h3, v4, _, rfl, h4, hz⟩ := hv
  cases hz
  exact ⟨by show 5 ≤ sizeLine; decide, fun p np => q _ (upd B2 p (.tup [v0, v1, v2, v3, v4])) _ (g2.trans (Gr.new g2.e np)) ⟨p, v0, v1, v2, v3, v4, rfl, .inl (.inl upd_same), Rp.mono (Ex.new (g2.e.none np)) h0, Rp.mono (Ex.new (g2.e.none np)) h1, Rp.mono (Ex.new (g2.e.none np)) h2, Rp.mono (Ex.new (g2.e.none np)) h3, Rp.mono (Ex.new (g2.e.none np)) h4⟩⟩
theorem cs_tup5 [Rp α] [Rp β] [Rp γ] [Rp δ] [Rp ε] [OwOk P] {m : S → Option ((α × β × γ × δ × ε × Unit) × S)} (h : Csa K P tas σ B m) : Cs K P (tTup tas) σ B (fun s => (m s).bind fun t => some (T5.mk t.1.1 t.1.2.1 t.1.2.2.1 t.1.2.2.2.1 t.1.2.2.2.2.1, t.2)) := fun B1 H1 W s b e w d p z s' em Q q => by
  obtain ⟨⟨t, s1⟩, e1, em⟩ := bd_some em
  cases em
  refine h B1 H1 W s b e w d p t _ e1 _ fun vs B2 H2 W2 sw p2 hv => ?_
  obtain ⟨v0, _, rfl, h0, v1, _, rfl, h1, v2, _, rfl, h2, v3, _, rfl, h3, v4, _, rfl, h4, hz⟩ := hv
  cases hz
  exact ⟨by show 5 ≤ sizeLine; decide, fun c np => q _ (upd B2 c (.tup [v0, v1, v2, v3, v4])) _ W2 (sw.trans (Sw.pure (Gr.new sw.g.e np) sw.w sw.d)) (OwOk.mono (Ex.new (sw.g.e.none np)) p2) ⟨c, v0, v1, v2, v3, v4, rfl, .inl (.inl upd_same), Rp.mono (Ex.new (sw.g.e.none np)) h0, Rp.mono (Ex.new (sw.g.e.none np)) h1, Rp.mono (Ex.new (sw.g.e.none np)) h2, Rp.mono (Ex.new (sw.g.e.none np)) h3, Rp.mono (Ex.new (sw.g.e.none np)) h4⟩⟩
theorem cp_tup6 [Rp α] [Rp β] [Rp γ] [Rp δ] [Rp ε] [Rp ζ] {m : Option (α × β × γ × δ × ε × ζ × Unit)} (h : Ca K tas σ B m) : Cp K (tTup tas) σ B (m.bind fun t => some (T6.mk t.1 t.2.1 t.2.2.1 t.2.2.2.1 t.2.2.2.2.1 t.2.2.2.2.2.1)) := fun B1 H1 b e z em Q q => by
  obtain ⟨t, e1, em⟩ := bd_some em
  cases em
  refine h B1 H1 b e t e1 _ fun vs B2 H2 g2 hv => ?_
  obtain ⟨v0, _, rfl, h0, v1, _, rfl, h1, v2, _, rfl, h2, v3, _, rfl, h3, v4, _, rfl, h4, v5, _, rfl, h5, hz⟩ := hv
  cases hz
  exact ⟨by show 6 ≤ sizeLine; decide, fun p np => q _ (upd B2 p (.tup [v0, v1, v2, v3, v4, v5])) _ (g2.trans (Gr.new g2.e np)) ⟨p, v0, v1, v2, v3, v4, v5, rfl, .inl (.inl upd_same), Rp.mono (Ex.new (g2.e.none np)) h0, Rp.mono (Ex.new (g2.e.none np)) h1, Rp.mono (Ex.new (g2.e.none np)) h2, Rp.mono (Ex.new (g2.e.none np)) h3, Rp.mono (Ex.new (g2.e.none np)) h4, Rp.mono (Ex.new (g2.e.none np)) h5⟩⟩
theorem cs_tup6 [Rp α] [Rp β] [Rp γ] [Rp δ] [Rp ε] [Rp ζ] [OwOk P] {m : S → Option ((α × β × γ × δ × ε × ζ × Unit) × S)} (h : Csa K P tas σ B m) : Cs K P (tTup tas) σ B (fun s => (m s).bind fun t => some (T6.mk t.1.1 t.1.2.1 t.1.2.2.1 t.1.2.2.2.1 t.1.2.2.2.2.1 t.1.2.2.2.2.2.1, t.2)) := fun B1 H1 W s b e w d p z s' em Q q => by
  obtain ⟨⟨t, s1⟩, e1, em⟩ := bd_some em
  cases em
  refine h B1 H1 W s b e w d p t _ e1 _ fun vs B2 H2 W2 sw p2 hv => ?_
  obtain ⟨v0, _, rfl, h0, v1, _, rfl, h1, v2, _, rfl, h2, v3, _, rfl, h3, v4, _, rfl, h4, v5, _, rfl, h5, hz⟩ := hv
  cases hz
  exact ⟨by show 6 ≤ sizeLine; decide, fun c np => q _ (upd B2 c (.tup [v0, v1, v2, v3, v4, v5])) _ W2 (sw.trans (Sw.pure (Gr.new sw.g.e np) sw.w sw.d)) (OwOk.mono (Ex.new (sw.g.e.none np)) p2) ⟨c, v0, v1, v2, v3, v4, v5, rfl, .inl (.inl upd_same), Rp.mono (Ex.new (sw.g.e.none np)) h0, Rp.mono (Ex.new (sw.g.e.none np)) h1, Rp.mono (Ex.new (sw.g.e.none np)) h2, Rp.mono (Ex.new (sw.g.e.none np)) h3, Rp.mono (Ex.new (sw.g.e.none np)) h4, Rp.mono (Ex.new (sw.g.e.none np)) h5⟩⟩
theorem cp_item3_0 [Rp α] [Rp β] [Rp γ] {m : Option (T3 α β γ)} (h : Cp K ta σ B m) : Cp K (tOp (rIxT K) ta (tC (.int 0))) σ B (m.bind fun x => some x.a) := cp_ixT (fun h => by obtain ⟨a, u0, u1, u2, h, s, p0, p1, p2⟩ := h; exact ⟨a, _, u0, h, s, rfl, p0⟩) h
theorem cp_item3_1 [Rp α] [Rp β] [Rp γ] {m : Option (T3 α β γ)} (h : Cp K ta σ B m) : Cp K (tOp (rIxT K) ta (tC (.int 1))) σ B (m.bind fun x => some x.b) := cp_ixT (fun h => by obtain ⟨a, u0, u1, u2, h, s, p0, p1, p2⟩ := h; exact ⟨a, _, u1, h, s, rfl, p1⟩) h
theorem cp_item3_2 [Rp α] [Rp β] [Rp γ] {m : Option (T3 α β γ)} (h : Cp K ta σ B m) : Cp K (tOp (rIxT K) ta (tC (.int 2))) σ B (m.bind fun x => some x.c) := cp_ixT (fun h => by obtain ⟨a, u0, u1, u2, h, s, p0, p1, p2⟩ := h; exact ⟨a, _, u2, h, s, rfl, p2⟩) h
theorem isi_tuple3 [Rp α] [Rp β] [Rp γ] : Isi (T3 α β γ) K "tuple" (fun _ => true) := fun h => by
  obtain ⟨a, u0, u1, u2, rfl, s, _⟩ := h
  exact ⟨_, tyx_sqt s, kit_tuple_tuple⟩
theorem isi_otuple3 [Rp α] [Rp β] [Rp γ] : Isi (Option (T3 α β γ)) K "tuple" (fun x => x.isSome) := fun {B v x} h => by
  cases x with
  | none =>
    cases (show v = V.non from h)
    exact ⟨_, .base .non, kit_NoneType_tuple⟩
  | some y =>
    obtain ⟨a, u0, u1, u2, rfl, s, _⟩ := (show rp K B v y from h)
    exact ⟨_, tyx_sqt s, kit_tuple_tuple⟩
theorem cp_item4_0 [Rp α] [Rp β] [Rp γ] [Rp δ] {m : Option (T4 α β γ δ)} (h : Cp K ta σ B m) : Cp K (tOp (rIxT K) ta (tC (.int 0))) σ B (m.bind fun x => some x.a) := cp_ixT (fun h => by obtain ⟨a, u0, u1, u2, u3, h, s, p0, p1, p2, p3⟩ := h; exact ⟨a, _, u0, h, s, rfl, p0⟩) h
theorem cp_item4_1 [Rp α] [Rp β] [Rp γ] [Rp δ] {m : Option (T4 α β γ δ)} (h : Cp K ta σ B m) : Cp K (tOp (rIxT K) ta (tC (.int 1))) σ B (m.bind fun x => some x.b) := cp_ixT (fun h => by obtain ⟨a, u0, u1, u2, u3, h, s, p0, p1, p2, p3⟩ := h; exact ⟨a, _, u1, h, s, rfl, p1⟩) h
theorem cp_item4_2 [Rp α] [Rp β] [Rp γ] [Rp δ] {m : Option (T4 α β γ δ)} (h : Cp K ta σ B m) : Cp K (tOp (rIxT K) ta (tC (.int 2))) σ B (m.bind fun x => some x.c) := cp_ixT (fun h => by obtain ⟨a, u0, u1, u2, u3, h, s, p0, p1, p2, p3⟩ := h; exact ⟨a, _, u2, h, s, rfl, p2⟩) h
theorem cp_item4_3 [Rp α] [Rp β] [Rp γ] [Rp δ] {m : Option (T4 α β γ δ)} (h : Cp K ta σ B m) : Cp K (tOp (rIxT K) ta (tC (.int 3))) σ B (m.bind fun x => some x.d) := cp_ixT (fun h => by obtain ⟨a, u0, u1, u2, u3, h, s, p0, p1, p2, p3⟩ := h; exact ⟨a, _, u3, h, s, rfl, p3⟩) h
theorem isi_tuple4 [Rp α] [Rp β] [Rp γ] [Rp δ] : Isi (T4 α β γ δ) K "tuple" (fun _ => true) := fun h => by
  obtain ⟨a, u0, u1, u2, u3, rfl, s, _⟩ := h
  exact ⟨_, tyx_sqt s, kit_tuple_tuple⟩
theorem isi_otuple4 [Rp α] [Rp β] [Rp γ] [Rp δ] : Isi (Option (T4 α β γ δ)) K "tuple" (fun x => x.isSome) := fun {B v x} h => by
  cases x with
  | none =>
    cases (show v = V.non from h)
    exact ⟨_, .base .non, kit_NoneType_tuple⟩
  | some y =>
    obtain ⟨a, u0, u1, u2, u3, rfl, s, _⟩ := (show rp K B v y from h)
    exact ⟨_, tyx_sqt s, kit_tuple_tuple⟩
theorem cp_item5_0 [Rp α] [Rp β] [Rp γ] [Rp δ] [Rp ε] {m : Option (T5 α β γ δ ε)} (h : Cp K ta σ B m) : Cp K (tOp (rIxT K) ta (tC (.int 0))) σ B (m.bind fun x => some x.a) := cp_ixT (fun h => by obtain ⟨a, u0, u1, u2, u3, u4, h, s, p0, p1, p2, p3, p4⟩ := h; exact ⟨a, _, u0, h, s, rfl, p0⟩) h
theorem cp_item5_1 [Rp α] [Rp β] [Rp γ] [Rp δ] [Rp ε] {m : Option (T5 α β γ δ ε)} (h : Cp K ta σ B m) : Cp K (tOp (rIxT K) ta (tC (.int 1))) σ B (m.bind fun x => some x.b) := cp_ixT (fun h => by obtain ⟨a, u0, u1, u2, u3, u4, h, s, p0, p1, p2, p3, p4⟩ := h; exact ⟨a, _, u1, h, s, rfl, p1⟩) h
theorem cp_item5_2 [Rp α] [Rp β] [Rp γ] [Rp δ] [Rp ε] {m : Option (T5 α β γ δ ε)} (h : Cp K ta σ B m) : Cp K (tOp (rIxT K) ta (tC (.int 2))) σ B (m.bind fun x => some x.c) := cp_ixT (fun h => by obtain ⟨a, u0, u1, u2, u3, u4, h, s, p0, p1, p2, p3, p4⟩ := h; exact ⟨a, _, u2, h, s, rfl, p2⟩) h
theorem cp_item5_3 [Rp α] [Rp β] [Rp γ] [Rp δ] [Rp ε] {m : Option (T5 α β γ δ ε)} (h : Cp K ta σ B m) : Cp K (tOp (rIxT K) ta (tC (.int 3))) σ B (m.bind fun x => some x.d) := cp_ixT (fun h => by obtain ⟨a, u0, u1, u2, u3, u4, h, s, p0, p1, p2, p3, p4⟩ := h; exact ⟨a, _, u3, h, s, rfl, p3⟩) h
theorem cp_item5_4 [Rp α] [Rp β] [Rp γ] [Rp δ] [Rp ε] {m : Option (T5 α β γ δ ε)} (h : Cp K ta σ B m) : Cp K (tOp (rIxT K) ta (tC (.int 4))) σ B (m.bind fun x => some x.e) := cp_ixT (fun h => by obtain ⟨a, u0, u1, u2, u3, u4, h, s, p0, p1, p2, p3, p4⟩ := h; exact ⟨a, _, u4, h, s, rfl, p4⟩) h
theorem isi_tuple5 [Rp α] [Rp β] [Rp γ] [Rp δ] [Rp ε] : Isi (T5 α β γ δ ε) K "tuple" (fun _ => true) := fun h => by
  obtain ⟨a, u0, u1, u2, u3, u4, rfl, s, _⟩ := h
  exact ⟨_, tyx_sqt s, kit_tuple_tuple⟩
theorem isi_otuple5 [Rp α] [Rp β] [Rp γ] [Rp δ] [Rp ε] : Isi (Option (T5 α β γ δ ε)) K "tuple" (fun x => x.isSome) := fun {B v x} h => by
  cases x with
  | none =>
    cases (show v = V.non from h)
    exact ⟨_, .base .non, kit_NoneType_tuple⟩
  | some y =>
    obtain ⟨a, u0, u1, u2, u3, u4, rfl, s, _⟩ := (show rp K B v y from h)
    exact ⟨_, tyx_sqt s, kit_tuple_tuple⟩
theorem cp_item6_0 [Rp α] [Rp β] [Rp γ] [Rp δ] [Rp ε] [Rp ζ] {m : Option (T6 α β γ δ ε ζ)} (h : Cp K ta σ B m) : Cp K (tOp (rIxT K) ta (tC (.int 0))) σ B (m.bind fun x => some x.a) := cp_ixT (fun h => by obtain ⟨a, u0, u1, u2, u3, u4, u5, h, s, p0, p1, p2, p3, p4, p5⟩ := h; exact ⟨a, _, u0, h, s, rfl, p0⟩) h
theorem cp_item6_1 [Rp α] [Rp β] [Rp γ] [Rp δ] [Rp ε] [Rp ζ] {m : Option (T6 α β γ δ ε ζ)} (h : Cp K ta σ B m) : Cp K (tOp (rIxT K) ta (tC (.int 1))) σ B (m.bind fun x => some x.b) := cp_ixT (fun h => by obtain ⟨a, u0, u1, u2, u3, u4, u5, h, s, p0, p1, p2, p3, p4, p5⟩ := h; exact ⟨a, _, u1, h, s, rfl, p1⟩) h
theorem cp_item6_2 [Rp α] [Rp β] [Rp γ] [Rp δ] [Rp ε] [Rp ζ] {m : Option (T6 α β γ δ ε ζ)} (h : Cp K ta σ B m) : Cp K (tOp (rIxT K) ta (tC (.int 2))) σ B (m.bind fun x => some x.c) := cp_ixT (fun h => by obtain ⟨a, u0, u1, u2, u3, u4, u5, h, s, p0, p1, p2, p3, p4, p5⟩ := h; exact ⟨a, _, u2, h, s, rfl, p2⟩) h
theorem cp_item6_3 [Rp α] [Rp β] [Rp γ] [Rp δ] [Rp ε] [Rp ζ] {m : Option (T6 α β γ δ ε ζ)} (h : Cp K ta σ B m) : Cp K (tOp (rIxT K) ta (tC (.int 3))) σ B (m.bind fun x => some x.d) := cp_ixT (fun h => by obtain ⟨a, u0, u1, u2, u3, u4, u5, h, s, p0, p1, p2, p3, p4, p5⟩ := h; exact ⟨a, _, u3, h, s, rfl, p3⟩) h
theorem cp_item6_4 [Rp α] [Rp β] [Rp γ] [Rp δ] [Rp ε] [Rp ζ] {m : Option (T6 α β γ δ ε ζ)} (h : Cp K ta σ B m) : Cp K (tOp (rIxT K) ta (tC (.int 4))) σ B (m.bind fun x => some x.e) := cp_ixT (fun h => by obtain ⟨a, u0, u1, u2, u3, u4, u5, h, s, p0, p1, p2, p3, p4, p5⟩ := h; exact ⟨a, _, u4, h, s, rfl, p4⟩) h
theorem cp_item6_5 [Rp α] [Rp β] [Rp γ] [Rp δ] [Rp ε] [Rp ζ] {m : Option (T6 α β γ δ ε ζ)} (h : Cp K ta σ B m) : Cp K (tOp (rIxT K) ta (tC (.int 5))) σ B (m.bind fun x => some x.f) := cp_ixT (fun h => by obtain ⟨a, u0, u1, u2, u3, u4, u5, h, s, p0, p1, p2, p3, p4, p5⟩ := h; exact ⟨a, _, u5, h, s, rfl, p5⟩) h
theorem isi_tuple6 [Rp α] [Rp β] [Rp γ] [Rp δ] [Rp ε] [Rp ζ] : Isi (T6 α β γ δ ε ζ) K "tuple" (fun _ => true) := fun h => by
  obtain ⟨a, u0, u1, u2, u3, u4, u5, rfl, s, _⟩ := h
  exact ⟨_, tyx_sqt s, kit_tuple_tuple⟩
theorem isi_otuple6 [Rp α] [Rp β] [Rp γ] [Rp δ] [Rp ε] [Rp ζ] : Isi (Option (T6 α β γ δ ε ζ)) K "tuple" (fun x => x.isSome) := fun {B v x} h => by
  cases x with
  | none =>
    cases (show v = V.non from h)
    exact ⟨_, .base .non, kit_NoneType_tuple⟩
  | some y =>
    obtain ⟨a, u0, u1, u2, u3, u4, u5, rfl, s, _⟩ := (show rp K B v y from h)
    exact ⟨_, tyx_sqt s, kit_tuple_tuple⟩
end
end Cf

set_option Elab.async false
set_option linter.all false
set_option maxRecDepth 100000
set_option maxHeartbeats 4000000
namespace Cf
open PySem L2
open Rp (rp)
open RpL (rpl)
open Enc (enc)
/-! ### objects of one's own whose attributes are values -/
def OwRec {τ : Type} [RpL τ] (K : Fg) (C : Str) (nm : List Str) (a : Addr) : Ow τ := fun W B s => ∃ dx vs, W = sing a (.ins (He.ga K C) dx (nm.zip vs)) ∧ vs.length = nm.length ∧ rpl K B vs s
instance {τ : Type} [RpL τ] {K : Fg} {C : Str} {nm : List Str} {a : Addr} : OwOk (OwRec (τ := τ) K C nm a) := ⟨fun e ⟨dx, vs, h, n, r⟩ => ⟨dx, vs, h, n, RpL.mono e r⟩, fun {W B s b o} ⟨dx, vs, h, n, r⟩ e => by
  subst h
  have := sing_dom (nn e)
  subst this
  rw [sing_at] at e
  cases e
  rfl⟩
structure Fd {τ γ : Type} [RpL τ] [Rp γ] (nm : List Str) (f : Str) (get : τ → γ) (put : τ → γ → τ) : Prop where
  g : ∀ {K : Fg} {B : Hp} {vs : List V} {s : τ}, rpl K B vs s → ∃ u, (nm.zip vs).lookup f = some u ∧ rp K B u (get s)
  p : ∀ {K : Fg} {B : Hp} {vs : List V} {s : τ} {u : V} {x : γ}, rpl K B vs s → rp K B u x → ∃ ws, putF f u (nm.zip vs) = nm.zip ws ∧ ws.length = vs.length ∧ rpl K B ws (put s x)
theorem look_here {f : Str} {v : V} {r : List (Str × V)} : ((f, v) :: r).lookup f = some v := by
  show (match (f == f) with | true => some v | false => r.lookup f) = some v
  rw [beq_self_eq_true]
theorem look_there {f g : Str} {v : V} {r : List (Str × V)} (h : (f == g) = false) : ((g, v) :: r).lookup f = r.lookup f := by
  show (match (f == g) with | true => some v | false => r.lookup f) = _
  rw [h]
theorem put_here {f : Str} {u v : V} {r : List (Str × V)} : putF f u ((f, v) :: r) = (f, u) :: r := if_pos rfl
theorem put_there {f g : Str} {u v : V} {r : List (Str × V)} (h : (f == g) = false) : putF f u ((g, v) :: r) = (g, v) :: putF f u r := if_neg (fun z => by rw [z, beq_self_eq_true] at h; cases h)
theorem fd_here {γ τ : Type} [Rp γ] [RpL τ] {f : Str} {nm : List Str} : Fd (τ := γ × τ) (f :: nm) f (fun s => s.1) (fun s x => (x, s.2)) := ⟨fun ⟨v, us, h, p, q⟩ => by
  subst h
  exact ⟨v, look_here, p⟩, fun {K B vs s u x} ⟨v, us, h, p, q⟩ hu => by
  subst h
  exact ⟨u :: us, put_here, rfl, u, us, rfl, hu, q⟩⟩
theorem fd_there {γ τ δ : Type} [Rp γ] [RpL τ] [Rp δ] {f g : Str} {nm : List Str} {get : τ → γ} {put : τ → γ → τ} (h : Fd nm f get put) (ne : (f == g) = false := by decide) : Fd (τ := δ × τ) (g :: nm) f (fun s => get s.2) (fun s x => (s.1, put s.2 x)) := ⟨fun ⟨v, us, hv, p, q⟩ => by
  subst hv
  obtain ⟨u, h1, h2⟩ := h.g q
  exact ⟨u, (look_there ne).trans h1, h2⟩, fun {K B vs s u x} ⟨v, us, hv, p, q⟩ hu => by
  subst hv
  obtain ⟨ws, h1, h2, h3⟩ := h.p q hu
  exact ⟨v :: ws, (put_there ne).trans (congrArg _ h1), congrArg Nat.succ h2, v, ws, rfl, p, h3⟩⟩
/-- a new attribute -/
structure Ad {τ γ τ' : Type} [RpL τ] [Rp γ] [RpL τ'] (nm : List Str) (f : Str) (nm' : List Str) (add : τ → γ → τ') : Prop where
  a : ∀ {K : Fg} {B : Hp} {vs : List V} {s : τ} {u : V} {x : γ}, rpl K B vs s → vs.length = nm.length → rp K B u x → ∃ ws, putF f u (nm.zip vs) = nm'.zip ws ∧ ws.length = nm'.length ∧ rpl K B ws (add s x)
theorem ad_nil {γ : Type} [Rp γ] {f : Str} : Ad (τ := Unit) (τ' := γ × Unit) [] f [f] (fun _ x => (x, ())) := ⟨fun {K B vs s u x} h _ hu => by
  cases (show vs = [] from h)
  exact ⟨[u], rfl, rfl, u, [], rfl, hu, rfl⟩⟩
theorem ad_cons {γ τ τ' δ : Type} [Rp γ] [RpL τ] [RpL τ'] [Rp δ] {f g : Str} {nm nm' : List Str} {add : τ → γ → τ'} (h : Ad nm f nm' add) (ne : (f == g) = false := by decide) : Ad (τ := δ × τ) (τ' := δ × τ') (g :: nm) f (g :: nm') (fun s x => (s.1, add s.2 x)) := ⟨fun {K B vs s u x} ⟨v, us, hv, p, q⟩ hl hu => by
  subst hv
  obtain ⟨ws, h1, h2, h3⟩ := h.a q (Nat.succ.inj hl) hu
  exact ⟨v :: ws, (put_there ne).trans (congrArg _ h1), congrArg Nat.succ h2, v, ws, rfl, p, h3⟩⟩
section
variable {K : Fg} {M : Ms} {Bs Hs W : Hp} {σ : L2.St} {B H B' H' : Hp} {te ta tb tc : TE} {tt tu : TT} {tas : TA} {α β γ δ τ τ' ρ S S' S1 S2 Z R : Type} {P : Ow S} {s : S} {D : Ends} {t u ts : TS} {g : TG}
theorem zip_none {m : Str} : ∀ {nm : List Str} (vs : List V), m ∉ nm → (nm.zip vs).lookup m = none
  | [], _, _ => rfl
  | _ :: _, [], _ => rfl
  | g :: nm, v :: vs, h => by
    have hne : (m == g) = false := beq_eq_false_iff_ne.mpr fun z => h (by rw [z]; exact List.mem_cons_self)
    exact (look_there hne).trans (zip_none vs fun z => h (List.mem_cons_of_mem _ z))
theorem rec_obj [RpL τ] {C : Str} {nm : List Str} {m : Str} (h : m ∉ nm) : IsObj (OwRec (τ := τ) K C nm) K C m := fun {a W B s} ⟨dx, vs, hw, hl, r⟩ => by
  subst hw
  exact ⟨dx, _, sing_at, zip_none vs h⟩
/-- an attribute, read -/
theorem cp_recfld [RpL τ] [Rp γ] {C f : Str} {nm : List Str} {a : Addr} {i : Nat} {get : S → τ} {put : S → τ → S} {gf : τ → γ} {pf : τ → γ → τ} (l : Ln P (OwRec K C nm a) get put) (fd : Fd nm f gf pf) (hs : σ[i]? = some (some (.ref a))) (c : Cls K (He.ga K C)) (n : NoAttr K (He.ga K C) f) (p : P W B s) (d : Dj W B) :
    Cp K (tFld K (tVar i) f) σ (uni W B) (some (gf (get s))) := by
  obtain ⟨V1, V2, hV, dV, ⟨dx, vs, h1, h2, h3⟩, _⟩ := l.open_ W B s p
  subst hV h1
  obtain ⟨u, e1, e2⟩ := fd.g h3
  exact cp_ownfld hs (uni_l (uni_l sing_at)) c n e1 (Rp.mono (ex_uni_r d) e2)
theorem upd_uni {V1 V2 : Hp} {a : Addr} {o o' : HO} : upd (uni (sing a o) V2) a o' = uni (sing a o') V2 := by
  funext b
  by_cases eb : b = a
  · subst eb
    rw [upd_same, uni_l sing_at]
  · rw [upd_ne eb, uni_r (sing_ne eb), uni_r (sing_ne eb)]
/-- self.f = e -/
theorem st_setF [RpL τ] [Rp γ] {C f : Str} {nm : List Str} {a : Addr} {i : Nat} {get : S → τ} {put : S → τ → S} {gf : τ → γ} {pf : τ → γ → τ} (l : Ln P (OwRec K C nm a) get put) (fd : Fd nm f gf pf) (hl : nm.length < 1000) (hs : σ[i]? = some (some (.ref a))) (c : Cls K (He.ga K C)) (n : NoAttr K (He.ga K C) f)
    {m : S → Option (γ × S)} {m' : Option (γ × S)} {k : γ × S → Option ρ} {r : ρ} (hm : m'.bind k = some r) (N : Now M Bs Hs P W B H s) (hc : Cs K P te σ B m) (he : m s = m')
    (q : ∀ x s1 W1 B1 H1, k (x, s1) = some r → Now M Bs Hs P W1 B1 H1 (put s1 (pf (get s1) x)) → Ex B B1 → D.nx σ H1) : sFld K (tVar i) te f D σ H := by
  subst he
  obtain ⟨⟨x, s1⟩, e1, e2⟩ := bd_some hm
  refine hc B H W s (Ex.refl B) N.ex N.w N.d N.p x s1 e1 _ fun v B1 H1 W1 sw p1 hv => ?_
  obtain ⟨V1, V2, hV, dV, ⟨dx, vs, h1, h2, h3⟩, back⟩ := l.open_ W1 B1 s1 p1
  subst hV h1
  obtain ⟨ws, e3, e4, e5⟩ := fd.p h3 hv
  have hz : (nm.zip vs).length < 1000 := by rw [List.length_zip, h2, Nat.min_self]; exact hl
  refine ⟨.ref a, hs, a, _, dx, _, rfl, sw.w a _ (uni_l sing_at), c, n, hz, ?_⟩
  have N1 := N.step sw p1
  have hd : uni (sing a (.ins (He.ga K C) dx (nm.zip vs))) V2 a ≠ none := nn (uni_l sing_at)
  have y := sw_upd (o := .ins (He.ga K C) dx (putF f v (nm.zip vs))) sw.g.e sw.w sw.d hd
  rw [upd_uni (V1 := emp)] at y
  have dj : Dj (sing a (.ins (He.ga K C) dx (putF f v (nm.zip vs)))) V2 := fun b h => dV b (by rw [sing_dom h]; exact nn sing_at)
  exact q x s1 _ B1 _ e2 (N1.step y (back _ B1 _ (Ex.refl B1) dj ⟨dx, ws, by rw [e3], e4.trans h2, e5⟩)) sw.g.b
/-- self.f op= e -/
theorem st_augF [RpL τ] [Rp γ] [Rp β] {C f : Str} {nm : List Str} {a : Addr} {i : Nat} {get : S → τ} {put : S → τ → S} {gf : τ → γ} {pf : τ → γ → τ} {rd : R2} {f2 : γ → β → Option γ} (l : Ln P (OwRec K C nm a) get put) (fd : Fd nm f gf pf) (hl : nm.length < 1000) (hs : σ[i]? = some (some (.ref a))) (c : Cls K (He.ga K C)) (n : NoAttr K (He.ga K C) f) (hr : R2p K rd f2) [OwOk P]
    {m : S → Option (β × S)} {m' : Option (γ × S)} {k : γ × S → Option ρ} {r : ρ} (hm : m'.bind k = some r) (N : Now M Bs Hs P W B H s) (hc : Cs K P te σ B m) (he : ((m s).bind fun p => (f2 (gf (get s)) p.1).bind fun z => some (z, p.2)) = m')
    (q : ∀ x s1 W1 B1 H1, k (x, s1) = some r → Now M Bs Hs P W1 B1 H1 (put s1 (pf (get s1) x)) → Ex B B1 → D.nx σ H1) : sFldAug K (tVar i) te rd f D σ H := by
  subst he
  obtain ⟨⟨z0, s0⟩, e0, e2⟩ := bd_some hm
  obtain ⟨⟨x, s1⟩, e1, e0⟩ := bd_some e0
  obtain ⟨z, e3, e0⟩ := bd_some e0
  obtain ⟨rfl, rfl⟩ : z = z0 ∧ s1 = s0 := by
    cases e0
    exact ⟨rfl, rfl⟩
  obtain ⟨V1, V2, hV, dV, ⟨dx, vs, h1, h2, h3⟩, _⟩ := l.open_ W B s N.p
  obtain ⟨u, g1, g2⟩ := fd.g h3
  refine ⟨.ref a, hs, a, _, dx, _, u, rfl, N.w a _ (by rw [hV, h1]; exact uni_l sing_at), c, n, g1, ?_⟩
  refine hc B H W s (Ex.refl B) N.ex N.w N.d N.p x s1 e1 _ fun v B1 H1 W1 sw p1 hv => ?_
  refine hr B1 H1 (gf (get s)) x z u v sw.g.e (Rp.mono sw.g.b g2) hv e3 _ fun w B2 H2 g3 hw => ?_
  have N1 := (N.step sw p1).pure g3
  obtain ⟨V1, V2, hV, dV, ⟨dx, vs, h1, h2, h3⟩, back⟩ := l.open_ W1 B2 s1 N1.p
  subst hV h1
  obtain ⟨ws, e6, e4, e5⟩ := fd.p h3 hw
  have hz : (nm.zip vs).length < 1000 := by rw [List.length_zip, h2, Nat.min_self]; exact hl
  refine ⟨dx, _, N1.w a _ (uni_l sing_at), hz, ?_⟩
  have hd : uni (sing a (.ins (He.ga K C) dx (nm.zip vs))) V2 a ≠ none := nn (uni_l sing_at)
  have y := sw_upd (o := .ins (He.ga K C) dx (putF f w (nm.zip vs))) N1.ex N1.w N1.d hd
  rw [upd_uni (V1 := emp)] at y
  have dj : Dj (sing a (.ins (He.ga K C) dx (putF f w (nm.zip vs)))) V2 := fun b h => dV b (by rw [sing_dom h]; exact nn sing_at)
  exact q z s1 _ B2 _ e2 (N1.step y (back _ B2 _ (Ex.refl B2) dj ⟨dx, ws, by rw [e6], e4.trans h2, e5⟩)) (sw.g.b.trans g3.b)
/-- self.f = e, where f is new -/
theorem st_addF [RpL τ] [Rp γ] [RpL τ'] {C f : Str} {nm nm' : List Str} {a : Addr} {i : Nat} {s : τ} {add : τ → γ → τ'} (ad : Ad nm f nm' add) (hl : nm.length < 1000) (hs : σ[i]? = some (some (.ref a))) (c : Cls K (He.ga K C)) (n : NoAttr K (He.ga K C) f)
    {m m' : Option γ} {k : γ → Option ρ} {r : ρ} (hm : m'.bind k = some r) (N : Now M Bs Hs (OwRec K C nm a) W B H s) (hc : Cp K te σ B m) (he : m = m')
    (q : ∀ x W1 B1 H1, k x = some r → Now M Bs Hs (OwRec K C nm' a) W1 B1 H1 (add s x) → Ex B B1 → D.nx σ H1) : sFld K (tVar i) te f D σ H := by
  subst he
  obtain ⟨x, e1, e2⟩ := bd_some hm
  refine hc B H (Ex.refl B) N.ex x e1 _ fun v B1 H1 g hv => ?_
  have N1 := N.pure g
  obtain ⟨dx, vs, h1, h2, h3⟩ := N1.p
  subst h1
  obtain ⟨ws, e3, e4, e5⟩ := ad.a h3 h2 hv
  have hz : (nm.zip vs).length < 1000 := by rw [List.length_zip, h2, Nat.min_self]; exact hl
  refine ⟨.ref a, hs, a, _, dx, _, rfl, N1.w a _ sing_at, c, n, hz, ?_⟩
  have y := sw_upd (o := .ins (He.ga K C) dx (putF f v (nm.zip vs))) N1.ex N1.w N1.d (nn sing_at)
  rw [upd_sing] at y
  exact q x _ B1 _ e2 (N1.step y ⟨dx, ws, by rw [e3], e4, e5⟩) g.b
end
end Cf

set_option Elab.async false
set_option linter.all false
set_option maxRecDepth 100000
set_option maxHeartbeats 4000000
namespace Cf
open PySem L2
open Rp (rp)
open RpL (rpl)
open Enc (enc)
section
variable {K : Fg} {M : Ms} {Bs Hs W : Hp} {σ : L2.St} {B H B' H' : Hp} {te ta tb tc : TE} {tt tu : TT} {tas : TA} {α β γ δ τ τ' ρ S S' S1 S2 Z R : Type} {P : Ow S} {s : S} {D : Ends} {t u ts : TS} {g : TG}
/-! one kind of data as another -/
theorem cp_in [Rp α] [Rp β] {f : α → β} (hf : ∀ {K : Fg} {B : Hp} {v : V} {x : α}, rp K B v x → rp K B v (f x)) {m : Option α} (h : Cp K te σ B m) : Cp K te σ B (m.bind fun x => some (f x)) := fun B1 H1 b e z em Q q => by
  obtain ⟨x, e1, em⟩ := bd_some em
  cases em
  exact h B1 H1 b e x e1 Q fun v B2 H2 g2 hv => q v B2 H2 g2 (hf hv)
theorem cs_in [Rp α] [Rp β] {f : α → β} (hf : ∀ {K : Fg} {B : Hp} {v : V} {x : α}, rp K B v x → rp K B v (f x)) {m : S → Option (α × S)} (h : Cs K P te σ B m) : Cs K P te σ B (fun s => (m s).bind fun p => some (f p.1, p.2)) := fun B1 H1 W s b e w d p z s' em Q q => by
  obtain ⟨⟨x, s1⟩, e1, em⟩ := bd_some em
  cases em
  exact h B1 H1 W s b e w d p x _ e1 Q fun v B2 H2 W2 sw p2 hv => q v B2 H2 W2 sw p2 (hf hv)
/-- an item of a tuple of one of several kinds -/
theorem cp_ixTo [Rp α] [Rp γ] {i : Int} {f : α → Option γ} (hf : ∀ {K : Fg} {B : Hp} {v : V} {x : α} {y : γ}, rp K B v x → f x = some y → ∃ a vs u, v = .ref a ∧ SqT K B a vs ∧ atI vs i = some u ∧ rp K B u y) {m : Option α} (h : Cp K ta σ B m) : Cp K (tOp (rIxT K) ta (tC (.int i))) σ B (m.bind f) := fun B1 H1 b e z em Q q => by
  obtain ⟨x, e1, em⟩ := bd_some em
  refine h B1 H1 b e x e1 _ fun v B2 H2 g2 hv => ?_
  obtain ⟨a, vs, u, rfl, s, ha, hu⟩ := hf hv em
  exact ⟨a, vs, i, u, rfl, rfl, sqt_mono g2.e s, ha, q u B2 H2 g2 hu⟩
/-- where an __init__ begins -/
theorem now_init {C : Str} {a dx : Addr} (e : Ex B H) (ha : H a = some (.ins (He.ga K C) dx [])) (nb : B a = none) : Now (dom (sing a (.ins (He.ga K C) dx []))) B H (OwRec (τ := Unit) K C [] a) (sing a (.ins (He.ga K C) dx [])) B H () :=
  now0 e (fun b o h => by
    have := sing_dom (nn h)
    subst this
    rw [sing_at] at h
    cases h
    exact ha) (fun b h => by
    have := sing_dom h
    subst this
    exact nb) ⟨dx, [], rfl, rfl, rfl⟩
end
end Cf

set_option Elab.async false
set_option linter.all false
set_option maxRecDepth 100000
set_option maxHeartbeats 4000000
namespace Cw
open PySem L2 Cf
open PySem.Spec PyProof.Rows
open Rp (rp)
open RpL (rpl)
def top (i : Nat) : Stmt := PySem.Challenge.pw_clearfloor_k27_a_unit_does_each_command.main.body.getD i (.Pass ⟨0, 0, 0, 0⟩)
structure Tx (K : Fg) (mg : Str → Option Value) : Prop where
  cls_Unit : Cls K (He.ga K "Unit")
  free_int : mg "int" = none
  free_isinstance : mg "isinstance" = none
  free_len : mg "len" = none
  free_range : mg "range" = none
  free_tuple : mg "tuple" = none
  glo_Unit : mg "Unit" = some (.ref (He.ga K "Unit"))
  mk_Unit : Mk K (He.ga K "Unit") (He.ma K (He.ga K "Unit") "__init__")
  noat_Unit_done : NoAttr K (He.ga K "Unit") "done"
  noat_Unit_lives : NoAttr K (He.ga K "Unit") "lives"
  noat_Unit_number : NoAttr K (He.ga K "Unit") "number"
  noat_Unit_position : NoAttr K (He.ga K "Unit") "position"
  noat_Unit_works : NoAttr K (He.ga K "Unit") "works"
  str_MOVE : ∃ t, mg "MOVE" = some (.str "move" t)
  str_TOLD : ∃ t, mg "TOLD" = some (.str "told" t)
abbrev nm_Unit : List Str := ["number", "position", "lives", "done", "works"]
theorem fd_Unit_number : Fd (τ := (Int × Int × Int × Int × Bool × Unit)) (γ := Int) nm_Unit "number" (fun s => s.1) (fun s x => (x, s.2)) := fd_here
theorem fd_Unit_position : Fd (τ := (Int × Int × Int × Int × Bool × Unit)) (γ := Int) nm_Unit "position" (fun s => s.2.1) (fun s x => (s.1, (x, s.2.2))) := fd_there (fd_here)
theorem fd_Unit_lives : Fd (τ := (Int × Int × Int × Int × Bool × Unit)) (γ := Int) nm_Unit "lives" (fun s => s.2.2.1) (fun s x => (s.1, (s.2.1, (x, s.2.2.2)))) := fd_there (fd_there (fd_here))
theorem fd_Unit_done : Fd (τ := (Int × Int × Int × Int × Bool × Unit)) (γ := Int) nm_Unit "done" (fun s => s.2.2.2.1) (fun s x => (s.1, (s.2.1, (s.2.2.1, (x, s.2.2.2.2))))) := fd_there (fd_there (fd_there (fd_here)))
theorem fd_Unit_works : Fd (τ := (Int × Int × Int × Int × Bool × Unit)) (γ := Bool) nm_Unit "works" (fun s => s.2.2.2.2.1) (fun s x => (s.1, (s.2.1, (s.2.2.1, (s.2.2.2.1, (x, s.2.2.2.2.2)))))) := fd_there (fd_there (fd_there (fd_there (fd_here))))
theorem no_Unit___init__ : ("__init__" : Str) ∉ nm_Unit := by decide +kernel
theorem no_Unit_told : ("told" : Str) ∉ nm_Unit := by decide +kernel
theorem no_Unit_hear : ("hear" : Str) ∉ nm_Unit := by decide +kernel
theorem no_Unit_fail : ("fail" : Str) ∉ nm_Unit := by decide +kernel
theorem no_Unit_repair : ("repair" : Str) ∉ nm_Unit := by decide +kernel
inductive Msg where
  | ask (x : Str × Int)
  | move (x : T5 Str Int Int Int Int)
  | told (x : T6 Str Int Int Int Int Bool)
def rpMsg (K : Fg) (B : Hp) (v : V) : Msg → Prop
  | .ask x => rp K B v x
  | .move x => rp K B v x
  | .told x => rp K B v x
instance : Rp Msg := ⟨rpMsg, fun {K B B' v x} e h => by
  cases x with
  | ask y => exact Rp.mono (α := Str × Int) e h
  | move y => exact Rp.mono (α := T5 Str Int Int Int Int) e h
  | told y => exact Rp.mono (α := T6 Str Int Int Int Int Bool) e h⟩
theorem in_ask {K : Fg} {B : Hp} {v : V} {x : Str × Int} (h : rp K B v x) : rp K B v (Msg.ask x) := h
theorem in_move {K : Fg} {B : Hp} {v : V} {x : T5 Str Int Int Int Int} (h : rp K B v x) : rp K B v (Msg.move x) := h
theorem in_told {K : Fg} {B : Hp} {v : V} {x : T6 Str Int Int Int Int Bool} (h : rp K B v x) : rp K B v (Msg.told x) := h
def Msg.i0 : Msg → Option Str
  | .ask x => some x.1
  | .move x => some x.a
  | .told x => some x.a
def Msg.i1 : Msg → Option Int
  | .ask x => some x.2
  | .move x => some x.b
  | .told x => some x.b
def Msg.i2 : Msg → Option Int
  | .move x => some x.c
  | .told x => some x.c
  | _ => none
def Msg.i3 : Msg → Option Int
  | .move x => some x.d
  | .told x => some x.d
  | _ => none
def Msg.i4 : Msg → Option Int
  | .move x => some x.e
  | .told x => some x.e
  | _ => none
theorem msg_0 {K : Fg} {B : Hp} {v : V} {x : Msg} {y : Str} (h : rp K B v x) (e : Msg.i0 x = some y) : ∃ a vs u, v = .ref a ∧ SqT K B a vs ∧ atI vs 0 = some u ∧ rp K B u y := by
  cases x with
  | ask x => 
    cases e
    obtain ⟨a, u0, u1, h, s, p0, p1⟩ := (show rp K B v x from h)
    exact ⟨a, _, u0, h, s, rfl, p0⟩
  | move x =>
    cases e
    obtain ⟨a, u0, u1, u2, u3, u4, h, s, p0, p1, p2, p3, p4⟩ := (show rp K B v x from h)
    exact ⟨a, _, u0, h, s, rfl, p0⟩
  | told x =>
    cases e
    obtain ⟨a, u0, u1, u2, u3, u4, u5, h, s, p0, p1, p2, p3, p4, p5⟩ := (show rp K B v x from h)
    exact ⟨a, _, u0, h, s, rfl, p0⟩
theorem msg_1 {K : Fg} {B : Hp} {v : V} {x : Msg} {y : Int} (h : rp K B v x) (e : Msg.i1 x = some y) : ∃ a vs u, v = .ref a ∧ SqT K B a vs ∧ atI vs 1 = some u ∧ rp K B u y := by
  cases x with
  | ask x => 
    cases e
    obtain ⟨a, u0, u1, h, s, p0, p1⟩ := (show rp K B v x from h)
    exact ⟨a, _, u1, h, s, rfl, p1⟩
  | move x =>
    cases e
    obtain ⟨a, u0, u1, u2, u3, u4, h, s, p0, p1, p2, p3, p4⟩ := (show rp K B v x from h)
    exact ⟨a, _, u1, h, s, rfl, p1⟩
  | told x =>
    cases e
    obtain ⟨a, u0, u1, u2, u3, u4, u5, h, s, p0, p1, p2, p3, p4, p5⟩ := (show rp K B v x from h)
    exact ⟨a, _, u1, h, s, rfl, p1⟩
theorem msg_2 {K : Fg} {B : Hp} {v : V} {x : Msg} {y : Int} (h : rp K B v x) (e : Msg.i2 x = some y) : ∃ a vs u, v = .ref a ∧ SqT K B a vs ∧ atI vs 2 = some u ∧ rp K B u y := by
  cases x with
  | ask x => cases e
  | move x =>
    cases e
    obtain ⟨a, u0, u1, u2, u3, u4, h, s, p0, p1, p2, p3, p4⟩ := (show rp K B v x from h)
    exact ⟨a, _, u2, h, s, rfl, p2⟩
  | told x =>
    cases e
    obtain ⟨a, u0, u1, u2, u3, u4, u5, h, s, p0, p1, p2, p3, p4, p5⟩ := (show rp K B v x from h)
    exact ⟨a, _, u2, h, s, rfl, p2⟩
theorem msg_3 {K : Fg} {B : Hp} {v : V} {x : Msg} {y : Int} (h : rp K B v x) (e : Msg.i3 x = some y) : ∃ a vs u, v = .ref a ∧ SqT K B a vs ∧ atI vs 3 = some u ∧ rp K B u y := by
  cases x with
  | ask x => cases e
  | move x =>
    cases e
    obtain ⟨a, u0, u1, u2, u3, u4, h, s, p0, p1, p2, p3, p4⟩ := (show rp K B v x from h)
    exact ⟨a, _, u3, h, s, rfl, p3⟩
  | told x =>
    cases e
    obtain ⟨a, u0, u1, u2, u3, u4, u5, h, s, p0, p1, p2, p3, p4, p5⟩ := (show rp K B v x from h)
    exact ⟨a, _, u3, h, s, rfl, p3⟩
theorem msg_4 {K : Fg} {B : Hp} {v : V} {x : Msg} {y : Int} (h : rp K B v x) (e : Msg.i4 x = some y) : ∃ a vs u, v = .ref a ∧ SqT K B a vs ∧ atI vs 4 = some u ∧ rp K B u y := by
  cases x with
  | ask x => cases e
  | move x =>
    cases e
    obtain ⟨a, u0, u1, u2, u3, u4, h, s, p0, p1, p2, p3, p4⟩ := (show rp K B v x from h)
    exact ⟨a, _, u4, h, s, rfl, p4⟩
  | told x =>
    cases e
    obtain ⟨a, u0, u1, u2, u3, u4, u5, h, s, p0, p1, p2, p3, p4, p5⟩ := (show rp K B v x from h)
    exact ⟨a, _, u4, h, s, rfl, p4⟩
section
variable {P : Program} {w : World} {K : Fg} {mg : Str → Option Value} {base : Heap}
def m_l_cell (a_l_script : Scr) (a_l_k : Int) : Option Int :=
 (Option.bind (some ((decide (a_l_k < ((a_l_script.l.length : Int)))))) fun b => if b = true then
 (at? a_l_script.l a_l_k)
 else
 (some (0 : Int)))
abbrev s_l_cell : Stmt := top 5
theorem sc_l_cell : FnScope ["_law_script", "_law_k"] ["_law_script", "_law_k"] (defScope s_l_cell) := ⟨rfl, rfl, rfl, by decide +kernel, rfl, by decide +kernel, by decide +kernel⟩
abbrev sp_l_cell (K : Fg) : Sp := spP K (fun t : Scr × Int × Unit => m_l_cell t.1 t.2.1)
set_option maxHeartbeats 0 in
theorem ok_l_cell {f : Addr} {fd : FuncData} (F : FunD K "_law_cell" "_law_cell" (defArgs s_l_cell) (defBody s_l_cell) (defScope s_l_cell) [] [] f fd) (T : Tx K mg)  : FnOk P w K mg base CX0 1 f fd ["_law_script", "_law_k"] (sp_l_cell K) := by
  have sc := sc_l_cell
  refine F.ok sc (fun vs H Q E h => ?_) (fun cdv A outer s H vs Q E hr h => ?_)
  · obtain ⟨Bs, t, r, ex, ⟨u0, _, rfl, hu0, ⟨u1, _, rfl, hu1, hz⟩⟩, hm, hQ⟩ := h
    cases hz
    rfl
  · obtain ⟨Bs, ⟨a_l_script, a_l_k, ⟨⟩⟩, r, ex, ⟨u0, _, rfl, hu0, ⟨u1, _, rfl, hu1, hz⟩⟩, hm, hQ⟩ := h
    cases hz
    replace hu0 : rp K Bs u0 a_l_script := hu0
    replace hu1 : rp K Bs u1 a_l_k := hu1
    replace hm : m_l_cell a_l_script a_l_k = some r := hm
    obtain ⟨Hs, eHs⟩ : ∃ Hs, Hs = H := ⟨_, rfl⟩
    subst eHs
    have N : Now noM Bs Hs oE emp Bs Hs () := nowE ex
    unfold m_l_cell at hm
    refine ⟨_, PSs.nox (pss_cons (ps_if (pt_cmpR op_lt (pv 1) (pe_callB call_len_ rfl T.free_len boot_len (pa_cons (pv 0) pa_nil)) (nomark _)) (pss_one (ps_ret (pe_ix ix_list (pv 0) (pv 1) (fun _ _ => rfl)))) pss_nil) (pss_one (ps_ret pe_int))), ?_⟩
    refine sq ?_
    refine st_if hm N.ex (ct_test (cp_op r2_lt (cp_var rfl hu1) (cp_cb rc_lenScr (ca_cons (cp_var rfl hu0) ca_nil)))) rfl (fun B1 H2 hc4 hm g3 => ?_) (fun B1 H2 hc4 hm g3 => ?_)
    · replace N := N.pure g3
      replace hu0 := Rp.mono g3.b hu0
      replace hu1 := Rp.mono g3.b hu1
      refine st_ret (K := K) hm N.ex (cp_op r2_ixScr (cp_var rfl hu0) (cp_var rfl hu1)) (by first | rfl | simp only [o2, Option.bind_assoc, Option.bind_some]) fun v B1 H1 g hv => ?_
      exact hQ v B1 H1 (N.g.then g) hv
    · replace N := N.pure g3
      replace hu0 := Rp.mono g3.b hu0
      replace hu1 := Rp.mono g3.b hu1
      refine nxt ?_
      refine gnx ?_
      refine st_ret (K := K) hm N.ex cp_int rfl fun v B1 H1 g hv => ?_
      exact hQ v B1 H1 (N.g.then g) hv
def m_l_digits_b3 (p_l_script : Scr) (p_l_first : Int) (p_l_last : Int) (p_l_k : Int) (p_l_cell_here : Int) (p_l_turn : Int) (p_st : (Unit × (List Int))) (p_l_seed : Int) : Option ((Unit × (List Int)) × Int) :=
 (Option.bind (o2 (o2 (o2 (pmul p_l_seed (16807 : Int)) (pmul (7 : Int) p_l_turn) fun x y => some (x + y)) (some (1 : Int)) fun x y => some (x + y)) (some (2147483647 : Int)) fun x y => pmod x y) fun l_seed129 =>
 (Option.bind (Option.bind (Option.bind (o2 (pdiv l_seed129 (997 : Int)) (some (1000 : Int)) fun x y => pmod x y) fun x => some (x, p_st)) fun p135 => Option.bind (papp p135.2.2 p135.1) fun q136 => some ((), (p135.2.1, q136))) fun p142 =>
 some (p142.2, l_seed129)))
def m_l_digits_b2 (p_l_script : Scr) (p_l_first : Int) (p_l_last : Int) (p_l_k : Int) (p_l_turn : Int) (p_st : (Unit × (List Int))) (p_l_cell_here : Int) : Option ((Unit × (List Int)) × Int) :=
 (Option.bind (some ((decide (p_l_cell_here > (0 : Int))))) fun b => if b = true then
 (Option.bind (Option.bind (Option.bind (pmod p_l_cell_here (1000 : Int)) fun x => some (x, p_st)) fun p86 => Option.bind (papp p86.2.2 p86.1) fun q87 => some ((), (p86.2.1, q87))) fun p99 =>
 (Option.bind (pdiv p_l_cell_here (1000 : Int)) fun l_cell_here93 =>
 some (p99.2, l_cell_here93)))
 else
 some (p_st, p_l_cell_here))
def m_l_digits_b1 (p_l_script : Scr) (p_l_first : Int) (p_l_last : Int) (p_l_k : Int) (p_st : (Unit × (List Int))) : Option ((Unit × (List Int))) :=
 (Option.bind (m_l_cell p_l_script p_l_k) fun l_cell_here23 =>
 (Option.bind (Option.bind (some ((decide (l_cell_here23 < (0 : Int))))) fun b150 => if b150 = true then
 (Option.bind (o2 (some (1 : Int)) (pmul (2 : Int) l_cell_here23) fun x y => some (x - y)) fun l_cell_here39 =>
 (some (p_st, l_cell_here39)))
 else
 (some (p_st, l_cell_here23))) fun z55 =>
 (Option.bind (o2 (some z55.2) (ppow (10 : Int) (18 : Int)) fun x y => some ((decide (x ≥ y)))) fun b => if b = true then
 (Option.bind (Option.bind (some (60 : Int)) fun n => prange1 n) fun xs => Option.bind (forN (fun x (s : (Unit × (List Int)) × Int) => m_l_digits_b2 p_l_script p_l_first p_l_last p_l_k x s.1 s.2) xs (z55.1, z55.2)) fun s100 =>
 some (s100.1))
 else
 (Option.bind (o2 (o2 (o2 (pmul z55.2 (48271 : Int)) (pmul p_l_k (69621 : Int)) fun x y => some (x + y)) (some (11 : Int)) fun x y => some (x + y)) (some (2147483647 : Int)) fun x y => pmod x y) fun l_seed107 =>
 (Option.bind (Option.bind (some (12 : Int)) fun n => prange1 n) fun xs => Option.bind (forN (fun x (s : (Unit × (List Int)) × Int) => m_l_digits_b3 p_l_script p_l_first p_l_last p_l_k z55.2 x s.1 s.2) xs (z55.1, l_seed107)) fun s143 =>
 some (s143.1))))))
def m_l_digits (a_l_script : Scr) (a_l_first : Int) (a_l_last : Int) : Option (List Int) :=
 (Option.bind (some (([] : List Int), ())) fun p160 =>
 (Option.bind (Option.bind (some (a_l_first, a_l_last)) fun n => prange2 n.1 n.2) fun xs => Option.bind (forN (fun x (s : (Unit × (List Int))) => m_l_digits_b1 a_l_script a_l_first a_l_last x s) xs ((p160.2, p160.1))) fun s151 =>
 (some s151.2)))
abbrev s_l_digits : Stmt := top 6
theorem sc_l_digits : FnScope ["_law_script", "_law_first", "_law_last", "_law_digits_here", "_law_k", "_law_cell_here", "_law_turn", "_law_seed"] ["_law_script", "_law_first", "_law_last"] (defScope s_l_digits) := ⟨rfl, rfl, rfl, by decide +kernel, rfl, by decide +kernel, by decide +kernel⟩
abbrev sp_l_digits (K : Fg) : Sp := spP K (fun t : Scr × Int × Int × Unit => m_l_digits t.1 t.2.1 t.2.2.1)
set_option maxHeartbeats 0 in
theorem ok_l_digits {f : Addr} {fd : FuncData} (F : FunD K "_law_digits" "_law_digits" (defArgs s_l_digits) (defBody s_l_digits) (defScope s_l_digits) [] [] f fd) (T : Tx K mg) (c_l_cell : Fc P w K mg base 1 "_law_cell" ["_law_script", "_law_k"] (sp_l_cell K)) : FnOk P w K mg base CX0 2 f fd ["_law_script", "_law_first", "_law_last"] (sp_l_digits K) := by
  have sc := sc_l_digits
  refine F.ok sc (fun vs H Q E h => ?_) (fun cdv A outer s H vs Q E hr h => ?_)
  · obtain ⟨Bs, t, r, ex, ⟨u0, _, rfl, hu0, ⟨u1, _, rfl, hu1, ⟨u2, _, rfl, hu2, hz⟩⟩⟩, hm, hQ⟩ := h
    cases hz
    rfl
  · obtain ⟨Bs, ⟨a_l_script, a_l_first, a_l_last, ⟨⟩⟩, r, ex, ⟨u0, _, rfl, hu0, ⟨u1, _, rfl, hu1, ⟨u2, _, rfl, hu2, hz⟩⟩⟩, hm, hQ⟩ := h
    cases hz
    replace hu0 : rp K Bs u0 a_l_script := hu0
    replace hu1 : rp K Bs u1 a_l_first := hu1
    replace hu2 : rp K Bs u2 a_l_last := hu2
    replace hm : m_l_digits a_l_script a_l_first a_l_last = some r := hm
    obtain ⟨Hs, eHs⟩ : ∃ Hs, Hs = H := ⟨_, rfl⟩
    subst eHs
    have N : Now noM Bs Hs oE emp Bs Hs () := nowE ex
    unfold m_l_digits at hm
    refine ⟨_, PSs.nox (pss_cons (ps_set (i := 3) sc.nd rfl (.inl rfl) (pe_lst pa_nil)) (pss_cons (ps_for PassesOwn.never rfl (pi_range2 rfl T.free_range (pa_cons (pv 1) (pa_cons (pv 2) pa_nil))) (pg_name (i := 4) sc.nd rfl (.inl rfl)) (pss_cons (ps_set (i := 5) sc.nd rfl (.inl rfl) (pe_fc c_l_cell hr (by decide) rfl (pa_cons (pv 0) (pa_cons (pv 4) pa_nil)))) (pss_cons (ps_if (pt_cmpR op_lt (pv 5) pe_int (nomark _)) (pss_one (ps_set (i := 5) sc.nd rfl (.inl rfl) (pe_op op_sub pe_int (pe_op op_mul pe_int (pv 5))))) pss_nil) (pss_one (ps_if (pt_cmpR op_ge (pv 5) (pe_op op_pow pe_int pe_int) (nomark _)) (pss_one (ps_for PassesOwn.never rfl (pi_range1 rfl T.free_range (pa_cons pe_int pa_nil)) (pg_name (i := 6) sc.nd rfl (.inl rfl)) (pss_one (ps_if (pt_cmpR op_gt (pv 5) pe_int (nomark _)) (pss_cons (ps_expr (pe_bm PySem.F.plainAttrs_list PySem.F.slot_list_append PySem.F.type_list_append mt_append (pv 3) (pa_cons (pe_op op_mod (pe_callTy call_int_ rfl T.free_int boot_int (pa_cons (pv 5) pa_nil)) pe_int) pa_nil))) (pss_one (ps_set (i := 5) sc.nd rfl (.inl rfl) (pe_op op_fdiv (pv 5) pe_int)))) pss_nil)))) (pss_cons (ps_set (i := 7) sc.nd rfl (.inl rfl) (pe_op op_mod (pe_callTy call_int_ rfl T.free_int boot_int (pa_cons (pe_op op_add (pe_op op_add (pe_op op_mul (pv 5) pe_int) (pe_op op_mul (pv 4) pe_int)) pe_int) pa_nil)) pe_int)) (pss_one (ps_for PassesOwn.never rfl (pi_range1 rfl T.free_range (pa_cons pe_int pa_nil)) (pg_name (i := 6) sc.nd rfl (.inl rfl)) (pss_cons (ps_set (i := 7) sc.nd rfl (.inl rfl) (pe_op op_mod (pe_callTy call_int_ rfl T.free_int boot_int (pa_cons (pe_op op_add (pe_op op_add (pe_op op_mul (pv 7) pe_int) (pe_op op_mul pe_int (pv 6))) pe_int) pa_nil)) pe_int)) (pss_one (ps_expr (pe_bm PySem.F.plainAttrs_list PySem.F.slot_list_append PySem.F.type_list_append mt_append (pv 3) (pa_cons (pe_op op_mod (pe_callTy call_int_ rfl T.free_int boot_int (pa_cons (pe_op op_fdiv (pv 7) pe_int) pa_nil)) pe_int) pa_nil))))))))))))) (pss_one (ps_ret (pv 3))))), ?_⟩
    refine sq ?_
    refine st_asgL (K := K) hm N (Co.s (co_nil (α := Int))) (by first | rfl | simp only [o2, Option.bind_assoc, Option.bind_some]) fun l_digits_here1 s2 pl3 W4 B5 H6 hm N eb7 fp8 => ?_
    replace hu0 := Rp.mono eb7 hu0
    replace hu1 := Rp.mono eb7 hu1
    replace hu2 := Rp.mono eb7 hu2
    try dsimp only at hm
    refine gnx ?_
    refine sq ?_
    refine st_forN_r2 (K := K) (fun Be (s : (Unit × (List Int))) B σ H => ∃ (W : Hp) (o4 : Option V) (o5 : Option V) (o6 : Option V) (o7 : Option V), Now noM Bs Hs (star oE (OwL (α := Int) K pl3)) W B H s ∧ Ex B5 B ∧ Ex Be B ∧ σ = [some u0, some u1, some u2, some (.ref pl3), o4, o5, o6, o7]) hm N.ex (ca_cons (cp_var rfl hu1) (ca_cons (cp_var rfl hu2) ca_nil)) (by first | rfl | simp only [o2, Option.bind_assoc, Option.bind_some]) (fun Be H1 g => ⟨_, _, _, _, _, N.pure g, g.b, Ex.refl _, rfl⟩) ?_ ?_
    · rintro Be x9 s10 B12 σ H13 v14 c15 N16 ⟨W11, _, _, _, _, N, eb21, ee22, rfl⟩ hv17 hm hn18
      unfold m_l_digits_b1 at hm
      replace hu0 := Rp.mono eb21 hu0
      replace hu1 := Rp.mono eb21 hu1
      replace hu2 := Rp.mono eb21 hu2
      refine gnm ?_
      refine sq ?_
      refine st_asg (K := K) hm N.ex (cp_call (ca_cons (cp_var rfl hu0) (ca_cons (cp_var rfl hv17) ca_nil))) (by first | rfl | simp only [o2, Option.bind_assoc, Option.bind_some]) fun l_cell_here23 v24 B25 H26 _ hm g27 h28 => ?_
      replace N := N.pure g27
      replace eb21 := eb21.trans g27.b
      replace ee22 := ee22.trans g27.b
      replace hu0 := Rp.mono g27.b hu0
      replace hu1 := Rp.mono g27.b hu1
      replace hu2 := Rp.mono g27.b hu2
      replace hv17 := Rp.mono g27.b hv17
      refine gnx ?_
      refine sq ?_
      refine st_ifJ hm (fun (z : (Unit × (List Int)) × Int) σ H => ∃ (W B : Hp) (w_l_cell_here : V) (o6 : Option V) (o7 : Option V), Now noM Bs Hs (star oE (OwL (α := Int) K pl3)) W B H z.1 ∧ Ex B25 B ∧ σ = [some u0, some u1, some u2, some (.ref pl3), some v14, some w_l_cell_here, o6, o7] ∧ rp K B w_l_cell_here z.2) N.ex (ct_test (cp_op r2_lt (cp_var rfl h28) cp_int)) (by first | rfl | simp only [o2, Option.bind_assoc, Option.bind_some]) ?_ ?_ ?_
      · intro z29 B32 H33 N34 hc35 hm g36 hn37
        have ej38 := g36.b
        replace N := N.pure g36
        replace eb21 := eb21.trans g36.b
        replace ee22 := ee22.trans g36.b
        replace hu0 := Rp.mono g36.b hu0
        replace hu1 := Rp.mono g36.b hu1
        replace hu2 := Rp.mono g36.b hu2
        replace hv17 := Rp.mono g36.b hv17
        replace h28 := Rp.mono g36.b h28
        refine st_asg (K := K) hm N.ex (cp_op r2_sub cp_int (cp_op r2_mul cp_int (cp_var rfl h28))) (by first | rfl | simp only [o2, Option.bind_assoc, Option.bind_some]) fun l_cell_here39 v40 B41 H42 _ hm g43 h44 => ?_
        replace N := N.pure g43
        replace eb21 := eb21.trans g43.b
        replace ee22 := ee22.trans g43.b
        replace ej38 := ej38.trans g43.b
        replace hu0 := Rp.mono g43.b hu0
        replace hu1 := Rp.mono g43.b hu1
        replace hu2 := Rp.mono g43.b hu2
        replace hv17 := Rp.mono g43.b hv17
        cases hm
        exact hn37 _ _ ⟨_, _, v40, _, _, N, ej38, rfl, h44⟩
      · intro z45 B48 H49 N50 hc51 hm g52 hn53
        have ej54 := g52.b
        replace N := N.pure g52
        replace eb21 := eb21.trans g52.b
        replace ee22 := ee22.trans g52.b
        replace hu0 := Rp.mono g52.b hu0
        replace hu1 := Rp.mono g52.b hu1
        replace hu2 := Rp.mono g52.b hu2
        replace hv17 := Rp.mono g52.b hv17
        replace h28 := Rp.mono g52.b h28
        refine nxt ?_
        cases hm
        exact hn53 _ _ ⟨_, _, v24, _, _, N, ej54, rfl, h28⟩
      · rintro z55 σ H58 hm ⟨W56, B57, w60, _, _, N, eb59, rfl, h61⟩
        replace eb21 := eb21.trans eb59
        replace ee22 := ee22.trans eb59
        replace hu0 := Rp.mono eb59 hu0
        replace hu1 := Rp.mono eb59 hu1
        replace hu2 := Rp.mono eb59 hu2
        replace hv17 := Rp.mono eb59 hv17
        refine gnx ?_
        refine st_if hm N.ex (ct_test (cp_op r2_ge (cp_var rfl h61) (cp_op r2_pow cp_int cp_int))) (by first | rfl | simp only [o2, Option.bind_assoc, Option.bind_some]) (fun B62 H63 hc65 hm g64 => ?_) (fun B62 H63 hc65 hm g64 => ?_)
        · replace N := N.pure g64
          replace eb21 := eb21.trans g64.b
          replace ee22 := ee22.trans g64.b
          replace hu0 := Rp.mono g64.b hu0
          replace hu1 := Rp.mono g64.b hu1
          replace hu2 := Rp.mono g64.b hu2
          replace hv17 := Rp.mono g64.b hv17
          replace h61 := Rp.mono g64.b h61
          refine st_forN_r1 (K := K) (fun Be (s : (Unit × (List Int)) × Int) B σ H => ∃ (W : Hp) (w_l_cell_here : V) (o6 : Option V) (o7 : Option V), Now noM Bs Hs (star oE (OwL (α := Int) K pl3)) W B H s.1 ∧ Ex B62 B ∧ Ex Be B ∧ σ = [some u0, some u1, some u2, some (.ref pl3), some v14, some w_l_cell_here, o6, o7] ∧ rp K B w_l_cell_here s.2) hm N.ex (ca_cons cp_int ca_nil) (by first | rfl | simp only [o2, Option.bind_assoc, Option.bind_some]) (fun Be H1 g => ⟨_, w60, _, _, N.pure g, g.b, Ex.refl _, rfl, Rp.mono g.b h61⟩) ?_ ?_
          · rintro Be x66 s67 B69 σ H70 v71 c72 N73 ⟨W68, w80, _, _, N, eb78, ee79, rfl, h81⟩ hv74 hm hn75
            unfold m_l_digits_b2 at hm
            replace eb21 := eb21.trans eb78
            replace ee22 := ee22.trans eb78
            replace hu0 := Rp.mono eb78 hu0
            replace hu1 := Rp.mono eb78 hu1
            replace hu2 := Rp.mono eb78 hu2
            replace hv17 := Rp.mono eb78 hv17
            refine gnm ?_
            refine st_if hm N.ex (ct_test (cp_op r2_gt (cp_var rfl h81) cp_int)) rfl (fun B82 H83 hc85 hm g84 => ?_) (fun B82 H83 hc85 hm g84 => ?_)
            · replace N := N.pure g84
              replace eb21 := eb21.trans g84.b
              replace ee22 := ee22.trans g84.b
              replace eb78 := eb78.trans g84.b
              replace ee79 := ee79.trans g84.b
              replace hu0 := Rp.mono g84.b hu0
              replace hu1 := Rp.mono g84.b hu1
              replace hu2 := Rp.mono g84.b hu2
              replace hv17 := Rp.mono g84.b hv17
              replace h81 := Rp.mono g84.b h81
              replace hv74 := Rp.mono g84.b hv74
              refine sq ?_
              refine st_dropS (K := K) hm N (cs_append ln_r rfl (Cp.s (cp_op r2_mod (cp_int1 (cp_var rfl h81)) cp_int))) (by first | rfl | simp only [o2, Option.bind_assoc, Option.bind_some]) fun _ s88 W89 B90 H91 hm N eb92 => ?_
              try dsimp only at hm
              replace eb21 := eb21.trans eb92
              replace ee22 := ee22.trans eb92
              replace eb78 := eb78.trans eb92
              replace ee79 := ee79.trans eb92
              replace hu0 := Rp.mono eb92 hu0
              replace hu1 := Rp.mono eb92 hu1
              replace hu2 := Rp.mono eb92 hu2
              replace hv17 := Rp.mono eb92 hv17
              replace h81 := Rp.mono eb92 h81
              replace hv74 := Rp.mono eb92 hv74
              refine gnx ?_
              refine st_asg (K := K) hm N.ex (cp_op r2_div (cp_var rfl h81) cp_int) (by first | rfl | simp only [o2, Option.bind_assoc, Option.bind_some]) fun l_cell_here93 v94 B95 H96 _ hm g97 h98 => ?_
              replace N := N.pure g97
              replace eb21 := eb21.trans g97.b
              replace ee22 := ee22.trans g97.b
              replace eb78 := eb78.trans g97.b
              replace ee79 := ee79.trans g97.b
              replace hu0 := Rp.mono g97.b hu0
              replace hu1 := Rp.mono g97.b hu1
              replace hu2 := Rp.mono g97.b hu2
              replace hv17 := Rp.mono g97.b hv17
              replace hv74 := Rp.mono g97.b hv74
              cases hm
              exact hn75 _ _ _ ⟨_, v94, _, _, N, eb78, ee79, rfl, h98⟩
            · replace N := N.pure g84
              replace eb21 := eb21.trans g84.b
              replace ee22 := ee22.trans g84.b
              replace eb78 := eb78.trans g84.b
              replace ee79 := ee79.trans g84.b
              replace hu0 := Rp.mono g84.b hu0
              replace hu1 := Rp.mono g84.b hu1
              replace hu2 := Rp.mono g84.b hu2
              replace hv17 := Rp.mono g84.b hv17
              replace h81 := Rp.mono g84.b h81
              replace hv74 := Rp.mono g84.b hv74
              refine nxt ?_
              cases hm
              exact hn75 _ _ _ ⟨_, w80, _, _, N, eb78, ee79, rfl, h81⟩
          · rintro Be s100 B102 σ H103 hm ⟨W101, w105, _, _, N, eb104, _, rfl, h106⟩
            replace eb21 := eb21.trans eb104
            replace ee22 := ee22.trans eb104
            replace hu0 := Rp.mono eb104 hu0
            replace hu1 := Rp.mono eb104 hu1
            replace hu2 := Rp.mono eb104 hu2
            replace hv17 := Rp.mono eb104 hv17
            cases hm
            exact hn18 _ _ _ ⟨_, _, _, _, _, N, eb21, ee22, rfl⟩
        · replace N := N.pure g64
          replace eb21 := eb21.trans g64.b
          replace ee22 := ee22.trans g64.b
          replace hu0 := Rp.mono g64.b hu0
          replace hu1 := Rp.mono g64.b hu1
          replace hu2 := Rp.mono g64.b hu2
          replace hv17 := Rp.mono g64.b hv17
          replace h61 := Rp.mono g64.b h61
          refine sq ?_
          refine st_asg (K := K) hm N.ex (cp_op r2_mod (cp_int1 (cp_op r2_add (cp_op r2_add (cp_op r2_mul (cp_var rfl h61) cp_int) (cp_op r2_mul (cp_var rfl hv17) cp_int)) cp_int)) cp_int) (by first | rfl | simp only [o2, Option.bind_assoc, Option.bind_some]) fun l_seed107 v108 B109 H110 _ hm g111 h112 => ?_
          replace N := N.pure g111
          replace eb21 := eb21.trans g111.b
          replace ee22 := ee22.trans g111.b
          replace hu0 := Rp.mono g111.b hu0
          replace hu1 := Rp.mono g111.b hu1
          replace hu2 := Rp.mono g111.b hu2
          replace hv17 := Rp.mono g111.b hv17
          replace h61 := Rp.mono g111.b h61
          refine gnx ?_
          refine st_forN_r1 (K := K) (fun Be (s : (Unit × (List Int)) × Int) B σ H => ∃ (W : Hp) (w_l_seed : V) (o6 : Option V), Now noM Bs Hs (star oE (OwL (α := Int) K pl3)) W B H s.1 ∧ Ex B109 B ∧ Ex Be B ∧ σ = [some u0, some u1, some u2, some (.ref pl3), some v14, some w60, o6, some w_l_seed] ∧ rp K B w_l_seed s.2) hm N.ex (ca_cons cp_int ca_nil) (by first | rfl | simp only [o2, Option.bind_assoc, Option.bind_some]) (fun Be H1 g => ⟨_, v108, _, N.pure g, g.b, Ex.refl _, rfl, Rp.mono g.b h112⟩) ?_ ?_
          · rintro Be x113 s114 B116 σ H117 v118 c119 N120 ⟨W115, w127, _, N, eb125, ee126, rfl, h128⟩ hv121 hm hn122
            unfold m_l_digits_b3 at hm
            replace eb21 := eb21.trans eb125
            replace ee22 := ee22.trans eb125
            replace hu0 := Rp.mono eb125 hu0
            replace hu1 := Rp.mono eb125 hu1
            replace hu2 := Rp.mono eb125 hu2
            replace hv17 := Rp.mono eb125 hv17
            replace h61 := Rp.mono eb125 h61
            refine gnm ?_
            refine sq ?_
            refine st_asg (K := K) hm N.ex (cp_op r2_mod (cp_int1 (cp_op r2_add (cp_op r2_add (cp_op r2_mul (cp_var rfl h128) cp_int) (cp_op r2_mul cp_int (cp_var rfl hv121))) cp_int)) cp_int) (by first | rfl | simp only [o2, Option.bind_assoc, Option.bind_some]) fun l_seed129 v130 B131 H132 _ hm g133 h134 => ?_
            replace N := N.pure g133
            replace eb21 := eb21.trans g133.b
            replace ee22 := ee22.trans g133.b
            replace eb125 := eb125.trans g133.b
            replace ee126 := ee126.trans g133.b
            replace hu0 := Rp.mono g133.b hu0
            replace hu1 := Rp.mono g133.b hu1
            replace hu2 := Rp.mono g133.b hu2
            replace hv17 := Rp.mono g133.b hv17
            replace h61 := Rp.mono g133.b h61
            replace hv121 := Rp.mono g133.b hv121
            refine gnx ?_
            refine st_dropS (K := K) hm N (cs_append ln_r rfl (Cp.s (cp_op r2_mod (cp_int1 (cp_op r2_div (cp_var rfl h134) cp_int)) cp_int))) (by first | rfl | simp only [o2, Option.bind_assoc, Option.bind_some]) fun _ s137 W138 B139 H140 hm N eb141 => ?_
            try dsimp only at hm
            replace eb21 := eb21.trans eb141
            replace ee22 := ee22.trans eb141
            replace eb125 := eb125.trans eb141
            replace ee126 := ee126.trans eb141
            replace hu0 := Rp.mono eb141 hu0
            replace hu1 := Rp.mono eb141 hu1
            replace hu2 := Rp.mono eb141 hu2
            replace hv17 := Rp.mono eb141 hv17
            replace h61 := Rp.mono eb141 h61
            replace hv121 := Rp.mono eb141 hv121
            replace h134 := Rp.mono eb141 h134
            cases hm
            exact hn122 _ _ _ ⟨_, v130, _, N, eb125, ee126, rfl, h134⟩
          · rintro Be s143 B145 σ H146 hm ⟨W144, w148, _, N, eb147, _, rfl, h149⟩
            replace eb21 := eb21.trans eb147
            replace ee22 := ee22.trans eb147
            replace hu0 := Rp.mono eb147 hu0
            replace hu1 := Rp.mono eb147 hu1
            replace hu2 := Rp.mono eb147 hu2
            replace hv17 := Rp.mono eb147 hv17
            replace h61 := Rp.mono eb147 h61
            cases hm
            exact hn18 _ _ _ ⟨_, _, _, _, _, N, eb21, ee22, rfl⟩
    · rintro Be s151 B153 σ H154 hm ⟨W152, _, _, _, _, N, eb155, _, rfl⟩
      replace hu0 := Rp.mono eb155 hu0
      replace hu1 := Rp.mono eb155 hu1
      replace hu2 := Rp.mono eb155 hu2
      refine gnx ?_
      obtain ⟨W156, B157, N, eb158, h159⟩ := N.freeze fp8
      replace hu0 := Rp.mono eb158 hu0
      replace hu1 := Rp.mono eb158 hu1
      replace hu2 := Rp.mono eb158 hu2
      refine st_ret (K := K) hm N.ex (cp_var rfl h159) rfl fun v B1 H1 g hv => ?_
      exact hQ v B1 H1 (N.g.then g) hv
end
abbrev s_l_draw : Stmt := top 7
theorem sc_l_draw : FnScope ["_law_box", "_law_many", "_law_at"] ["_law_box", "_law_many"] (defScope s_l_draw) := ⟨rfl, rfl, rfl, by decide +kernel, rfl, by decide +kernel, by decide +kernel⟩
abbrev sp_l_draw (K : Fg) : Sp := spM K (OwBox K) draw
theorem ok_l_draw {P : Program} {w : World} {K : Fg} {mg : Str → Option Value} {base : Heap} {f : Addr} {fd : FuncData} (F : FunD K "_law_draw" "_law_draw" (defArgs s_l_draw) (defBody s_l_draw) (defScope s_l_draw) [] [] f fd) (T : Tx K mg) : FnOk P w K mg base CX0 1 f fd ["_law_box", "_law_many"] (sp_l_draw K) := by
  have sc := sc_l_draw
  refine F.ok sc (fun vs H Q E h => ?_) (fun cdv A outer s H vs Q E hr h => ?_)
  · obtain ⟨a, us, W, B, s, t, r, s', rfl, _, _, _, _, ⟨v, _, rfl, _, hz⟩, _⟩ := h
    cases hz
    rfl
  · obtain ⟨b, us, W, B, rest, ⟨n, ⟨⟩⟩, r, s', rfl, ex, wx, d, ow, ⟨v, _, rfl, hv, hz⟩, hm, hQ⟩ := h
    cases hz
    cases (show v = .int n from hv)
    obtain ⟨u, ds, k, rfl, hu, rfl⟩ := ow
    obtain ⟨da, dvs, rfl, hd, pr⟩ := hu
    have hb : H b = some (.lst [.ref da, .int (k : Int)]) := wx b _ sing_at
    have hbd : da ≠ b := fun z => by
      subst z
      have := d da (nn sing_at)
      rw [hd] at this
      cases this
    have hdH : H da = some (.lst dvs) := ex _ _ hd
    refine ⟨_, PSs.nox (pss_cons (ps_set (i := 2) sc.nd rfl (.inl rfl) (pe_ix ix_list (pv 0) pe_int (fun _ _ => rfl)))
      (pss_cons (ps_asg (pe_op op_add (pv 2) pe_int) (pg_sub (pv 0) pe_int set_list))
      (pss_cons (ps_if (pt_cmpR op_lt (pv 2) (pe_callB call_len_ rfl T.free_len boot_len (pa_cons (pe_ix ix_list (pv 0) pe_int (fun _ _ => rfl)) pa_nil)) (nomark _))
        (pss_one (ps_ret (pe_op op_mod (pe_callTy call_int_ rfl T.free_int boot_int (pa_cons (pe_ix ix_list (pe_ix ix_list (pv 0) pe_int (fun _ _ => rfl)) (pv 2) (fun _ _ => rfl)) pa_nil)) (pv 1)))) pss_nil)
      (pss_one (ps_ret pe_int))))), ?_⟩
    refine ⟨_, rfl, b, _, 1, .int (k : Int), rfl, rfl, sq_lst hb, rfl, ?_⟩
    refine ⟨_, rfl, _, _, rfl, rfl, _, rfl, b, _, 0 + 1, 1, rfl, rfl, hb, rfl, ?_⟩
    have sw := sw_sing (o' := .lst [.ref da, .int ((k : Int) + 1)]) ex wx d
    have hb2 : (upd H b (.lst [.ref da, .int ((k : Int) + 1)])) b = some (.lst [.ref da, .int ((k : Int) + 1)]) := upd_same
    have hd2 : (upd H b (.lst [.ref da, .int ((k : Int) + 1)])) da = some (.lst dvs) := by rw [upd_ne hbd]; exact hdH
    have hl := pr_len pr
    refine ⟨_, rfl, _, rfl, b, _, 0, .ref da, rfl, rfl, sq_lst hb2, rfl, _, dvs.length, rfl, .inl ⟨dvs, sq_lst hd2, rfl⟩, _, _, rfl, rfl, decide ((k : Int) < (dvs.length : Int)), rfl, ?_⟩
    by_cases hk : k < ds.length
    · rw [decide_eq_true (by omega)]
      refine iteT ?_
      have ed : ds.drop k = ds[k] :: ds.drop (k + 1) := List.drop_eq_getElem_cons hk
      rw [ed] at hm
      obtain ⟨x, e1, e2⟩ := bd_some (show ((pmod ds[k] n).bind fun x => some (x, ds.drop (k + 1))) = some (r, s') from hm)
      cases e2
      obtain ⟨hn, e1⟩ := if_some e1
      subst e1
      have hx : at? ds (k : Int) = some ds[k] := by
        unfold at?
        rw [if_pos (by omega), Int.toNat_natCast]
        exact List.getElem?_eq_getElem hk
      obtain ⟨v2, hv2, rv2⟩ := atI_of pr hx
      cases (show v2 = .int _ from rv2)
      refine ⟨_, rfl, b, _, 0, .ref da, rfl, rfl, sq_lst hb2, rfl, _, rfl, da, dvs, (k : Int), _, rfl, rfl, sq_lst hd2, hv2, .inl ⟨_, rfl, _, rfl, _, _, rfl, rfl, hn, ?_⟩⟩
      exact hQ _ _ B _ sw ⟨.ref da, ds, k + 1, rfl, ⟨da, dvs, rfl, hd, pr⟩, rfl⟩ rfl
    · rw [decide_eq_false (by omega)]
      have ed : ds.drop k = [] := List.drop_eq_nil_of_le (by omega)
      rw [ed] at hm
      cases hm
      refine iteF ?_
      exact hQ _ _ B _ sw ⟨.ref da, ds, k + 1, rfl, ⟨da, dvs, rfl, hd, pr⟩, (List.drop_eq_nil_of_le (by omega)).symm⟩ rfl
section
variable {P : Program} {w : World} {K : Fg} {mg : Str → Option Value} {base : Heap}

def n_Unit___init__ (a_number : Int) (a_position : Int) : Option (Int × Int × Int × Int × Bool × Unit) :=
 (Option.bind (some a_number) fun x1 =>
 (Option.bind (some a_position) fun x6 =>
 (Option.bind (some (0 : Int)) fun x11 =>
 (Option.bind (some (0 : Int)) fun x16 =>
 (Option.bind (some true) fun x21 =>
 some (x1, x6, x11, x16, x21, ()))))))
def m_Unit___init__ (t : Int × Int × Unit) : Option (Int × Int × Int × Int × Bool × Unit) := n_Unit___init__ t.1 t.2.1
abbrev s_Unit___init__ : Stmt := inClass (top 3) 0
theorem sc_Unit___init__ : FnScope ["self", "number", "position"] ["self", "number", "position"] (defScope s_Unit___init__) := ⟨rfl, rfl, rfl, by decide +kernel, rfl, by decide +kernel, by decide +kernel⟩
abbrev sp_Unit___init__ (K : Fg) : Sp := spI K "Unit" (OwRec (τ := (Int × Int × Int × Int × Bool × Unit)) K "Unit" nm_Unit) m_Unit___init__
set_option maxHeartbeats 0 in
theorem ok_Unit___init__ {f : Addr} {fd : FuncData} (F : FunD K "__init__" "Unit.__init__" (defArgs s_Unit___init__) (defBody s_Unit___init__) (defScope s_Unit___init__) [] [] f fd) (T : Tx K mg)  : FnOk P w K mg base CX0 1 f fd ["self", "number", "position"] (sp_Unit___init__ K) := by
  have sc := sc_Unit___init__
  refine F.ok sc (fun vs H Q E h => ?_) (fun cdv A outer s H vs Q E hr h => ?_)
  · obtain ⟨pa, us, dxa, Bs, t, s9, rfl, _, _, _, _, _, _, ⟨u0, _, rfl, hu0, ⟨u1, _, rfl, hu1, hz⟩⟩, _⟩ := h
    cases hz
    rfl
  · obtain ⟨pa, us, dxa, Bs, ⟨a_number, a_position, ⟨⟩⟩, s9, rfl, ha, hdx, ne, ex, nb, nd, ⟨u0, _, rfl, hu0, ⟨u1, _, rfl, hu1, hz⟩⟩, hm, hQ⟩ := h
    cases hz
    replace hu0 : rp K Bs u0 a_number := hu0
    replace hu1 : rp K Bs u1 a_position := hu1
    replace hm : n_Unit___init__ a_number a_position = some s9 := hm
    obtain ⟨Hs, eHs⟩ : ∃ Hs, Hs = H := ⟨_, rfl⟩
    subst eHs
    have N := now_init (K := K) (C := "Unit") ex ha nb
    unfold n_Unit___init__ at hm
    refine ⟨_, PSs.nox (pss_cons (ps_fld (pv 0) (pv 1) rfl) (pss_cons (ps_fld (pv 0) (pv 2) rfl) (pss_cons (ps_fld (pv 0) pe_int rfl) (pss_cons (ps_fld (pv 0) pe_int rfl) (pss_one (ps_fld (pv 0) pe_bl rfl)))))), ?_⟩
    refine sq ?_
    refine st_addF (K := K) (nm := []) (nm' := ["number"]) (ad_nil) (by decide) rfl T.cls_Unit T.noat_Unit_number hm N (cp_var rfl hu0) rfl fun x1 W2 B3 H4 hm N eb5 => ?_
    replace hu0 := Rp.mono eb5 hu0
    replace hu1 := Rp.mono eb5 hu1
    refine gnx ?_
    refine sq ?_
    refine st_addF (K := K) (nm := ["number"]) (nm' := ["number", "position"]) (ad_cons (ad_nil)) (by decide) rfl T.cls_Unit T.noat_Unit_position hm N (cp_var rfl hu1) rfl fun x6 W7 B8 H9 hm N eb10 => ?_
    replace hu0 := Rp.mono eb10 hu0
    replace hu1 := Rp.mono eb10 hu1
    refine gnx ?_
    refine sq ?_
    refine st_addF (K := K) (nm := ["number", "position"]) (nm' := ["number", "position", "lives"]) (ad_cons (ad_cons (ad_nil))) (by decide) rfl T.cls_Unit T.noat_Unit_lives hm N cp_int rfl fun x11 W12 B13 H14 hm N eb15 => ?_
    replace hu0 := Rp.mono eb15 hu0
    replace hu1 := Rp.mono eb15 hu1
    refine gnx ?_
    refine sq ?_
    refine st_addF (K := K) (nm := ["number", "position", "lives"]) (nm' := ["number", "position", "lives", "done"]) (ad_cons (ad_cons (ad_cons (ad_nil)))) (by decide) rfl T.cls_Unit T.noat_Unit_done hm N cp_int rfl fun x16 W17 B18 H19 hm N eb20 => ?_
    replace hu0 := Rp.mono eb20 hu0
    replace hu1 := Rp.mono eb20 hu1
    refine gnx ?_
    refine st_addF (K := K) (nm := ["number", "position", "lives", "done"]) (nm' := ["number", "position", "lives", "done", "works"]) (ad_cons (ad_cons (ad_cons (ad_cons (ad_nil))))) (by decide) rfl T.cls_Unit T.noat_Unit_works hm N cp_bl rfl fun x21 W22 B23 H24 hm N eb25 => ?_
    replace hu0 := Rp.mono eb25 hu0
    replace hu1 := Rp.mono eb25 hu1
    cases hm
    exact hQ _ _ _ N.sw N.p
def n_Unit_told (st0 : (Int × Int × Int × Int × Bool × Unit))  : Option ((T6 Str Int Int Int Int Bool) × (Int × Int × Int × Int × Bool × Unit)) :=
 (Option.bind (some ((T6.mk ("told" : Str) st0.1 st0.2.2.1 st0.2.2.2.1 st0.2.1 st0.2.2.2.2.1), st0)) fun p9 => some (p9.1, p9.2))
def m_Unit_told (s : (Int × Int × Int × Int × Bool × Unit)) (t : Unit) : Option ((T6 Str Int Int Int Int Bool) × (Int × Int × Int × Int × Bool × Unit)) := n_Unit_told s 
abbrev s_Unit_told : Stmt := inClass (top 3) 1
theorem sc_Unit_told : FnScope ["self"] ["self"] (defScope s_Unit_told) := ⟨rfl, rfl, rfl, by decide +kernel, rfl, by decide +kernel, by decide +kernel⟩
abbrev sp_Unit_told (K : Fg) : Sp := spM K (fun pa => (OwRec (τ := (Int × Int × Int × Int × Bool × Unit)) K "Unit" nm_Unit pa)) m_Unit_told
set_option maxHeartbeats 0 in
theorem ok_Unit_told {f : Addr} {fd : FuncData} (F : FunD K "told" "Unit.told" (defArgs s_Unit_told) (defBody s_Unit_told) (defScope s_Unit_told) [] [] f fd) (T : Tx K mg)  : FnOk P w K mg base CX0 1 f fd ["self"] (sp_Unit_told K) := by
  have sc := sc_Unit_told
  refine F.ok sc (fun vs H Q E h => ?_) (fun cdv A outer s H vs Q E hr h => ?_)
  · obtain ⟨pa, us, W0, Bs, st0, t, r, s9, rfl, _, _, _, _, hz, _⟩ := h
    cases hz
    rfl
  · obtain ⟨pa, us, W0, Bs, st0, ⟨⟩, r, s9, rfl, ex, wx, dj, ow, hz, hm, hQ⟩ := h
    cases hz
    replace hm : n_Unit_told st0  = some (r, s9) := hm
    obtain ⟨Hs, eHs⟩ : ∃ Hs, Hs = H := ⟨_, rfl⟩
    subst eHs
    have N : Now (dom W0) Bs Hs (OwRec (τ := (Int × Int × Int × Int × Bool × Unit)) K "Unit" nm_Unit pa) W0 Bs Hs st0 := now0 ex wx dj ow
    unfold n_Unit_told at hm
    refine ⟨_, PSs.nox (pss_one (ps_ret (pe_tup (pa_cons (pe_gstr rfl T.str_TOLD) (pa_cons (pe_fld (pv 0) rfl) (pa_cons (pe_fld (pv 0) rfl) (pa_cons (pe_fld (pv 0) rfl) (pa_cons (pe_fld (pv 0) rfl) (pa_cons (pe_fld (pv 0) rfl) pa_nil))))))))), ?_⟩
    refine st_retS (K := K) hm N (cs_view fun W1 B1 s e1 d1 hP => (cp_tup6 (ca_cons cp_str (ca_cons (cp_recfld ln_id fd_Unit_number rfl T.cls_Unit T.noat_Unit_number hP d1) (ca_cons (cp_recfld ln_id fd_Unit_lives rfl T.cls_Unit T.noat_Unit_lives hP d1) (ca_cons (cp_recfld ln_id fd_Unit_done rfl T.cls_Unit T.noat_Unit_done hP d1) (ca_cons (cp_recfld ln_id fd_Unit_position rfl T.cls_Unit T.noat_Unit_position hP d1) (ca_cons (cp_recfld ln_id fd_Unit_works rfl T.cls_Unit T.noat_Unit_works hP d1) ca_nil)))))))) (by first | rfl | simp only [o2, Option.bind_assoc, Option.bind_some]) fun x1 s2 v3 W4 B5 H6 hm N eb7 h8 => ?_
    cases hm
    exact hQ _ _ _ _ N.sw N.p h8
def n_Unit_hear (st0 : (Int × Int × Int × Int × Bool × Unit)) (a_letter : Msg) : Option ((Option (T6 Str Int Int Int Int Bool)) × (Int × Int × Int × Int × Bool × Unit)) :=
 (Option.bind (Option.bind (Option.bind (o2 (Msg.i1 a_letter) (some st0.1) fun x y => some ((!decide (x = y)))) fun a => if a = true then some true else (o2 (Msg.i0 a_letter) (some ("told" : Str)) fun x y => some ((decide (x = y))))) fun x => some (x, st0)) fun b109 => if b109.1 = true then
 (Option.bind (some (none : (Option (T6 Str Int Int Int Int Bool)))) fun x => some (x, b109.2))
 else
 (Option.bind (Option.bind (Option.bind (Option.bind (o2 (Msg.i0 a_letter) (some ("move" : Str)) fun x y => some ((decide (x = y)))) fun a => if a = true then (Option.bind (o2 (Msg.i2 a_letter) (some b109.2.2.2.1) fun x y => some ((decide (x = y)))) fun a => if a = true then (Option.bind (o2 (Msg.i3 a_letter) (some (b109.2.2.2.2.1 + (1 : Int))) fun x y => some ((decide (x = y)))) fun a => if a = true then (some b109.2.2.2.2.2.1) else some false) else some false) else some false) fun x => some (x, b109.2)) fun b57 => if b57.1 = true then
 (Option.bind (Option.bind (some ((1 : Int), b57.2)) fun p23 => Option.bind (some (b57.2.2.2.2.1 + p23.1)) fun z => some (z, p23.2)) fun p31 =>
 (Option.bind (Option.bind (Msg.i4 a_letter) fun x => some (x, (p31.2.1, (p31.2.2.1, (p31.2.2.2.1, (p31.1, p31.2.2.2.2.2)))))) fun p30 =>
 (some ((p30.2.1, (p30.1, p30.2.2.2))))))
 else
 (some (b57.2))) fun z42 =>
 (Option.bind (Option.bind (Option.bind (m_Unit_told z42 ()) fun q47 => some (q47.1, q47.2)) fun p => some (some p.1, p.2)) fun p56 => some (p56.1, p56.2))))
def m_Unit_hear (s : (Int × Int × Int × Int × Bool × Unit)) (t : Msg × Unit) : Option ((Option (T6 Str Int Int Int Int Bool)) × (Int × Int × Int × Int × Bool × Unit)) := n_Unit_hear s t.1
abbrev s_Unit_hear : Stmt := inClass (top 3) 2
theorem sc_Unit_hear : FnScope ["self", "letter"] ["self", "letter"] (defScope s_Unit_hear) := ⟨rfl, rfl, rfl, by decide +kernel, rfl, by decide +kernel, by decide +kernel⟩
abbrev sp_Unit_hear (K : Fg) : Sp := spM K (fun pa => (OwRec (τ := (Int × Int × Int × Int × Bool × Unit)) K "Unit" nm_Unit pa)) m_Unit_hear
set_option maxHeartbeats 0 in
theorem ok_Unit_hear {f : Addr} {fd : FuncData} (F : FunD K "hear" "Unit.hear" (defArgs s_Unit_hear) (defBody s_Unit_hear) (defScope s_Unit_hear) [] [] f fd) (T : Tx K mg) (c_Unit_told : Mc P w K mg base 1 "Unit" "told" ["self"] (sp_Unit_told K)) : FnOk P w K mg base CX0 2 f fd ["self", "letter"] (sp_Unit_hear K) := by
  have sc := sc_Unit_hear
  refine F.ok sc (fun vs H Q E h => ?_) (fun cdv A outer s H vs Q E hr h => ?_)
  · obtain ⟨pa, us, W0, Bs, st0, t, r, s9, rfl, _, _, _, _, ⟨u0, _, rfl, hu0, hz⟩, _⟩ := h
    cases hz
    rfl
  · obtain ⟨pa, us, W0, Bs, st0, ⟨a_letter, ⟨⟩⟩, r, s9, rfl, ex, wx, dj, ow, ⟨u0, _, rfl, hu0, hz⟩, hm, hQ⟩ := h
    cases hz
    replace hu0 : rp K Bs u0 a_letter := hu0
    replace hm : n_Unit_hear st0 a_letter = some (r, s9) := hm
    obtain ⟨Hs, eHs⟩ : ∃ Hs, Hs = H := ⟨_, rfl⟩
    subst eHs
    have N : Now (dom W0) Bs Hs (OwRec (τ := (Int × Int × Int × Int × Bool × Unit)) K "Unit" nm_Unit pa) W0 Bs Hs st0 := now0 ex wx dj ow
    unfold n_Unit_hear at hm
    refine ⟨_, PSs.nox (pss_cons (ps_if (PW.pt (pw_or (pt_cmpR op_ne (pe_ix ix_tup (pv 1) pe_int (fun _ _ => rfl)) (pe_fld (pv 0) rfl) (nomark _)) (pw_or1 (pt_cmpR op_eq (pe_ix ix_tup (pv 1) pe_int (fun _ _ => rfl)) (pe_gstr rfl T.str_TOLD) (nomark _))))) (pss_one (ps_ret pe_non)) pss_nil) (pss_cons (ps_if (PW.pt (pw_and (pt_cmpR op_eq (pe_ix ix_tup (pv 1) pe_int (fun _ _ => rfl)) (pe_gstr rfl T.str_MOVE) (nomark _)) (pw_and (pt_cmpR op_eq (pe_ix ix_tup (pv 1) pe_int (fun _ _ => rfl)) (pe_fld (pv 0) rfl) (nomark _)) (pw_and (pt_cmpR op_eq (pe_ix ix_tup (pv 1) pe_int (fun _ _ => rfl)) (pe_op op_add (pe_fld (pv 0) rfl) pe_int) (nomark _)) (pw_and1 (pt_val (pe_fld (pv 0) rfl))))))) (pss_cons (ps_fldaug (pv 0) pe_int in_add) (pss_one (ps_fld (pv 0) (pe_ix ix_tup (pv 1) pe_int (fun _ _ => rfl)) rfl))) pss_nil) (pss_one (ps_ret (pe_mfc0 (pv 0) T.cls_Unit c_Unit_told hr (by decide)))))), ?_⟩
    refine sq ?_
    refine st_ifS hm N (cst_view fun W1 B1 s e1 d1 hP => (ct_or (ct_test (cp_op r2_ne (cp_ixTo msg_1 (cp_var rfl (Rp.mono (e1.trans (ex_uni_r d1)) hu0))) (cp_recfld ln_id fd_Unit_number rfl T.cls_Unit T.noat_Unit_number hP d1))) (ct_test (cp_op r2_eq (cp_ixTo msg_0 (cp_var rfl (Rp.mono (e1.trans (ex_uni_r d1)) hu0))) cp_str)))) (by first | rfl | simp only [o2, Option.bind_assoc, Option.bind_some]) (fun s1 W2 B3 H4 hc5 hm N eb6 => ?_) (fun s1 W2 B3 H4 hc5 hm N eb6 => ?_)
    · try dsimp only at hm
      replace hu0 := Rp.mono eb6 hu0
      refine st_retF (K := K) (m' := (some (none : (Option (T6 Str Int Int Int Int Bool))))) hm N.ex (cp_nonO (α := (T6 Str Int Int Int Int Bool))) rfl fun x v B1 H1 hm g hv => ?_
      cases hm
      replace N := N.pure g
      exact hQ _ _ _ _ N.sw N.p hv
    · try dsimp only at hm
      replace hu0 := Rp.mono eb6 hu0
      refine nxt ?_
      refine gnx ?_
      refine sq ?_
      refine st_ifJS hm (fun (z : (Int × Int × Int × Int × Bool × Unit)) σ H => ∃ (W B : Hp), Now (dom W0) Bs Hs (OwRec (τ := (Int × Int × Int × Int × Bool × Unit)) K "Unit" nm_Unit pa) W B H z ∧ Ex B3 B ∧ σ = [some (.ref pa), some u0]) N (cst_view fun W1 B1 s e1 d1 hP => (ct_and (ct_test (cp_op r2_eq (cp_ixTo msg_0 (cp_var rfl (Rp.mono (e1.trans (ex_uni_r d1)) hu0))) cp_str)) (ct_and (ct_test (cp_op r2_eq (cp_ixTo msg_2 (cp_var rfl (Rp.mono (e1.trans (ex_uni_r d1)) hu0))) (cp_recfld ln_id fd_Unit_lives rfl T.cls_Unit T.noat_Unit_lives hP d1))) (ct_and (ct_test (cp_op r2_eq (cp_ixTo msg_3 (cp_var rfl (Rp.mono (e1.trans (ex_uni_r d1)) hu0))) (cp_op r2_add (cp_recfld ln_id fd_Unit_done rfl T.cls_Unit T.noat_Unit_done hP d1) cp_int))) (ct_B (cp_recfld ln_id fd_Unit_works rfl T.cls_Unit T.noat_Unit_works hP d1)))))) (by first | rfl | simp only [o2, Option.bind_assoc, Option.bind_some]) ?_ ?_ ?_
      · intro z7 s8 W9 B10 H11 N12 hc13 hm N ej16 hn15
        try dsimp only at hm
        replace hu0 := Rp.mono ej16 hu0
        refine sq ?_
        refine st_augF (K := K) ln_id fd_Unit_done (by decide) rfl T.cls_Unit T.noat_Unit_done r2_add hm N (Cp.s cp_int) (by first | rfl | simp only [o2, Option.bind_assoc, Option.bind_some]) fun x17 s18 W19 B20 H21 hm N eb22 => ?_
        try dsimp only at hm
        replace ej16 := ej16.trans eb22
        replace hu0 := Rp.mono eb22 hu0
        refine gnx ?_
        refine st_setF (K := K) ln_id fd_Unit_position (by decide) rfl T.cls_Unit T.noat_Unit_position hm N (Cp.s (cp_ixTo msg_4 (cp_var rfl hu0))) (by first | rfl | simp only [o2, Option.bind_assoc, Option.bind_some]) fun x24 s25 W26 B27 H28 hm N eb29 => ?_
        try dsimp only at hm
        replace ej16 := ej16.trans eb29
        replace hu0 := Rp.mono eb29 hu0
        cases hm
        exact hn15 _ _ ⟨_, _, N, ej16, rfl⟩
      · intro z32 s33 W34 B35 H36 N37 hc38 hm N ej41 hn40
        try dsimp only at hm
        replace hu0 := Rp.mono ej41 hu0
        refine nxt ?_
        cases hm
        exact hn40 _ _ ⟨_, _, N, ej41, rfl⟩
      · rintro z42 σ H45 hm ⟨W43, B44, N, eb46, rfl⟩
        replace hu0 := Rp.mono eb46 hu0
        refine gnx ?_
        refine st_retS (K := K) hm N (Cs.opt (cs_methM ln_id rfl (rec_obj no_Unit_told) csa_nil)) (by first | rfl | simp only [o2, Option.bind_assoc, Option.bind_some]) fun x48 s49 v50 W51 B52 H53 hm N eb54 h55 => ?_
        cases hm
        exact hQ _ _ _ _ N.sw N.p h55
def n_Unit_fail (st0 : (Int × Int × Int × Int × Bool × Unit))  : Option (Unit × (Int × Int × Int × Int × Bool × Unit)) :=
 (Option.bind (some (false, st0)) fun p7 =>
 some ((), (p7.2.1, (p7.2.2.1, (p7.2.2.2.1, (p7.2.2.2.2.1, (p7.1, p7.2.2.2.2.2.2)))))))
def m_Unit_fail (s : (Int × Int × Int × Int × Bool × Unit)) (t : Unit) : Option (Unit × (Int × Int × Int × Int × Bool × Unit)) := n_Unit_fail s 
abbrev s_Unit_fail : Stmt := inClass (top 3) 3
theorem sc_Unit_fail : FnScope ["self"] ["self"] (defScope s_Unit_fail) := ⟨rfl, rfl, rfl, by decide +kernel, rfl, by decide +kernel, by decide +kernel⟩
abbrev sp_Unit_fail (K : Fg) : Sp := spM K (fun pa => (OwRec (τ := (Int × Int × Int × Int × Bool × Unit)) K "Unit" nm_Unit pa)) m_Unit_fail
set_option maxHeartbeats 0 in
theorem ok_Unit_fail {f : Addr} {fd : FuncData} (F : FunD K "fail" "Unit.fail" (defArgs s_Unit_fail) (defBody s_Unit_fail) (defScope s_Unit_fail) [] [] f fd) (T : Tx K mg)  : FnOk P w K mg base CX0 1 f fd ["self"] (sp_Unit_fail K) := by
  have sc := sc_Unit_fail
  refine F.ok sc (fun vs H Q E h => ?_) (fun cdv A outer s H vs Q E hr h => ?_)
  · obtain ⟨pa, us, W0, Bs, st0, t, r, s9, rfl, _, _, _, _, hz, _⟩ := h
    cases hz
    rfl
  · obtain ⟨pa, us, W0, Bs, st0, ⟨⟩, r, s9, rfl, ex, wx, dj, ow, hz, hm, hQ⟩ := h
    cases hz
    replace hm : n_Unit_fail st0  = some (r, s9) := hm
    obtain ⟨Hs, eHs⟩ : ∃ Hs, Hs = H := ⟨_, rfl⟩
    subst eHs
    have N : Now (dom W0) Bs Hs (OwRec (τ := (Int × Int × Int × Int × Bool × Unit)) K "Unit" nm_Unit pa) W0 Bs Hs st0 := now0 ex wx dj ow
    unfold n_Unit_fail at hm
    refine ⟨_, PSs.nox (pss_one (ps_fld (pv 0) pe_bl rfl)), ?_⟩
    refine st_setF (K := K) ln_id fd_Unit_works (by decide) rfl T.cls_Unit T.noat_Unit_works hm N (Cp.s cp_bl) (by first | rfl | simp only [o2, Option.bind_assoc, Option.bind_some]) fun x1 s2 W3 B4 H5 hm N eb6 => ?_
    try dsimp only at hm
    cases hm
    exact hQ .non _ _ _ N.sw N.p rfl
def n_Unit_repair (st0 : (Int × Int × Int × Int × Bool × Unit)) (a_position : Int) : Option (Unit × (Int × Int × Int × Int × Bool × Unit)) :=
 (Option.bind (some (a_position, st0)) fun p29 =>
 (Option.bind (Option.bind (some ((1 : Int), (p29.2.1, (p29.1, p29.2.2.2)))) fun p13 => Option.bind (some ((p29.2.1, (p29.1, p29.2.2.2)).2.2.1 + p13.1)) fun z => some (z, p13.2)) fun p28 =>
 (Option.bind (some ((0 : Int), (p28.2.1, (p28.2.2.1, (p28.1, p28.2.2.2.2))))) fun p27 =>
 (Option.bind (some (true, (p27.2.1, (p27.2.2.1, (p27.2.2.2.1, (p27.1, p27.2.2.2.2.2)))))) fun p26 =>
 some ((), (p26.2.1, (p26.2.2.1, (p26.2.2.2.1, (p26.2.2.2.2.1, (p26.1, p26.2.2.2.2.2.2))))))))))
def m_Unit_repair (s : (Int × Int × Int × Int × Bool × Unit)) (t : Int × Unit) : Option (Unit × (Int × Int × Int × Int × Bool × Unit)) := n_Unit_repair s t.1
abbrev s_Unit_repair : Stmt := inClass (top 3) 4
theorem sc_Unit_repair : FnScope ["self", "position"] ["self", "position"] (defScope s_Unit_repair) := ⟨rfl, rfl, rfl, by decide +kernel, rfl, by decide +kernel, by decide +kernel⟩
abbrev sp_Unit_repair (K : Fg) : Sp := spM K (fun pa => (OwRec (τ := (Int × Int × Int × Int × Bool × Unit)) K "Unit" nm_Unit pa)) m_Unit_repair
set_option maxHeartbeats 0 in
theorem ok_Unit_repair {f : Addr} {fd : FuncData} (F : FunD K "repair" "Unit.repair" (defArgs s_Unit_repair) (defBody s_Unit_repair) (defScope s_Unit_repair) [] [] f fd) (T : Tx K mg)  : FnOk P w K mg base CX0 1 f fd ["self", "position"] (sp_Unit_repair K) := by
  have sc := sc_Unit_repair
  refine F.ok sc (fun vs H Q E h => ?_) (fun cdv A outer s H vs Q E hr h => ?_)
  · obtain ⟨pa, us, W0, Bs, st0, t, r, s9, rfl, _, _, _, _, ⟨u0, _, rfl, hu0, hz⟩, _⟩ := h
    cases hz
    rfl
  · obtain ⟨pa, us, W0, Bs, st0, ⟨a_position, ⟨⟩⟩, r, s9, rfl, ex, wx, dj, ow, ⟨u0, _, rfl, hu0, hz⟩, hm, hQ⟩ := h
    cases hz
    replace hu0 : rp K Bs u0 a_position := hu0
    replace hm : n_Unit_repair st0 a_position = some (r, s9) := hm
    obtain ⟨Hs, eHs⟩ : ∃ Hs, Hs = H := ⟨_, rfl⟩
    subst eHs
    have N : Now (dom W0) Bs Hs (OwRec (τ := (Int × Int × Int × Int × Bool × Unit)) K "Unit" nm_Unit pa) W0 Bs Hs st0 := now0 ex wx dj ow
    unfold n_Unit_repair at hm
    refine ⟨_, PSs.nox (pss_cons (ps_fld (pv 0) (pv 1) rfl) (pss_cons (ps_fldaug (pv 0) pe_int in_add) (pss_cons (ps_fld (pv 0) pe_int rfl) (pss_one (ps_fld (pv 0) pe_bl rfl))))), ?_⟩
    refine sq ?_
    refine st_setF (K := K) ln_id fd_Unit_position (by decide) rfl T.cls_Unit T.noat_Unit_position hm N (Cp.s (cp_var rfl hu0)) (by first | rfl | simp only [o2, Option.bind_assoc, Option.bind_some]) fun x1 s2 W3 B4 H5 hm N eb6 => ?_
    try dsimp only at hm
    replace hu0 := Rp.mono eb6 hu0
    refine gnx ?_
    refine sq ?_
    refine st_augF (K := K) ln_id fd_Unit_lives (by decide) rfl T.cls_Unit T.noat_Unit_lives r2_add hm N (Cp.s cp_int) (by first | rfl | simp only [o2, Option.bind_assoc, Option.bind_some]) fun x7 s8 W9 B10 H11 hm N eb12 => ?_
    try dsimp only at hm
    replace hu0 := Rp.mono eb12 hu0
    refine gnx ?_
    refine sq ?_
    refine st_setF (K := K) ln_id fd_Unit_done (by decide) rfl T.cls_Unit T.noat_Unit_done hm N (Cp.s cp_int) (by first | rfl | simp only [o2, Option.bind_assoc, Option.bind_some]) fun x14 s15 W16 B17 H18 hm N eb19 => ?_
    try dsimp only at hm
    replace hu0 := Rp.mono eb19 hu0
    refine gnx ?_
    refine st_setF (K := K) ln_id fd_Unit_works (by decide) rfl T.cls_Unit T.noat_Unit_works hm N (Cp.s cp_bl) (by first | rfl | simp only [o2, Option.bind_assoc, Option.bind_some]) fun x20 s21 W22 B23 H24 hm N eb25 => ?_
    try dsimp only at hm
    replace hu0 := Rp.mono eb25 hu0
    cases hm
    exact hQ .non _ _ _ N.sw N.p rfl
def m_law_b1 (p_l_script : Scr) (p_l_number : Int) (p_l_turn : Int) (p_st : ((List Int) × (Int × Int × Int × Int × Bool × Unit))) (p_l_done : Int) (p_l_position : Int) (p_l_works : Bool) (p_l_lives : Int) : Option (Fl (((List Int) × (Int × Int × Int × Int × Bool × Unit)) × Int × Int × Bool × Int) (Bool)) :=
 (Option.bind (Option.bind (draw p_st.1 ((8 : Int), ())) fun q79 => some (q79.1, (q79.2, p_st.2))) fun p1290 =>
 (Option.bind (some true) fun l_answered88 =>
 (Option.bind (some (none : (Option (T6 Str Int Int Int Int Bool)))) fun l_actual94 =>
 (Option.bind (some ((decide (p1290.1 < (4 : Int))))) fun b => if b = true then
 (Option.bind (Option.bind (some (p_l_lives, p1290.2)) fun p108 => Option.bind (Option.bind (Option.bind (plst ([(0 : Int), (0 : Int), (0 : Int), (-(1 : Int)), (1 : Int)])) fun x => some (x, p108.2)) fun p106 => Option.bind (Option.bind (draw p106.2.1 ((5 : Int), ())) fun q105 => some (q105.1, (q105.2, p106.2.2))) fun q107 => Option.bind (at? p106.1 q107.1) fun z => some (z, q107.2)) fun q109 => Option.bind (some (p108.1 + q109.1)) fun z => some (z, q109.2)) fun p384 =>
 (Option.bind (Option.bind (some (p_l_done, p384.2)) fun p122 => Option.bind (Option.bind (Option.bind (plst ([(1 : Int), (1 : Int), (1 : Int), (0 : Int), (-(1 : Int)), (2 : Int)])) fun x => some (x, p122.2)) fun p120 => Option.bind (Option.bind (draw p120.2.1 ((6 : Int), ())) fun q119 => some (q119.1, (q119.2, p120.2.2))) fun q121 => Option.bind (at? p120.1 q121.1) fun z => some (z, q121.2)) fun q123 => Option.bind (some (p122.1 + q123.1)) fun z => some (z, q123.2)) fun p383 =>
 (Option.bind (Option.bind (draw p383.2.1 ((50 : Int), ())) fun q133 => some (q133.1, (q133.2, p383.2.2))) fun p382 =>
 (Option.bind (Option.bind (m_Unit_hear p382.2.2 ((Msg.move (T5.mk ("move" : Str) p_l_number p384.1 p383.1 p382.1)), ())) fun q143 => some (q143.1, (p382.2.1, q143.2))) fun p381 =>
 (Option.bind (Option.bind (some ((decide (p384.1 = p_l_lives)))) fun a => if a = true then (Option.bind (some ((decide (p383.1 = (p_l_done + (1 : Int)))))) fun a => if a = true then (some p_l_works) else some false) else some false) fun b => if b = true then
 (Option.bind (some (p_l_done + (1 : Int))) fun l_done156 =>
 (Option.bind (some p382.1) fun l_position162 =>
 (Option.bind (some (T6.mk ("told" : Str) p_l_number p_l_lives l_done156 l_position162 p_l_works)) fun l_due168 =>
 (Option.bind (Option.bind (some l_answered88) fun a => if a = true then (Option.bind (some (!(p381.1.isSome))) fun a => if a = true then some true else (some ((!decide (p381.1 = (some l_due168)))))) else some false) fun b => if b = true then
 (Option.bind (some false) fun x => some (.rt x))
 else
 (Option.bind (Option.bind (Option.bind (Option.bind (m_Unit_told p381.2.2 ()) fun q179 => some (q179.1, (p381.2.1, q179.2))) fun p180 => Option.bind (some (l_due168, p180.2)) fun q181 => Option.bind (some ((!decide (p180.1 = q181.1)))) fun z => some (z, q181.2)) fun p184 => if p184.1 = true then some (true, p184.2) else (Option.bind (some (((!decide (p184.2.2.1 = p_l_number))), p184.2)) fun p183 => if p183.1 = true then some (true, p183.2) else (Option.bind (some (((!decide (p183.2.2.2.1 = l_position162))), p183.2)) fun p182 => if p182.1 = true then some (true, p182.2) else (some (((!decide (p182.2.2.2.2.1 = p_l_lives))), p182.2))))) fun b208 => if b208.1 = true then
 (Option.bind (some false) fun x => some (.rt x))
 else
 (Option.bind (Option.bind (Option.bind (some ((!decide (b208.2.2.2.2.2.1 = l_done156)))) fun a => if a = true then some true else (some ((!decide (b208.2.2.2.2.2.2.1 = p_l_works))))) fun x => some (x, b208.2)) fun b199 => if b199.1 = true then
 (Option.bind (some false) fun x => some (.rt x))
 else
 some (.nx (b199.2, l_done156, l_position162, p_l_works, p_l_lives))))))))
 else
 (Option.bind (some (T6.mk ("told" : Str) p_l_number p_l_lives p_l_done p_l_position p_l_works)) fun l_due239 =>
 (Option.bind (Option.bind (some l_answered88) fun a => if a = true then (Option.bind (some (!(p381.1.isSome))) fun a => if a = true then some true else (some ((!decide (p381.1 = (some l_due239)))))) else some false) fun b => if b = true then
 (Option.bind (some false) fun x => some (.rt x))
 else
 (Option.bind (Option.bind (Option.bind (Option.bind (m_Unit_told p381.2.2 ()) fun q250 => some (q250.1, (p381.2.1, q250.2))) fun p251 => Option.bind (some (l_due239, p251.2)) fun q252 => Option.bind (some ((!decide (p251.1 = q252.1)))) fun z => some (z, q252.2)) fun p255 => if p255.1 = true then some (true, p255.2) else (Option.bind (some (((!decide (p255.2.2.1 = p_l_number))), p255.2)) fun p254 => if p254.1 = true then some (true, p254.2) else (Option.bind (some (((!decide (p254.2.2.2.1 = p_l_position))), p254.2)) fun p253 => if p253.1 = true then some (true, p253.2) else (some (((!decide (p253.2.2.2.2.1 = p_l_lives))), p253.2))))) fun b279 => if b279.1 = true then
 (Option.bind (some false) fun x => some (.rt x))
 else
 (Option.bind (Option.bind (Option.bind (some ((!decide (b279.2.2.2.2.2.1 = p_l_done)))) fun a => if a = true then some true else (some ((!decide (b279.2.2.2.2.2.2.1 = p_l_works))))) fun x => some (x, b279.2)) fun b270 => if b270.1 = true then
 (Option.bind (some false) fun x => some (.rt x))
 else
 some (.nx (b270.2, p_l_done, p_l_position, p_l_works, p_l_lives)))))))))))
 else
 (Option.bind (some ((decide (p1290.1 = (4 : Int))))) fun b => if b = true then
 (Option.bind (Option.bind (m_Unit_hear p1290.2.2 ((Msg.ask (("ask" : Str), p_l_number)), ())) fun q390 => some (q390.1, (p1290.2.1, q390.2))) fun p470 =>
 (Option.bind (some (T6.mk ("told" : Str) p_l_number p_l_lives p_l_done p_l_position p_l_works)) fun l_due399 =>
 (Option.bind (Option.bind (some l_answered88) fun a => if a = true then (Option.bind (some (!(p470.1.isSome))) fun a => if a = true then some true else (some ((!decide (p470.1 = (some l_due399)))))) else some false) fun b => if b = true then
 (Option.bind (some false) fun x => some (.rt x))
 else
 (Option.bind (Option.bind (Option.bind (Option.bind (m_Unit_told p470.2.2 ()) fun q410 => some (q410.1, (p470.2.1, q410.2))) fun p411 => Option.bind (some (l_due399, p411.2)) fun q412 => Option.bind (some ((!decide (p411.1 = q412.1)))) fun z => some (z, q412.2)) fun p415 => if p415.1 = true then some (true, p415.2) else (Option.bind (some (((!decide (p415.2.2.1 = p_l_number))), p415.2)) fun p414 => if p414.1 = true then some (true, p414.2) else (Option.bind (some (((!decide (p414.2.2.2.1 = p_l_position))), p414.2)) fun p413 => if p413.1 = true then some (true, p413.2) else (some (((!decide (p413.2.2.2.2.1 = p_l_lives))), p413.2))))) fun b439 => if b439.1 = true then
 (Option.bind (some false) fun x => some (.rt x))
 else
 (Option.bind (Option.bind (Option.bind (some ((!decide (b439.2.2.2.2.2.1 = p_l_done)))) fun a => if a = true then some true else (some ((!decide (b439.2.2.2.2.2.2.1 = p_l_works))))) fun x => some (x, b439.2)) fun b430 => if b430.1 = true then
 (Option.bind (some false) fun x => some (.rt x))
 else
 some (.nx (b430.2, p_l_done, p_l_position, p_l_works, p_l_lives)))))))
 else
 (Option.bind (some ((decide (p1290.1 = (5 : Int))))) fun b => if b = true then
 (Option.bind (some false) fun l_answered475 =>
 (Option.bind (Option.bind (Option.bind (Option.bind (m_Unit_hear p1290.2.2 ((Msg.ask (("ask" : Str), (p_l_number + (1 : Int)))), ())) fun q482 => some (q482.1, (p1290.2.1, q482.2))) fun p => some (p.1.isSome, p.2)) fun p485 => if p485.1 = true then some (true, p485.2) else (Option.bind (Option.bind (m_Unit_hear p485.2.2 ((Msg.move (T5.mk ("move" : Str) (p_l_number + (1 : Int)) p_l_lives (p_l_done + (1 : Int)) (3 : Int))), ())) fun q484 => some (q484.1, (p485.2.1, q484.2))) fun p => some (p.1.isSome, p.2))) fun b797 => if b797.1 = true then
 (Option.bind (some false) fun x => some (.rt x))
 else
 (Option.bind (Option.bind (Option.bind (m_Unit_hear b797.2.2 ((Msg.told (T6.mk ("told" : Str) p_l_number p_l_lives (p_l_done + (1 : Int)) (4 : Int) true)), ())) fun q494 => some (q494.1, (b797.2.1, q494.2))) fun p => some (p.1.isSome, p.2)) fun b644 => if b644.1 = true then
 (Option.bind (some false) fun x => some (.rt x))
 else
 (Option.bind (some (T6.mk ("told" : Str) p_l_number p_l_lives p_l_done p_l_position p_l_works)) fun l_due502 =>
 (Option.bind (Option.bind (some l_answered475) fun a => if a = true then (Option.bind (some (!(l_actual94.isSome))) fun a => if a = true then some true else (some ((!decide (l_actual94 = (some l_due502)))))) else some false) fun b => if b = true then
 (Option.bind (some false) fun x => some (.rt x))
 else
 (Option.bind (Option.bind (Option.bind (Option.bind (m_Unit_told b644.2.2 ()) fun q513 => some (q513.1, (b644.2.1, q513.2))) fun p514 => Option.bind (some (l_due502, p514.2)) fun q515 => Option.bind (some ((!decide (p514.1 = q515.1)))) fun z => some (z, q515.2)) fun p518 => if p518.1 = true then some (true, p518.2) else (Option.bind (some (((!decide (p518.2.2.1 = p_l_number))), p518.2)) fun p517 => if p517.1 = true then some (true, p517.2) else (Option.bind (some (((!decide (p517.2.2.2.1 = p_l_position))), p517.2)) fun p516 => if p516.1 = true then some (true, p516.2) else (some (((!decide (p516.2.2.2.2.1 = p_l_lives))), p516.2))))) fun b542 => if b542.1 = true then
 (Option.bind (some false) fun x => some (.rt x))
 else
 (Option.bind (Option.bind (Option.bind (some ((!decide (b542.2.2.2.2.2.1 = p_l_done)))) fun a => if a = true then some true else (some ((!decide (b542.2.2.2.2.2.2.1 = p_l_works))))) fun x => some (x, b542.2)) fun b533 => if b533.1 = true then
 (Option.bind (some false) fun x => some (.rt x))
 else
 some (.nx (b533.2, p_l_done, p_l_position, p_l_works, p_l_lives)))))))))
 else
 (Option.bind (some ((decide (p1290.1 = (6 : Int))))) fun b => if b = true then
 (Option.bind (some false) fun l_answered802 =>
 (Option.bind (Option.bind (m_Unit_fail p1290.2.2 ()) fun q808 => some (q808.1, (p1290.2.1, q808.2))) fun p891 =>
 (Option.bind (some false) fun l_works814 =>
 (Option.bind (some (T6.mk ("told" : Str) p_l_number p_l_lives p_l_done p_l_position l_works814)) fun l_due820 =>
 (Option.bind (Option.bind (some l_answered802) fun a => if a = true then (Option.bind (some (!(l_actual94.isSome))) fun a => if a = true then some true else (some ((!decide (l_actual94 = (some l_due820)))))) else some false) fun b => if b = true then
 (Option.bind (some false) fun x => some (.rt x))
 else
 (Option.bind (Option.bind (Option.bind (Option.bind (m_Unit_told p891.2.2 ()) fun q831 => some (q831.1, (p891.2.1, q831.2))) fun p832 => Option.bind (some (l_due820, p832.2)) fun q833 => Option.bind (some ((!decide (p832.1 = q833.1)))) fun z => some (z, q833.2)) fun p836 => if p836.1 = true then some (true, p836.2) else (Option.bind (some (((!decide (p836.2.2.1 = p_l_number))), p836.2)) fun p835 => if p835.1 = true then some (true, p835.2) else (Option.bind (some (((!decide (p835.2.2.2.1 = p_l_position))), p835.2)) fun p834 => if p834.1 = true then some (true, p834.2) else (some (((!decide (p834.2.2.2.2.1 = p_l_lives))), p834.2))))) fun b860 => if b860.1 = true then
 (Option.bind (some false) fun x => some (.rt x))
 else
 (Option.bind (Option.bind (Option.bind (some ((!decide (b860.2.2.2.2.2.1 = p_l_done)))) fun a => if a = true then some true else (some ((!decide (b860.2.2.2.2.2.2.1 = l_works814))))) fun x => some (x, b860.2)) fun b851 => if b851.1 = true then
 (Option.bind (some false) fun x => some (.rt x))
 else
 some (.nx (b851.2, p_l_done, p_l_position, l_works814, p_l_lives)))))))))
 else
 (Option.bind (some false) fun l_answered892 =>
 (Option.bind (Option.bind (draw p1290.2.1 ((50 : Int), ())) fun q899 => some (q899.1, (q899.2, p1290.2.2))) fun p1005 =>
 (Option.bind (Option.bind (m_Unit_repair p1005.2.2 (p1005.1, ())) fun q909 => some (q909.1, (p1005.2.1, q909.2))) fun p1004 =>
 (Option.bind (some (p_l_lives + (1 : Int))) fun l_lives915 =>
 (Option.bind (some (0 : Int)) fun l_done921 =>
 (Option.bind (some true) fun l_works927 =>
 (Option.bind (some (T6.mk ("told" : Str) p_l_number l_lives915 l_done921 p1005.1 l_works927)) fun l_due933 =>
 (Option.bind (Option.bind (some l_answered892) fun a => if a = true then (Option.bind (some (!(l_actual94.isSome))) fun a => if a = true then some true else (some ((!decide (l_actual94 = (some l_due933)))))) else some false) fun b => if b = true then
 (Option.bind (some false) fun x => some (.rt x))
 else
 (Option.bind (Option.bind (Option.bind (Option.bind (m_Unit_told p1004.2.2 ()) fun q944 => some (q944.1, (p1004.2.1, q944.2))) fun p945 => Option.bind (some (l_due933, p945.2)) fun q946 => Option.bind (some ((!decide (p945.1 = q946.1)))) fun z => some (z, q946.2)) fun p949 => if p949.1 = true then some (true, p949.2) else (Option.bind (some (((!decide (p949.2.2.1 = p_l_number))), p949.2)) fun p948 => if p948.1 = true then some (true, p948.2) else (Option.bind (some (((!decide (p948.2.2.2.1 = p1005.1))), p948.2)) fun p947 => if p947.1 = true then some (true, p947.2) else (some (((!decide (p947.2.2.2.2.1 = l_lives915))), p947.2))))) fun b973 => if b973.1 = true then
 (Option.bind (some false) fun x => some (.rt x))
 else
 (Option.bind (Option.bind (Option.bind (some ((!decide (b973.2.2.2.2.2.1 = l_done921)))) fun a => if a = true then some true else (some ((!decide (b973.2.2.2.2.2.2.1 = l_works927))))) fun x => some (x, b973.2)) fun b964 => if b964.1 = true then
 (Option.bind (some false) fun x => some (.rt x))
 else
 some (.nx (b964.2, l_done921, p1005.1, l_works927, l_lives915)))))))))))))))))))
def m_law (a_l_script : Scr) : Option Bool :=
 (Option.bind (m_l_digits a_l_script (0 : Int) (63 : Int)) fun ds1 =>
 (Option.bind (Option.bind (draw ds1 ((5 : Int), ())) fun q9 => some (q9.1, q9.2)) fun p1307 =>
 (Option.bind (Option.bind (draw p1307.2 ((50 : Int), ())) fun q19 => some (q19.1, q19.2)) fun p1306 =>
 (Option.bind (m_Unit___init__ (p1307.1, p1306.1, ())) fun l_unit28 =>
 (Option.bind (some (0 : Int)) fun l_lives36 =>
 (Option.bind (some (0 : Int)) fun l_done42 =>
 (Option.bind (some true) fun l_works48 =>
 (Option.bind (Option.bind (draw (p1306.2, l_unit28).1 ((41 : Int), ())) fun q55 => some (q55.1, (q55.2, (p1306.2, l_unit28).2))) fun p1291 => Option.bind (Option.bind (some p1291.1) fun n => prange1 n) fun xs => Option.bind (forF (fun x (s : ((List Int) × (Int × Int × Int × Int × Bool × Unit)) × Int × Int × Bool × Int) => m_law_b1 a_l_script p1307.1 x s.1 s.2.1 s.2.2.1 s.2.2.2.1 s.2.2.2.2) xs (p1291.2, l_done42, p1306.1, l_works48, l_lives36)) fun f => match f with
 | .nx s1292 =>
 (some true)
 | .bk _ => none
 | .rt r => some r))))))))
abbrev s_law : Stmt := top 8
theorem sc_law : FnScope ["_law_script", "_law_box", "_law_number", "_law_position", "_law_unit", "_law_lives", "_law_done", "_law_works", "_law_turn", "_law_kind", "_law_answered", "_law_actual", "_law_life", "_law_count", "_law_to", "_law_due"] ["_law_script"] (defScope s_law) := ⟨rfl, rfl, rfl, by decide +kernel, rfl, by decide +kernel, by decide +kernel⟩
abbrev sp_law (K : Fg) : Sp := spP K (fun t : Scr × Unit => m_law t.1)
set_option maxHeartbeats 0 in
theorem ok_law {f : Addr} {fd : FuncData} (F : FunD K "law" "law" (defArgs s_law) (defBody s_law) (defScope s_law) [] [] f fd) (T : Tx K mg) (c_Unit___init__ : Mc P w K mg base 1 "Unit" "__init__" ["self", "number", "position"] (sp_Unit___init__ K)) (c_Unit_fail : Mc P w K mg base 1 "Unit" "fail" ["self"] (sp_Unit_fail K)) (c_Unit_hear : Mc P w K mg base 2 "Unit" "hear" ["self", "letter"] (sp_Unit_hear K)) (c_Unit_repair : Mc P w K mg base 1 "Unit" "repair" ["self", "position"] (sp_Unit_repair K)) (c_Unit_told : Mc P w K mg base 1 "Unit" "told" ["self"] (sp_Unit_told K)) (c_l_digits : Fc P w K mg base 2 "_law_digits" ["_law_script", "_law_first", "_law_last"] (sp_l_digits K)) (c_l_draw : Fc P w K mg base 1 "_law_draw" ["_law_box", "_law_many"] (sp_l_draw K)) : FnOk P w K mg base CX0 3 f fd ["_law_script"] (sp_law K) := by
  have sc := sc_law
  refine F.ok sc (fun vs H Q E h => ?_) (fun cdv A outer s H vs Q E hr h => ?_)
  · obtain ⟨Bs, t, r, ex, ⟨u0, _, rfl, hu0, hz⟩, hm, hQ⟩ := h
    cases hz
    rfl
  · obtain ⟨Bs, ⟨a_l_script, ⟨⟩⟩, r, ex, ⟨u0, _, rfl, hu0, hz⟩, hm, hQ⟩ := h
    cases hz
    replace hu0 : rp K Bs u0 a_l_script := hu0
    replace hm : m_law a_l_script = some r := hm
    obtain ⟨Hs, eHs⟩ : ∃ Hs, Hs = H := ⟨_, rfl⟩
    subst eHs
    have N : Now noM Bs Hs oE emp Bs Hs () := nowE ex
    unfold m_law at hm
    refine ⟨_, PSs.nox (pss_cons (ps_set (i := 1) sc.nd rfl (.inl rfl) (pe_lst (pa_cons (pe_fc c_l_digits hr (by decide) rfl (pa_cons (pv 0) (pa_cons pe_int (pa_cons pe_int pa_nil)))) (pa_cons pe_int pa_nil)))) (pss_cons (ps_set (i := 2) sc.nd rfl (.inl rfl) (pe_fc c_l_draw hr (by decide) rfl (pa_cons (pv 1) (pa_cons pe_int pa_nil)))) (pss_cons (ps_set (i := 3) sc.nd rfl (.inl rfl) (pe_fc c_l_draw hr (by decide) rfl (pa_cons (pv 1) (pa_cons pe_int pa_nil)))) (pss_cons (ps_set (i := 4) sc.nd rfl (.inl rfl) (pe_mkc T.mk_Unit c_Unit___init__ hr (by decide) rfl T.glo_Unit (pa_cons (pv 2) (pa_cons (pv 3) pa_nil)))) (pss_cons (ps_set (i := 5) sc.nd rfl (.inl rfl) pe_int) (pss_cons (ps_set (i := 6) sc.nd rfl (.inl rfl) pe_int) (pss_cons (ps_set (i := 7) sc.nd rfl (.inl rfl) pe_bl) (pss_cons (ps_for PassesOwn.never rfl (pi_range1 rfl T.free_range (pa_cons (pe_fc c_l_draw hr (by decide) rfl (pa_cons (pv 1) (pa_cons pe_int pa_nil))) pa_nil)) (pg_name (i := 8) sc.nd rfl (.inl rfl)) (pss_cons (ps_set (i := 9) sc.nd rfl (.inl rfl) (pe_fc c_l_draw hr (by decide) rfl (pa_cons (pv 1) (pa_cons pe_int pa_nil)))) (pss_cons (ps_set (i := 10) sc.nd rfl (.inl rfl) pe_bl) (pss_cons (ps_set (i := 11) sc.nd rfl (.inl rfl) pe_non) (pss_cons (ps_if (pt_cmpR op_lt (pv 9) pe_int (nomark _)) (pss_cons (ps_set (i := 12) sc.nd rfl (.inl rfl) (pe_op op_add (pv 5) (pe_ix ix_list (pe_lst (pa_cons pe_int (pa_cons pe_int (pa_cons pe_int (pa_cons (pe_un un_neg pe_int) (pa_cons pe_int pa_nil)))))) (pe_fc c_l_draw hr (by decide) rfl (pa_cons (pv 1) (pa_cons pe_int pa_nil))) (fun _ _ => rfl)))) (pss_cons (ps_set (i := 13) sc.nd rfl (.inl rfl) (pe_op op_add (pv 6) (pe_ix ix_list (pe_lst (pa_cons pe_int (pa_cons pe_int (pa_cons pe_int (pa_cons pe_int (pa_cons (pe_un un_neg pe_int) (pa_cons pe_int pa_nil))))))) (pe_fc c_l_draw hr (by decide) rfl (pa_cons (pv 1) (pa_cons pe_int pa_nil))) (fun _ _ => rfl)))) (pss_cons (ps_set (i := 14) sc.nd rfl (.inl rfl) (pe_fc c_l_draw hr (by decide) rfl (pa_cons (pv 1) (pa_cons pe_int pa_nil)))) (pss_cons (ps_set (i := 11) sc.nd rfl (.inl rfl) (pe_mfc (pv 4) T.cls_Unit c_Unit_hear hr (by decide) (pa_cons (pe_tup (pa_cons pe_str (pa_cons (pv 2) (pa_cons (pv 12) (pa_cons (pv 13) (pa_cons (pv 14) pa_nil)))))) pa_nil))) (pss_one (ps_if (PW.pt (pw_and (pt_cmpR op_eq (pv 12) (pv 5) (nomark _)) (pw_and (pt_cmpR op_eq (pv 13) (pe_op op_add (pv 6) pe_int) (nomark _)) (pw_and1 (pt_val (pv 7)))))) (pss_cons (ps_set (i := 6) sc.nd rfl (.inl rfl) (pe_op op_add (pv 6) pe_int)) (pss_one (ps_set (i := 3) sc.nd rfl (.inl rfl) (pv 14)))) pss_nil)))))) (pss_one (ps_if (pt_cmpR op_eq (pv 9) pe_int (nomark _)) (pss_one (ps_set (i := 11) sc.nd rfl (.inl rfl) (pe_mfc (pv 4) T.cls_Unit c_Unit_hear hr (by decide) (pa_cons (pe_tup (pa_cons pe_str (pa_cons (pv 2) pa_nil))) pa_nil)))) (pss_one (ps_if (pt_cmpR op_eq (pv 9) pe_int (nomark _)) (pss_cons (ps_set (i := 10) sc.nd rfl (.inl rfl) pe_bl) (pss_cons (ps_if (PW.pt (pw_or (pt_cmp (pc_notN (pe_mfc (pv 4) T.cls_Unit c_Unit_hear hr (by decide) (pa_cons (pe_tup (pa_cons pe_str (pa_cons (pe_op op_add (pv 2) pe_int) pa_nil))) pa_nil)))) (pw_or1 (pt_cmp (pc_notN (pe_mfc (pv 4) T.cls_Unit c_Unit_hear hr (by decide) (pa_cons (pe_tup (pa_cons pe_str (pa_cons (pe_op op_add (pv 2) pe_int) (pa_cons (pv 5) (pa_cons (pe_op op_add (pv 6) pe_int) (pa_cons pe_int pa_nil)))))) pa_nil))))))) (pss_one (ps_ret pe_bl)) pss_nil) (pss_one (ps_if (pt_cmp (pc_notN (pe_mfc (pv 4) T.cls_Unit c_Unit_hear hr (by decide) (pa_cons (pe_tup (pa_cons pe_str (pa_cons (pv 2) (pa_cons (pv 5) (pa_cons (pe_op op_add (pv 6) pe_int) (pa_cons pe_int (pa_cons pe_bl pa_nil))))))) pa_nil)))) (pss_one (ps_ret pe_bl)) pss_nil)))) (pss_one (ps_if (pt_cmpR op_eq (pv 9) pe_int (nomark _)) (pss_cons (ps_set (i := 10) sc.nd rfl (.inl rfl) pe_bl) (pss_cons (ps_expr (pe_mfc0 (pv 4) T.cls_Unit c_Unit_fail hr (by decide))) (pss_one (ps_set (i := 7) sc.nd rfl (.inl rfl) pe_bl)))) (pss_cons (ps_set (i := 10) sc.nd rfl (.inl rfl) pe_bl) (pss_cons (ps_set (i := 3) sc.nd rfl (.inl rfl) (pe_fc c_l_draw hr (by decide) rfl (pa_cons (pv 1) (pa_cons pe_int pa_nil)))) (pss_cons (ps_expr (pe_mfc (pv 4) T.cls_Unit c_Unit_repair hr (by decide) (pa_cons (pv 3) pa_nil))) (pss_cons (ps_set (i := 5) sc.nd rfl (.inl rfl) (pe_op op_add (pv 5) pe_int)) (pss_cons (ps_set (i := 6) sc.nd rfl (.inl rfl) pe_int) (pss_one (ps_set (i := 7) sc.nd rfl (.inl rfl) pe_bl)))))))))))))) (pss_cons (ps_set (i := 15) sc.nd rfl (.inl rfl) (pe_tup (pa_cons pe_str (pa_cons (pv 2) (pa_cons (pv 5) (pa_cons (pv 6) (pa_cons (pv 3) (pa_cons (pv 7) pa_nil)))))))) (pss_cons (ps_if (PW.pt (pw_and (pt_val (pv 10)) (pw_and1 (PW.pt (pw_or (pt_not (pt_val (pe_callB call_isi rfl T.free_isinstance boot_isinstance (pa_cons (pv 11) (pa_cons (pe_bltn (v := .ty "tuple") rfl T.free_tuple boot_tuple rfl) pa_nil))))) (pw_or1 (pt_cmpR (op_neP hr.units) (pv 11) (pv 15) (nomark _)))))))) (pss_one (ps_ret pe_bl)) pss_nil) (pss_cons (ps_if (PW.pt (pw_or (pt_cmpR (op_neP hr.units) (pe_mfc0 (pv 4) T.cls_Unit c_Unit_told hr (by decide)) (pv 15) (nomark _)) (pw_or (pt_cmpR op_ne (pe_fld (pv 4) rfl) (pv 2) (nomark _)) (pw_or (pt_cmpR op_ne (pe_fld (pv 4) rfl) (pv 3) (nomark _)) (pw_or1 (pt_cmpR op_ne (pe_fld (pv 4) rfl) (pv 5) (nomark _))))))) (pss_one (ps_ret pe_bl)) pss_nil) (pss_one (ps_if (PW.pt (pw_or (pt_cmpR op_ne (pe_fld (pv 4) rfl) (pv 6) (nomark _)) (pw_or1 (pt_cmpR op_ne (pe_fld (pv 4) rfl) (pv 7) (nomark _))))) (pss_one (ps_ret pe_bl)) pss_nil)))))))))) (pss_one (ps_ret pe_bl)))))))))), ?_⟩
    refine sq ?_
    refine st_box (K := K) hm N (cp_call (ca_cons (cp_var rfl hu0) (ca_cons cp_int (ca_cons cp_int ca_nil)))) (by first | rfl | simp only [o2, Option.bind_assoc, Option.bind_some]) fun ds1 pb2 W3 B4 H5 hm N eb6 fp7 => ?_
    replace hu0 := Rp.mono eb6 hu0
    refine gnx ?_
    refine sq ?_
    refine st_asgS (K := K) hm N (cs_callM ln_id rfl (csa_cons (Cp.s cp_int) csa_nil)) (by first | rfl | simp only [o2, Option.bind_assoc, Option.bind_some]) fun l_number10 s11 v12 W13 B14 H15 hm N eb16 h17 => ?_
    try dsimp only at hm
    replace hu0 := Rp.mono eb16 hu0
    refine gnx ?_
    refine sq ?_
    refine st_asgS (K := K) hm N (cs_callM ln_id rfl (csa_cons (Cp.s cp_int) csa_nil)) (by first | rfl | simp only [o2, Option.bind_assoc, Option.bind_some]) fun l_position20 s21 v22 W23 B24 H25 hm N eb26 h27 => ?_
    try dsimp only at hm
    replace hu0 := Rp.mono eb26 hu0
    replace h17 := Rp.mono eb26 h17
    refine gnx ?_
    refine sq ?_
    refine st_mk (K := K) hm N (ca_cons (cp_var rfl h17) (ca_cons (cp_var rfl h27) ca_nil)) (by first | rfl | simp only [o2, Option.bind_assoc, Option.bind_some]) fun l_unit28 po30 W31 B32 H33 hm N eb34 fp35 => ?_
    replace hu0 := Rp.mono eb34 hu0
    replace h17 := Rp.mono eb34 h17
    replace h27 := Rp.mono eb34 h27
    refine gnx ?_
    refine sq ?_
    refine st_asg (K := K) hm N.ex cp_int rfl fun l_lives36 v37 B38 H39 _ hm g40 h41 => ?_
    replace N := N.pure g40
    replace hu0 := Rp.mono g40.b hu0
    replace h17 := Rp.mono g40.b h17
    replace h27 := Rp.mono g40.b h27
    refine gnx ?_
    refine sq ?_
    refine st_asg (K := K) hm N.ex cp_int rfl fun l_done42 v43 B44 H45 _ hm g46 h47 => ?_
    replace N := N.pure g46
    replace hu0 := Rp.mono g46.b hu0
    replace h17 := Rp.mono g46.b h17
    replace h27 := Rp.mono g46.b h27
    replace h41 := Rp.mono g46.b h41
    refine gnx ?_
    refine sq ?_
    refine st_asg (K := K) hm N.ex cp_bl rfl fun l_works48 v49 B50 H51 _ hm g52 h53 => ?_
    replace N := N.pure g52
    replace hu0 := Rp.mono g52.b hu0
    replace h17 := Rp.mono g52.b h17
    replace h27 := Rp.mono g52.b h27
    replace h41 := Rp.mono g52.b h41
    replace h47 := Rp.mono g52.b h47
    refine gnx ?_
    refine sq ?_
    refine st_forF_r1S (K := K) (fun Be (s : ((List Int) × (Int × Int × Int × Int × Bool × Unit)) × Int × Int × Bool × Int) B σ H => ∃ (W : Hp) (w_l_done : V) (w_l_position : V) (w_l_works : V) (w_l_lives : V) (o8 : Option V) (o9 : Option V) (o10 : Option V) (o11 : Option V) (o12 : Option V) (o13 : Option V) (o14 : Option V) (o15 : Option V), Now noM Bs Hs (star (OwBox K pb2) (OwRec (τ := (Int × Int × Int × Int × Bool × Unit)) K "Unit" nm_Unit po30)) W B H s.1 ∧ Ex B50 B ∧ Ex Be B ∧ σ = [some u0, some (.ref pb2), some v12, some w_l_position, some (.ref po30), some w_l_lives, some w_l_done, some w_l_works, o8, o9, o10, o11, o12, o13, o14, o15] ∧ rp K B w_l_done s.2.1 ∧ rp K B w_l_position s.2.2.1 ∧ rp K B w_l_works s.2.2.2.1 ∧ rp K B w_l_lives s.2.2.2.2) hm N (cs_callM ln_l rfl (csa_cons (Cp.s cp_int) csa_nil)) (by first | rfl | simp only [o2, Option.bind_assoc, Option.bind_some]) (fun Be H1 W1 _ s1 N eb => ⟨W1, v43, v22, v49, v37, _, _, _, _, _, _, _, _, N, eb, Ex.refl _, rfl, Rp.mono eb h47, Rp.mono eb h27, Rp.mono eb h53, Rp.mono eb h41⟩) ?_ ?_
    · rintro Be x56 s57 B59 σ H60 v61 c62 N63 ⟨W58, w70, w71, w72, w73, _, _, _, _, _, _, _, _, N, eb68, ee69, rfl, h74, h75, h76, h77⟩ hv64 hm hn65 hk66 ht67
      unfold m_law_b1 at hm
      replace hu0 := Rp.mono eb68 hu0
      replace h17 := Rp.mono eb68 h17
      refine gnm ?_
      refine sq ?_
      refine st_asgS (K := K) hm N (cs_callM ln_l rfl (csa_cons (Cp.s cp_int) csa_nil)) (by first | rfl | simp only [o2, Option.bind_assoc, Option.bind_some]) fun l_kind80 s81 v82 W83 B84 H85 hm N eb86 h87 => ?_
      try dsimp only at hm
      replace eb68 := eb68.trans eb86
      replace ee69 := ee69.trans eb86
      replace hu0 := Rp.mono eb86 hu0
      replace h17 := Rp.mono eb86 h17
      replace h74 := Rp.mono eb86 h74
      replace h75 := Rp.mono eb86 h75
      replace h76 := Rp.mono eb86 h76
      replace h77 := Rp.mono eb86 h77
      replace hv64 := Rp.mono eb86 hv64
      refine gnx ?_
      refine sq ?_
      refine st_asg (K := K) hm N.ex cp_bl rfl fun l_answered88 v89 B90 H91 _ hm g92 h93 => ?_
      replace N := N.pure g92
      replace eb68 := eb68.trans g92.b
      replace ee69 := ee69.trans g92.b
      replace hu0 := Rp.mono g92.b hu0
      replace h17 := Rp.mono g92.b h17
      replace h74 := Rp.mono g92.b h74
      replace h75 := Rp.mono g92.b h75
      replace h76 := Rp.mono g92.b h76
      replace h77 := Rp.mono g92.b h77
      replace hv64 := Rp.mono g92.b hv64
      replace h87 := Rp.mono g92.b h87
      refine gnx ?_
      refine sq ?_
      refine st_asg (K := K) hm N.ex (cp_nonO (α := (T6 Str Int Int Int Int Bool))) rfl fun l_actual94 v95 B96 H97 _ hm g98 h99 => ?_
      replace N := N.pure g98
      replace eb68 := eb68.trans g98.b
      replace ee69 := ee69.trans g98.b
      replace hu0 := Rp.mono g98.b hu0
      replace h17 := Rp.mono g98.b h17
      replace h74 := Rp.mono g98.b h74
      replace h75 := Rp.mono g98.b h75
      replace h76 := Rp.mono g98.b h76
      replace h77 := Rp.mono g98.b h77
      replace hv64 := Rp.mono g98.b hv64
      replace h87 := Rp.mono g98.b h87
      replace h93 := Rp.mono g98.b h93
      refine gnx ?_
      refine sq ?_
      refine st_if hm N.ex (ct_test (cp_op r2_lt (cp_var rfl h87) cp_int)) rfl (fun B100 H101 hc103 hm g102 => ?_) (fun B100 H101 hc103 hm g102 => ?_)
      · replace N := N.pure g102
        replace eb68 := eb68.trans g102.b
        replace ee69 := ee69.trans g102.b
        replace hu0 := Rp.mono g102.b hu0
        replace h17 := Rp.mono g102.b h17
        replace h74 := Rp.mono g102.b h74
        replace h75 := Rp.mono g102.b h75
        replace h76 := Rp.mono g102.b h76
        replace h77 := Rp.mono g102.b h77
        replace hv64 := Rp.mono g102.b hv64
        replace h87 := Rp.mono g102.b h87
        replace h93 := Rp.mono g102.b h93
        replace h99 := Rp.mono g102.b h99
        refine sq ?_
        refine st_asgS (K := K) hm N (cs_op r2_add (Cp.s (cp_var rfl h77)) (cs_op r2_ixL (Cp.s (Co.cp (co_lst (Cl.cons cp_int (Cl.cons cp_int (Cl.cons cp_int (Cl.cons (cp_un r1_neg cp_int) (Cl.cons cp_int Cl.nil)))))))) (cs_callM ln_l rfl (csa_cons (Cp.s cp_int) csa_nil)))) (by first | rfl | simp only [o2, Option.bind_assoc, Option.bind_some]) fun l_life110 s111 v112 W113 B114 H115 hm N eb116 h117 => ?_
        try dsimp only at hm
        replace eb68 := eb68.trans eb116
        replace ee69 := ee69.trans eb116
        replace hu0 := Rp.mono eb116 hu0
        replace h17 := Rp.mono eb116 h17
        replace h74 := Rp.mono eb116 h74
        replace h75 := Rp.mono eb116 h75
        replace h76 := Rp.mono eb116 h76
        replace h77 := Rp.mono eb116 h77
        replace hv64 := Rp.mono eb116 hv64
        replace h87 := Rp.mono eb116 h87
        replace h93 := Rp.mono eb116 h93
        replace h99 := Rp.mono eb116 h99
        refine gnx ?_
        refine sq ?_
        refine st_asgS (K := K) hm N (cs_op r2_add (Cp.s (cp_var rfl h74)) (cs_op r2_ixL (Cp.s (Co.cp (co_lst (Cl.cons cp_int (Cl.cons cp_int (Cl.cons cp_int (Cl.cons cp_int (Cl.cons (cp_un r1_neg cp_int) (Cl.cons cp_int Cl.nil))))))))) (cs_callM ln_l rfl (csa_cons (Cp.s cp_int) csa_nil)))) (by first | rfl | simp only [o2, Option.bind_assoc, Option.bind_some]) fun l_count124 s125 v126 W127 B128 H129 hm N eb130 h131 => ?_
        try dsimp only at hm
        replace eb68 := eb68.trans eb130
        replace ee69 := ee69.trans eb130
        replace hu0 := Rp.mono eb130 hu0
        replace h17 := Rp.mono eb130 h17
        replace h74 := Rp.mono eb130 h74
        replace h75 := Rp.mono eb130 h75
        replace h76 := Rp.mono eb130 h76
        replace h77 := Rp.mono eb130 h77
        replace hv64 := Rp.mono eb130 hv64
        replace h87 := Rp.mono eb130 h87
        replace h93 := Rp.mono eb130 h93
        replace h99 := Rp.mono eb130 h99
        replace h117 := Rp.mono eb130 h117
        refine gnx ?_
        refine sq ?_
        refine st_asgS (K := K) hm N (cs_callM ln_l rfl (csa_cons (Cp.s cp_int) csa_nil)) (by first | rfl | simp only [o2, Option.bind_assoc, Option.bind_some]) fun l_to134 s135 v136 W137 B138 H139 hm N eb140 h141 => ?_
        try dsimp only at hm
        replace eb68 := eb68.trans eb140
        replace ee69 := ee69.trans eb140
        replace hu0 := Rp.mono eb140 hu0
        replace h17 := Rp.mono eb140 h17
        replace h74 := Rp.mono eb140 h74
        replace h75 := Rp.mono eb140 h75
        replace h76 := Rp.mono eb140 h76
        replace h77 := Rp.mono eb140 h77
        replace hv64 := Rp.mono eb140 hv64
        replace h87 := Rp.mono eb140 h87
        replace h93 := Rp.mono eb140 h93
        replace h99 := Rp.mono eb140 h99
        replace h117 := Rp.mono eb140 h117
        replace h131 := Rp.mono eb140 h131
        refine gnx ?_
        refine sq ?_
        refine st_asgS (K := K) hm N (cs_methM ln_r rfl (rec_obj no_Unit_hear) (csa_cons (Cp.s (cp_in in_move (cp_tup5 (ca_cons cp_str (ca_cons (cp_var rfl h17) (ca_cons (cp_var rfl h117) (ca_cons (cp_var rfl h131) (ca_cons (cp_var rfl h141) ca_nil)))))))) csa_nil)) (by first | rfl | simp only [o2, Option.bind_assoc, Option.bind_some]) fun l_actual144 s145 v146 W147 B148 H149 hm N eb150 h151 => ?_
        try dsimp only at hm
        replace eb68 := eb68.trans eb150
        replace ee69 := ee69.trans eb150
        replace hu0 := Rp.mono eb150 hu0
        replace h17 := Rp.mono eb150 h17
        replace h74 := Rp.mono eb150 h74
        replace h75 := Rp.mono eb150 h75
        replace h76 := Rp.mono eb150 h76
        replace h77 := Rp.mono eb150 h77
        replace hv64 := Rp.mono eb150 hv64
        replace h87 := Rp.mono eb150 h87
        replace h93 := Rp.mono eb150 h93
        replace h117 := Rp.mono eb150 h117
        replace h131 := Rp.mono eb150 h131
        replace h141 := Rp.mono eb150 h141
        refine gnx ?_
        refine st_if hm N.ex (ct_and (ct_test (cp_op r2_eq (cp_var rfl h117) (cp_var rfl h77))) (ct_and (ct_test (cp_op r2_eq (cp_var rfl h131) (cp_op r2_add (cp_var rfl h74) cp_int))) (ct_B (cp_var rfl h76)))) (by first | rfl | simp only [o2, Option.bind_assoc, Option.bind_some]) (fun B152 H153 hc155 hm g154 => ?_) (fun B152 H153 hc155 hm g154 => ?_)
        · replace N := N.pure g154
          replace eb68 := eb68.trans g154.b
          replace ee69 := ee69.trans g154.b
          replace hu0 := Rp.mono g154.b hu0
          replace h17 := Rp.mono g154.b h17
          replace h74 := Rp.mono g154.b h74
          replace h75 := Rp.mono g154.b h75
          replace h76 := Rp.mono g154.b h76
          replace h77 := Rp.mono g154.b h77
          replace hv64 := Rp.mono g154.b hv64
          replace h87 := Rp.mono g154.b h87
          replace h93 := Rp.mono g154.b h93
          replace h117 := Rp.mono g154.b h117
          replace h131 := Rp.mono g154.b h131
          replace h141 := Rp.mono g154.b h141
          replace h151 := Rp.mono g154.b h151
          refine sq ?_
          refine st_asg (K := K) hm N.ex (cp_op r2_add (cp_var rfl h74) cp_int) rfl fun l_done156 v157 B158 H159 _ hm g160 h161 => ?_
          replace N := N.pure g160
          replace eb68 := eb68.trans g160.b
          replace ee69 := ee69.trans g160.b
          replace hu0 := Rp.mono g160.b hu0
          replace h17 := Rp.mono g160.b h17
          replace h75 := Rp.mono g160.b h75
          replace h76 := Rp.mono g160.b h76
          replace h77 := Rp.mono g160.b h77
          replace hv64 := Rp.mono g160.b hv64
          replace h87 := Rp.mono g160.b h87
          replace h93 := Rp.mono g160.b h93
          replace h117 := Rp.mono g160.b h117
          replace h131 := Rp.mono g160.b h131
          replace h141 := Rp.mono g160.b h141
          replace h151 := Rp.mono g160.b h151
          refine gnx ?_
          refine st_asg (K := K) hm N.ex (cp_var rfl h141) rfl fun l_position162 v163 B164 H165 _ hm g166 h167 => ?_
          replace N := N.pure g166
          replace eb68 := eb68.trans g166.b
          replace ee69 := ee69.trans g166.b
          replace hu0 := Rp.mono g166.b hu0
          replace h17 := Rp.mono g166.b h17
          replace h76 := Rp.mono g166.b h76
          replace h77 := Rp.mono g166.b h77
          replace hv64 := Rp.mono g166.b hv64
          replace h87 := Rp.mono g166.b h87
          replace h93 := Rp.mono g166.b h93
          replace h117 := Rp.mono g166.b h117
          replace h131 := Rp.mono g166.b h131
          replace h141 := Rp.mono g166.b h141
          replace h151 := Rp.mono g166.b h151
          replace h161 := Rp.mono g166.b h161
          refine gnx ?_
          refine sq ?_
          refine st_asg (K := K) hm N.ex (cp_tup6 (ca_cons cp_str (ca_cons (cp_var rfl h17) (ca_cons (cp_var rfl h77) (ca_cons (cp_var rfl h161) (ca_cons (cp_var rfl h167) (ca_cons (cp_var rfl h76) ca_nil))))))) rfl fun l_due168 v169 B170 H171 _ hm g172 h173 => ?_
          replace N := N.pure g172
          replace eb68 := eb68.trans g172.b
          replace ee69 := ee69.trans g172.b
          replace hu0 := Rp.mono g172.b hu0
          replace h17 := Rp.mono g172.b h17
          replace h76 := Rp.mono g172.b h76
          replace h77 := Rp.mono g172.b h77
          replace hv64 := Rp.mono g172.b hv64
          replace h87 := Rp.mono g172.b h87
          replace h93 := Rp.mono g172.b h93
          replace h117 := Rp.mono g172.b h117
          replace h131 := Rp.mono g172.b h131
          replace h141 := Rp.mono g172.b h141
          replace h151 := Rp.mono g172.b h151
          replace h161 := Rp.mono g172.b h161
          replace h167 := Rp.mono g172.b h167
          refine gnx ?_
          refine sq ?_
          refine st_if hm N.ex (ct_and (ct_B (cp_var rfl h93)) (ct_or (ct_not (ct_B (cp_isi isi_otuple6 (cp_var rfl h151)))) (ct_test (cp_op (r2_neD (by decide)) (cp_var rfl h151) (Cp.opt (cp_var rfl h173)))))) (by first | rfl | simp only [o2, Option.bind_assoc, Option.bind_some]) (fun B174 H175 hc177 hm g176 => ?_) (fun B174 H175 hc177 hm g176 => ?_)
          · replace N := N.pure g176
            replace eb68 := eb68.trans g176.b
            replace ee69 := ee69.trans g176.b
            replace hu0 := Rp.mono g176.b hu0
            replace h17 := Rp.mono g176.b h17
            replace h76 := Rp.mono g176.b h76
            replace h77 := Rp.mono g176.b h77
            replace hv64 := Rp.mono g176.b hv64
            replace h87 := Rp.mono g176.b h87
            replace h93 := Rp.mono g176.b h93
            replace h117 := Rp.mono g176.b h117
            replace h131 := Rp.mono g176.b h131
            replace h141 := Rp.mono g176.b h141
            replace h151 := Rp.mono g176.b h151
            replace h161 := Rp.mono g176.b h161
            replace h167 := Rp.mono g176.b h167
            replace h173 := Rp.mono g176.b h173
            obtain ⟨W178, N⟩ := N.drop
            refine st_retF (K := K) (m' := (some false)) hm N.ex cp_bl rfl fun x v B1 H1 hm g hv => ?_
            cases hm
            have hm := ht67 _ rfl
            cases hm
            exact hQ _ _ _ (N.g.then g) hv
          · replace N := N.pure g176
            replace eb68 := eb68.trans g176.b
            replace ee69 := ee69.trans g176.b
            replace hu0 := Rp.mono g176.b hu0
            replace h17 := Rp.mono g176.b h17
            replace h76 := Rp.mono g176.b h76
            replace h77 := Rp.mono g176.b h77
            replace hv64 := Rp.mono g176.b hv64
            replace h87 := Rp.mono g176.b h87
            replace h93 := Rp.mono g176.b h93
            replace h117 := Rp.mono g176.b h117
            replace h131 := Rp.mono g176.b h131
            replace h141 := Rp.mono g176.b h141
            replace h151 := Rp.mono g176.b h151
            replace h161 := Rp.mono g176.b h161
            replace h167 := Rp.mono g176.b h167
            replace h173 := Rp.mono g176.b h173
            refine nxt ?_
            refine gnx ?_
            refine sq ?_
            refine st_ifS hm N (cst_or (cst_test (cs_op (r2_neD (by decide)) (cs_methM ln_r rfl (rec_obj no_Unit_told) csa_nil) (Cp.s (cp_var rfl h173)))) (cst_or (cst_view fun W1 B1 s e1 d1 hP => (ct_test (cp_op r2_ne (cp_recfld ln_r fd_Unit_number rfl T.cls_Unit T.noat_Unit_number hP d1) (cp_var rfl (Rp.mono (e1.trans (ex_uni_r d1)) h17))))) (cst_or (cst_view fun W1 B1 s e1 d1 hP => (ct_test (cp_op r2_ne (cp_recfld ln_r fd_Unit_position rfl T.cls_Unit T.noat_Unit_position hP d1) (cp_var rfl (Rp.mono (e1.trans (ex_uni_r d1)) h167))))) (cst_view fun W1 B1 s e1 d1 hP => (ct_test (cp_op r2_ne (cp_recfld ln_r fd_Unit_lives rfl T.cls_Unit T.noat_Unit_lives hP d1) (cp_var rfl (Rp.mono (e1.trans (ex_uni_r d1)) h77)))))))) (by first | rfl | simp only [o2, Option.bind_assoc, Option.bind_some]) (fun s185 W186 B187 H188 hc189 hm N eb190 => ?_) (fun s185 W186 B187 H188 hc189 hm N eb190 => ?_)
            · try dsimp only at hm
              replace eb68 := eb68.trans eb190
              replace ee69 := ee69.trans eb190
              replace hu0 := Rp.mono eb190 hu0
              replace h17 := Rp.mono eb190 h17
              replace h76 := Rp.mono eb190 h76
              replace h77 := Rp.mono eb190 h77
              replace hv64 := Rp.mono eb190 hv64
              replace h87 := Rp.mono eb190 h87
              replace h93 := Rp.mono eb190 h93
              replace h117 := Rp.mono eb190 h117
              replace h131 := Rp.mono eb190 h131
              replace h141 := Rp.mono eb190 h141
              replace h151 := Rp.mono eb190 h151
              replace h161 := Rp.mono eb190 h161
              replace h167 := Rp.mono eb190 h167
              replace h173 := Rp.mono eb190 h173
              obtain ⟨W191, N⟩ := N.drop
              refine st_retF (K := K) (m' := (some false)) hm N.ex cp_bl rfl fun x v B1 H1 hm g hv => ?_
              cases hm
              have hm := ht67 _ rfl
              cases hm
              exact hQ _ _ _ (N.g.then g) hv
            · try dsimp only at hm
              replace eb68 := eb68.trans eb190
              replace ee69 := ee69.trans eb190
              replace hu0 := Rp.mono eb190 hu0
              replace h17 := Rp.mono eb190 h17
              replace h76 := Rp.mono eb190 h76
              replace h77 := Rp.mono eb190 h77
              replace hv64 := Rp.mono eb190 hv64
              replace h87 := Rp.mono eb190 h87
              replace h93 := Rp.mono eb190 h93
              replace h117 := Rp.mono eb190 h117
              replace h131 := Rp.mono eb190 h131
              replace h141 := Rp.mono eb190 h141
              replace h151 := Rp.mono eb190 h151
              replace h161 := Rp.mono eb190 h161
              replace h167 := Rp.mono eb190 h167
              replace h173 := Rp.mono eb190 h173
              refine nxt ?_
              refine gnx ?_
              refine st_ifS hm N (cst_view fun W1 B1 s e1 d1 hP => (ct_or (ct_test (cp_op r2_ne (cp_recfld ln_r fd_Unit_done rfl T.cls_Unit T.noat_Unit_done hP d1) (cp_var rfl (Rp.mono (e1.trans (ex_uni_r d1)) h161)))) (ct_test (cp_op r2_ne (cp_recfld ln_r fd_Unit_works rfl T.cls_Unit T.noat_Unit_works hP d1) (cp_var rfl (Rp.mono (e1.trans (ex_uni_r d1)) h76)))))) (by first | rfl | simp only [o2, Option.bind_assoc, Option.bind_some]) (fun s192 W193 B194 H195 hc196 hm N eb197 => ?_) (fun s192 W193 B194 H195 hc196 hm N eb197 => ?_)
              · try dsimp only at hm
                replace eb68 := eb68.trans eb197
                replace ee69 := ee69.trans eb197
                replace hu0 := Rp.mono eb197 hu0
                replace h17 := Rp.mono eb197 h17
                replace h76 := Rp.mono eb197 h76
                replace h77 := Rp.mono eb197 h77
                replace hv64 := Rp.mono eb197 hv64
                replace h87 := Rp.mono eb197 h87
                replace h93 := Rp.mono eb197 h93
                replace h117 := Rp.mono eb197 h117
                replace h131 := Rp.mono eb197 h131
                replace h141 := Rp.mono eb197 h141
                replace h151 := Rp.mono eb197 h151
                replace h161 := Rp.mono eb197 h161
                replace h167 := Rp.mono eb197 h167
                replace h173 := Rp.mono eb197 h173
                obtain ⟨W198, N⟩ := N.drop
                refine st_retF (K := K) (m' := (some false)) hm N.ex cp_bl rfl fun x v B1 H1 hm g hv => ?_
                cases hm
                have hm := ht67 _ rfl
                cases hm
                exact hQ _ _ _ (N.g.then g) hv
              · try dsimp only at hm
                replace eb68 := eb68.trans eb197
                replace ee69 := ee69.trans eb197
                replace hu0 := Rp.mono eb197 hu0
                replace h17 := Rp.mono eb197 h17
                replace h76 := Rp.mono eb197 h76
                replace h77 := Rp.mono eb197 h77
                replace hv64 := Rp.mono eb197 hv64
                replace h87 := Rp.mono eb197 h87
                replace h93 := Rp.mono eb197 h93
                replace h117 := Rp.mono eb197 h117
                replace h131 := Rp.mono eb197 h131
                replace h141 := Rp.mono eb197 h141
                replace h151 := Rp.mono eb197 h151
                replace h161 := Rp.mono eb197 h161
                replace h167 := Rp.mono eb197 h167
                replace h173 := Rp.mono eb197 h173
                refine nxt ?_
                cases hm
                exact hn65 _ _ _ _ rfl ⟨_, v157, v163, w72, w73, _, _, _, _, _, _, _, _, N, eb68, ee69, rfl, h161, h167, h76, h77⟩
        · replace N := N.pure g154
          replace eb68 := eb68.trans g154.b
          replace ee69 := ee69.trans g154.b
          replace hu0 := Rp.mono g154.b hu0
          replace h17 := Rp.mono g154.b h17
          replace h74 := Rp.mono g154.b h74
          replace h75 := Rp.mono g154.b h75
          replace h76 := Rp.mono g154.b h76
          replace h77 := Rp.mono g154.b h77
          replace hv64 := Rp.mono g154.b hv64
          replace h87 := Rp.mono g154.b h87
          replace h93 := Rp.mono g154.b h93
          replace h117 := Rp.mono g154.b h117
          replace h131 := Rp.mono g154.b h131
          replace h141 := Rp.mono g154.b h141
          replace h151 := Rp.mono g154.b h151
          refine nxt ?_
          refine gnx ?_
          refine sq ?_
          refine st_asg (K := K) hm N.ex (cp_tup6 (ca_cons cp_str (ca_cons (cp_var rfl h17) (ca_cons (cp_var rfl h77) (ca_cons (cp_var rfl h74) (ca_cons (cp_var rfl h75) (ca_cons (cp_var rfl h76) ca_nil))))))) rfl fun l_due239 v240 B241 H242 _ hm g243 h244 => ?_
          replace N := N.pure g243
          replace eb68 := eb68.trans g243.b
          replace ee69 := ee69.trans g243.b
          replace hu0 := Rp.mono g243.b hu0
          replace h17 := Rp.mono g243.b h17
          replace h74 := Rp.mono g243.b h74
          replace h75 := Rp.mono g243.b h75
          replace h76 := Rp.mono g243.b h76
          replace h77 := Rp.mono g243.b h77
          replace hv64 := Rp.mono g243.b hv64
          replace h87 := Rp.mono g243.b h87
          replace h93 := Rp.mono g243.b h93
          replace h117 := Rp.mono g243.b h117
          replace h131 := Rp.mono g243.b h131
          replace h141 := Rp.mono g243.b h141
          replace h151 := Rp.mono g243.b h151
          refine gnx ?_
          refine sq ?_
          refine st_if hm N.ex (ct_and (ct_B (cp_var rfl h93)) (ct_or (ct_not (ct_B (cp_isi isi_otuple6 (cp_var rfl h151)))) (ct_test (cp_op (r2_neD (by decide)) (cp_var rfl h151) (Cp.opt (cp_var rfl h244)))))) (by first | rfl | simp only [o2, Option.bind_assoc, Option.bind_some]) (fun B245 H246 hc248 hm g247 => ?_) (fun B245 H246 hc248 hm g247 => ?_)
          · replace N := N.pure g247
            replace eb68 := eb68.trans g247.b
            replace ee69 := ee69.trans g247.b
            replace hu0 := Rp.mono g247.b hu0
            replace h17 := Rp.mono g247.b h17
            replace h74 := Rp.mono g247.b h74
            replace h75 := Rp.mono g247.b h75
            replace h76 := Rp.mono g247.b h76
            replace h77 := Rp.mono g247.b h77
            replace hv64 := Rp.mono g247.b hv64
            replace h87 := Rp.mono g247.b h87
            replace h93 := Rp.mono g247.b h93
            replace h117 := Rp.mono g247.b h117
            replace h131 := Rp.mono g247.b h131
            replace h141 := Rp.mono g247.b h141
            replace h151 := Rp.mono g247.b h151
            replace h244 := Rp.mono g247.b h244
            obtain ⟨W249, N⟩ := N.drop
            refine st_retF (K := K) (m' := (some false)) hm N.ex cp_bl rfl fun x v B1 H1 hm g hv => ?_
            cases hm
            have hm := ht67 _ rfl
            cases hm
            exact hQ _ _ _ (N.g.then g) hv
          · replace N := N.pure g247
            replace eb68 := eb68.trans g247.b
            replace ee69 := ee69.trans g247.b
            replace hu0 := Rp.mono g247.b hu0
            replace h17 := Rp.mono g247.b h17
            replace h74 := Rp.mono g247.b h74
            replace h75 := Rp.mono g247.b h75
            replace h76 := Rp.mono g247.b h76
            replace h77 := Rp.mono g247.b h77
            replace hv64 := Rp.mono g247.b hv64
            replace h87 := Rp.mono g247.b h87
            replace h93 := Rp.mono g247.b h93
            replace h117 := Rp.mono g247.b h117
            replace h131 := Rp.mono g247.b h131
            replace h141 := Rp.mono g247.b h141
            replace h151 := Rp.mono g247.b h151
            replace h244 := Rp.mono g247.b h244
            refine nxt ?_
            refine gnx ?_
            refine sq ?_
            refine st_ifS hm N (cst_or (cst_test (cs_op (r2_neD (by decide)) (cs_methM ln_r rfl (rec_obj no_Unit_told) csa_nil) (Cp.s (cp_var rfl h244)))) (cst_or (cst_view fun W1 B1 s e1 d1 hP => (ct_test (cp_op r2_ne (cp_recfld ln_r fd_Unit_number rfl T.cls_Unit T.noat_Unit_number hP d1) (cp_var rfl (Rp.mono (e1.trans (ex_uni_r d1)) h17))))) (cst_or (cst_view fun W1 B1 s e1 d1 hP => (ct_test (cp_op r2_ne (cp_recfld ln_r fd_Unit_position rfl T.cls_Unit T.noat_Unit_position hP d1) (cp_var rfl (Rp.mono (e1.trans (ex_uni_r d1)) h75))))) (cst_view fun W1 B1 s e1 d1 hP => (ct_test (cp_op r2_ne (cp_recfld ln_r fd_Unit_lives rfl T.cls_Unit T.noat_Unit_lives hP d1) (cp_var rfl (Rp.mono (e1.trans (ex_uni_r d1)) h77)))))))) (by first | rfl | simp only [o2, Option.bind_assoc, Option.bind_some]) (fun s256 W257 B258 H259 hc260 hm N eb261 => ?_) (fun s256 W257 B258 H259 hc260 hm N eb261 => ?_)
            · try dsimp only at hm
              replace eb68 := eb68.trans eb261
              replace ee69 := ee69.trans eb261
              replace hu0 := Rp.mono eb261 hu0
              replace h17 := Rp.mono eb261 h17
              replace h74 := Rp.mono eb261 h74
              replace h75 := Rp.mono eb261 h75
              replace h76 := Rp.mono eb261 h76
              replace h77 := Rp.mono eb261 h77
              replace hv64 := Rp.mono eb261 hv64
              replace h87 := Rp.mono eb261 h87
              replace h93 := Rp.mono eb261 h93
              replace h117 := Rp.mono eb261 h117
              replace h131 := Rp.mono eb261 h131
              replace h141 := Rp.mono eb261 h141
              replace h151 := Rp.mono eb261 h151
              replace h244 := Rp.mono eb261 h244
              obtain ⟨W262, N⟩ := N.drop
              refine st_retF (K := K) (m' := (some false)) hm N.ex cp_bl rfl fun x v B1 H1 hm g hv => ?_
              cases hm
              have hm := ht67 _ rfl
              cases hm
              exact hQ _ _ _ (N.g.then g) hv
            · try dsimp only at hm
              replace eb68 := eb68.trans eb261
              replace ee69 := ee69.trans eb261
              replace hu0 := Rp.mono eb261 hu0
              replace h17 := Rp.mono eb261 h17
              replace h74 := Rp.mono eb261 h74
              replace h75 := Rp.mono eb261 h75
              replace h76 := Rp.mono eb261 h76
              replace h77 := Rp.mono eb261 h77
              replace hv64 := Rp.mono eb261 hv64
              replace h87 := Rp.mono eb261 h87
              replace h93 := Rp.mono eb261 h93
              replace h117 := Rp.mono eb261 h117
              replace h131 := Rp.mono eb261 h131
              replace h141 := Rp.mono eb261 h141
              replace h151 := Rp.mono eb261 h151
              replace h244 := Rp.mono eb261 h244
              refine nxt ?_
              refine gnx ?_
              refine st_ifS hm N (cst_view fun W1 B1 s e1 d1 hP => (ct_or (ct_test (cp_op r2_ne (cp_recfld ln_r fd_Unit_done rfl T.cls_Unit T.noat_Unit_done hP d1) (cp_var rfl (Rp.mono (e1.trans (ex_uni_r d1)) h74)))) (ct_test (cp_op r2_ne (cp_recfld ln_r fd_Unit_works rfl T.cls_Unit T.noat_Unit_works hP d1) (cp_var rfl (Rp.mono (e1.trans (ex_uni_r d1)) h76)))))) (by first | rfl | simp only [o2, Option.bind_assoc, Option.bind_some]) (fun s263 W264 B265 H266 hc267 hm N eb268 => ?_) (fun s263 W264 B265 H266 hc267 hm N eb268 => ?_)
              · try dsimp only at hm
                replace eb68 := eb68.trans eb268
                replace ee69 := ee69.trans eb268
                replace hu0 := Rp.mono eb268 hu0
                replace h17 := Rp.mono eb268 h17
                replace h74 := Rp.mono eb268 h74
                replace h75 := Rp.mono eb268 h75
                replace h76 := Rp.mono eb268 h76
                replace h77 := Rp.mono eb268 h77
                replace hv64 := Rp.mono eb268 hv64
                replace h87 := Rp.mono eb268 h87
                replace h93 := Rp.mono eb268 h93
                replace h117 := Rp.mono eb268 h117
                replace h131 := Rp.mono eb268 h131
                replace h141 := Rp.mono eb268 h141
                replace h151 := Rp.mono eb268 h151
                replace h244 := Rp.mono eb268 h244
                obtain ⟨W269, N⟩ := N.drop
                refine st_retF (K := K) (m' := (some false)) hm N.ex cp_bl rfl fun x v B1 H1 hm g hv => ?_
                cases hm
                have hm := ht67 _ rfl
                cases hm
                exact hQ _ _ _ (N.g.then g) hv
              · try dsimp only at hm
                replace eb68 := eb68.trans eb268
                replace ee69 := ee69.trans eb268
                replace hu0 := Rp.mono eb268 hu0
                replace h17 := Rp.mono eb268 h17
                replace h74 := Rp.mono eb268 h74
                replace h75 := Rp.mono eb268 h75
                replace h76 := Rp.mono eb268 h76
                replace h77 := Rp.mono eb268 h77
                replace hv64 := Rp.mono eb268 hv64
                replace h87 := Rp.mono eb268 h87
                replace h93 := Rp.mono eb268 h93
                replace h117 := Rp.mono eb268 h117
                replace h131 := Rp.mono eb268 h131
                replace h141 := Rp.mono eb268 h141
                replace h151 := Rp.mono eb268 h151
                replace h244 := Rp.mono eb268 h244
                refine nxt ?_
                cases hm
                exact hn65 _ _ _ _ rfl ⟨_, w70, w71, w72, w73, _, _, _, _, _, _, _, _, N, eb68, ee69, rfl, h74, h75, h76, h77⟩
      · replace N := N.pure g102
        replace eb68 := eb68.trans g102.b
        replace ee69 := ee69.trans g102.b
        replace hu0 := Rp.mono g102.b hu0
        replace h17 := Rp.mono g102.b h17
        replace h74 := Rp.mono g102.b h74
        replace h75 := Rp.mono g102.b h75
        replace h76 := Rp.mono g102.b h76
        replace h77 := Rp.mono g102.b h77
        replace hv64 := Rp.mono g102.b hv64
        replace h87 := Rp.mono g102.b h87
        replace h93 := Rp.mono g102.b h93
        replace h99 := Rp.mono g102.b h99
        refine st_if hm N.ex (ct_test (cp_op r2_eq (cp_var rfl h87) cp_int)) rfl (fun B385 H386 hc388 hm g387 => ?_) (fun B385 H386 hc388 hm g387 => ?_)
        · replace N := N.pure g387
          replace eb68 := eb68.trans g387.b
          replace ee69 := ee69.trans g387.b
          replace hu0 := Rp.mono g387.b hu0
          replace h17 := Rp.mono g387.b h17
          replace h74 := Rp.mono g387.b h74
          replace h75 := Rp.mono g387.b h75
          replace h76 := Rp.mono g387.b h76
          replace h77 := Rp.mono g387.b h77
          replace hv64 := Rp.mono g387.b hv64
          replace h87 := Rp.mono g387.b h87
          replace h93 := Rp.mono g387.b h93
          replace h99 := Rp.mono g387.b h99
          refine st_asgS (K := K) hm N (cs_methM ln_r rfl (rec_obj no_Unit_hear) (csa_cons (Cp.s (cp_in in_ask (cp_tup2 (ca_cons cp_str (ca_cons (cp_var rfl h17) ca_nil))))) csa_nil)) (by first | rfl | simp only [o2, Option.bind_assoc, Option.bind_some]) fun l_actual391 s392 v393 W394 B395 H396 hm N eb397 h398 => ?_
          try dsimp only at hm
          replace eb68 := eb68.trans eb397
          replace ee69 := ee69.trans eb397
          replace hu0 := Rp.mono eb397 hu0
          replace h17 := Rp.mono eb397 h17
          replace h74 := Rp.mono eb397 h74
          replace h75 := Rp.mono eb397 h75
          replace h76 := Rp.mono eb397 h76
          replace h77 := Rp.mono eb397 h77
          replace hv64 := Rp.mono eb397 hv64
          replace h87 := Rp.mono eb397 h87
          replace h93 := Rp.mono eb397 h93
          refine gnx ?_
          refine sq ?_
          refine st_asg (K := K) hm N.ex (cp_tup6 (ca_cons cp_str (ca_cons (cp_var rfl h17) (ca_cons (cp_var rfl h77) (ca_cons (cp_var rfl h74) (ca_cons (cp_var rfl h75) (ca_cons (cp_var rfl h76) ca_nil))))))) rfl fun l_due399 v400 B401 H402 _ hm g403 h404 => ?_
          replace N := N.pure g403
          replace eb68 := eb68.trans g403.b
          replace ee69 := ee69.trans g403.b
          replace hu0 := Rp.mono g403.b hu0
          replace h17 := Rp.mono g403.b h17
          replace h74 := Rp.mono g403.b h74
          replace h75 := Rp.mono g403.b h75
          replace h76 := Rp.mono g403.b h76
          replace h77 := Rp.mono g403.b h77
          replace hv64 := Rp.mono g403.b hv64
          replace h87 := Rp.mono g403.b h87
          replace h93 := Rp.mono g403.b h93
          replace h398 := Rp.mono g403.b h398
          refine gnx ?_
          refine sq ?_
          refine st_if hm N.ex (ct_and (ct_B (cp_var rfl h93)) (ct_or (ct_not (ct_B (cp_isi isi_otuple6 (cp_var rfl h398)))) (ct_test (cp_op (r2_neD (by decide)) (cp_var rfl h398) (Cp.opt (cp_var rfl h404)))))) (by first | rfl | simp only [o2, Option.bind_assoc, Option.bind_some]) (fun B405 H406 hc408 hm g407 => ?_) (fun B405 H406 hc408 hm g407 => ?_)
          · replace N := N.pure g407
            replace eb68 := eb68.trans g407.b
            replace ee69 := ee69.trans g407.b
            replace hu0 := Rp.mono g407.b hu0
            replace h17 := Rp.mono g407.b h17
            replace h74 := Rp.mono g407.b h74
            replace h75 := Rp.mono g407.b h75
            replace h76 := Rp.mono g407.b h76
            replace h77 := Rp.mono g407.b h77
            replace hv64 := Rp.mono g407.b hv64
            replace h87 := Rp.mono g407.b h87
            replace h93 := Rp.mono g407.b h93
            replace h398 := Rp.mono g407.b h398
            replace h404 := Rp.mono g407.b h404
            obtain ⟨W409, N⟩ := N.drop
            refine st_retF (K := K) (m' := (some false)) hm N.ex cp_bl rfl fun x v B1 H1 hm g hv => ?_
            cases hm
            have hm := ht67 _ rfl
            cases hm
            exact hQ _ _ _ (N.g.then g) hv
          · replace N := N.pure g407
            replace eb68 := eb68.trans g407.b
            replace ee69 := ee69.trans g407.b
            replace hu0 := Rp.mono g407.b hu0
            replace h17 := Rp.mono g407.b h17
            replace h74 := Rp.mono g407.b h74
            replace h75 := Rp.mono g407.b h75
            replace h76 := Rp.mono g407.b h76
            replace h77 := Rp.mono g407.b h77
            replace hv64 := Rp.mono g407.b hv64
            replace h87 := Rp.mono g407.b h87
            replace h93 := Rp.mono g407.b h93
            replace h398 := Rp.mono g407.b h398
            replace h404 := Rp.mono g407.b h404
            refine nxt ?_
            refine gnx ?_
            refine sq ?_
            refine st_ifS hm N (cst_or (cst_test (cs_op (r2_neD (by decide)) (cs_methM ln_r rfl (rec_obj no_Unit_told) csa_nil) (Cp.s (cp_var rfl h404)))) (cst_or (cst_view fun W1 B1 s e1 d1 hP => (ct_test (cp_op r2_ne (cp_recfld ln_r fd_Unit_number rfl T.cls_Unit T.noat_Unit_number hP d1) (cp_var rfl (Rp.mono (e1.trans (ex_uni_r d1)) h17))))) (cst_or (cst_view fun W1 B1 s e1 d1 hP => (ct_test (cp_op r2_ne (cp_recfld ln_r fd_Unit_position rfl T.cls_Unit T.noat_Unit_position hP d1) (cp_var rfl (Rp.mono (e1.trans (ex_uni_r d1)) h75))))) (cst_view fun W1 B1 s e1 d1 hP => (ct_test (cp_op r2_ne (cp_recfld ln_r fd_Unit_lives rfl T.cls_Unit T.noat_Unit_lives hP d1) (cp_var rfl (Rp.mono (e1.trans (ex_uni_r d1)) h77)))))))) (by first | rfl | simp only [o2, Option.bind_assoc, Option.bind_some]) (fun s416 W417 B418 H419 hc420 hm N eb421 => ?_) (fun s416 W417 B418 H419 hc420 hm N eb421 => ?_)
            · try dsimp only at hm
              replace eb68 := eb68.trans eb421
              replace ee69 := ee69.trans eb421
              replace hu0 := Rp.mono eb421 hu0
              replace h17 := Rp.mono eb421 h17
              replace h74 := Rp.mono eb421 h74
              replace h75 := Rp.mono eb421 h75
              replace h76 := Rp.mono eb421 h76
              replace h77 := Rp.mono eb421 h77
              replace hv64 := Rp.mono eb421 hv64
              replace h87 := Rp.mono eb421 h87
              replace h93 := Rp.mono eb421 h93
              replace h398 := Rp.mono eb421 h398
              replace h404 := Rp.mono eb421 h404
              obtain ⟨W422, N⟩ := N.drop
              refine st_retF (K := K) (m' := (some false)) hm N.ex cp_bl rfl fun x v B1 H1 hm g hv => ?_
              cases hm
              have hm := ht67 _ rfl
              cases hm
              exact hQ _ _ _ (N.g.then g) hv
            · try dsimp only at hm
              replace eb68 := eb68.trans eb421
              replace ee69 := ee69.trans eb421
              replace hu0 := Rp.mono eb421 hu0
              replace h17 := Rp.mono eb421 h17
              replace h74 := Rp.mono eb421 h74
              replace h75 := Rp.mono eb421 h75
              replace h76 := Rp.mono eb421 h76
              replace h77 := Rp.mono eb421 h77
              replace hv64 := Rp.mono eb421 hv64
              replace h87 := Rp.mono eb421 h87
              replace h93 := Rp.mono eb421 h93
              replace h398 := Rp.mono eb421 h398
              replace h404 := Rp.mono eb421 h404
              refine nxt ?_
              refine gnx ?_
              refine st_ifS hm N (cst_view fun W1 B1 s e1 d1 hP => (ct_or (ct_test (cp_op r2_ne (cp_recfld ln_r fd_Unit_done rfl T.cls_Unit T.noat_Unit_done hP d1) (cp_var rfl (Rp.mono (e1.trans (ex_uni_r d1)) h74)))) (ct_test (cp_op r2_ne (cp_recfld ln_r fd_Unit_works rfl T.cls_Unit T.noat_Unit_works hP d1) (cp_var rfl (Rp.mono (e1.trans (ex_uni_r d1)) h76)))))) (by first | rfl | simp only [o2, Option.bind_assoc, Option.bind_some]) (fun s423 W424 B425 H426 hc427 hm N eb428 => ?_) (fun s423 W424 B425 H426 hc427 hm N eb428 => ?_)
              · try dsimp only at hm
                replace eb68 := eb68.trans eb428
                replace ee69 := ee69.trans eb428
                replace hu0 := Rp.mono eb428 hu0
                replace h17 := Rp.mono eb428 h17
                replace h74 := Rp.mono eb428 h74
                replace h75 := Rp.mono eb428 h75
                replace h76 := Rp.mono eb428 h76
                replace h77 := Rp.mono eb428 h77
                replace hv64 := Rp.mono eb428 hv64
                replace h87 := Rp.mono eb428 h87
                replace h93 := Rp.mono eb428 h93
                replace h398 := Rp.mono eb428 h398
                replace h404 := Rp.mono eb428 h404
                obtain ⟨W429, N⟩ := N.drop
                refine st_retF (K := K) (m' := (some false)) hm N.ex cp_bl rfl fun x v B1 H1 hm g hv => ?_
                cases hm
                have hm := ht67 _ rfl
                cases hm
                exact hQ _ _ _ (N.g.then g) hv
              · try dsimp only at hm
                replace eb68 := eb68.trans eb428
                replace ee69 := ee69.trans eb428
                replace hu0 := Rp.mono eb428 hu0
                replace h17 := Rp.mono eb428 h17
                replace h74 := Rp.mono eb428 h74
                replace h75 := Rp.mono eb428 h75
                replace h76 := Rp.mono eb428 h76
                replace h77 := Rp.mono eb428 h77
                replace hv64 := Rp.mono eb428 hv64
                replace h87 := Rp.mono eb428 h87
                replace h93 := Rp.mono eb428 h93
                replace h398 := Rp.mono eb428 h398
                replace h404 := Rp.mono eb428 h404
                refine nxt ?_
                cases hm
                exact hn65 _ _ _ _ rfl ⟨_, w70, w71, w72, w73, _, _, _, _, _, _, _, _, N, eb68, ee69, rfl, h74, h75, h76, h77⟩
        · replace N := N.pure g387
          replace eb68 := eb68.trans g387.b
          replace ee69 := ee69.trans g387.b
          replace hu0 := Rp.mono g387.b hu0
          replace h17 := Rp.mono g387.b h17
          replace h74 := Rp.mono g387.b h74
          replace h75 := Rp.mono g387.b h75
          replace h76 := Rp.mono g387.b h76
          replace h77 := Rp.mono g387.b h77
          replace hv64 := Rp.mono g387.b hv64
          replace h87 := Rp.mono g387.b h87
          replace h93 := Rp.mono g387.b h93
          replace h99 := Rp.mono g387.b h99
          refine st_if hm N.ex (ct_test (cp_op r2_eq (cp_var rfl h87) cp_int)) rfl (fun B471 H472 hc474 hm g473 => ?_) (fun B471 H472 hc474 hm g473 => ?_)
          · replace N := N.pure g473
            replace eb68 := eb68.trans g473.b
            replace ee69 := ee69.trans g473.b
            replace hu0 := Rp.mono g473.b hu0
            replace h17 := Rp.mono g473.b h17
            replace h74 := Rp.mono g473.b h74
            replace h75 := Rp.mono g473.b h75
            replace h76 := Rp.mono g473.b h76
            replace h77 := Rp.mono g473.b h77
            replace hv64 := Rp.mono g473.b hv64
            replace h87 := Rp.mono g473.b h87
            replace h93 := Rp.mono g473.b h93
            replace h99 := Rp.mono g473.b h99
            refine sq ?_
            refine st_asg (K := K) hm N.ex cp_bl rfl fun l_answered475 v476 B477 H478 _ hm g479 h480 => ?_
            replace N := N.pure g479
            replace eb68 := eb68.trans g479.b
            replace ee69 := ee69.trans g479.b
            replace hu0 := Rp.mono g479.b hu0
            replace h17 := Rp.mono g479.b h17
            replace h74 := Rp.mono g479.b h74
            replace h75 := Rp.mono g479.b h75
            replace h76 := Rp.mono g479.b h76
            replace h77 := Rp.mono g479.b h77
            replace hv64 := Rp.mono g479.b hv64
            replace h87 := Rp.mono g479.b h87
            replace h99 := Rp.mono g479.b h99
            refine gnx ?_
            refine sq ?_
            refine st_ifS hm N (cst_or (cst_B (cs_notN (cs_methM ln_r rfl (rec_obj no_Unit_hear) (csa_cons (Cp.s (cp_in in_ask (cp_tup2 (ca_cons cp_str (ca_cons (cp_op r2_add (cp_var rfl h17) cp_int) ca_nil))))) csa_nil)))) (cst_B (cs_notN (cs_methM ln_r rfl (rec_obj no_Unit_hear) (csa_cons (Cp.s (cp_in in_move (cp_tup5 (ca_cons cp_str (ca_cons (cp_op r2_add (cp_var rfl h17) cp_int) (ca_cons (cp_var rfl h77) (ca_cons (cp_op r2_add (cp_var rfl h74) cp_int) (ca_cons cp_int ca_nil)))))))) csa_nil))))) (by first | rfl | simp only [o2, Option.bind_assoc, Option.bind_some]) (fun s486 W487 B488 H489 hc490 hm N eb491 => ?_) (fun s486 W487 B488 H489 hc490 hm N eb491 => ?_)
            · try dsimp only at hm
              replace eb68 := eb68.trans eb491
              replace ee69 := ee69.trans eb491
              replace hu0 := Rp.mono eb491 hu0
              replace h17 := Rp.mono eb491 h17
              replace h74 := Rp.mono eb491 h74
              replace h75 := Rp.mono eb491 h75
              replace h76 := Rp.mono eb491 h76
              replace h77 := Rp.mono eb491 h77
              replace hv64 := Rp.mono eb491 hv64
              replace h87 := Rp.mono eb491 h87
              replace h99 := Rp.mono eb491 h99
              replace h480 := Rp.mono eb491 h480
              obtain ⟨W492, N⟩ := N.drop
              refine st_retF (K := K) (m' := (some false)) hm N.ex cp_bl rfl fun x v B1 H1 hm g hv => ?_
              cases hm
              have hm := ht67 _ rfl
              cases hm
              exact hQ _ _ _ (N.g.then g) hv
            · try dsimp only at hm
              replace eb68 := eb68.trans eb491
              replace ee69 := ee69.trans eb491
              replace hu0 := Rp.mono eb491 hu0
              replace h17 := Rp.mono eb491 h17
              replace h74 := Rp.mono eb491 h74
              replace h75 := Rp.mono eb491 h75
              replace h76 := Rp.mono eb491 h76
              replace h77 := Rp.mono eb491 h77
              replace hv64 := Rp.mono eb491 hv64
              replace h87 := Rp.mono eb491 h87
              replace h99 := Rp.mono eb491 h99
              replace h480 := Rp.mono eb491 h480
              refine nxt ?_
              refine gnx ?_
              refine st_ifS hm N (cst_B (cs_notN (cs_methM ln_r rfl (rec_obj no_Unit_hear) (csa_cons (Cp.s (cp_in in_told (cp_tup6 (ca_cons cp_str (ca_cons (cp_var rfl h17) (ca_cons (cp_var rfl h77) (ca_cons (cp_op r2_add (cp_var rfl h74) cp_int) (ca_cons cp_int (ca_cons cp_bl ca_nil))))))))) csa_nil)))) (by first | rfl | simp only [o2, Option.bind_assoc, Option.bind_some]) (fun s495 W496 B497 H498 hc499 hm N eb500 => ?_) (fun s495 W496 B497 H498 hc499 hm N eb500 => ?_)
              · try dsimp only at hm
                replace eb68 := eb68.trans eb500
                replace ee69 := ee69.trans eb500
                replace hu0 := Rp.mono eb500 hu0
                replace h17 := Rp.mono eb500 h17
                replace h74 := Rp.mono eb500 h74
                replace h75 := Rp.mono eb500 h75
                replace h76 := Rp.mono eb500 h76
                replace h77 := Rp.mono eb500 h77
                replace hv64 := Rp.mono eb500 hv64
                replace h87 := Rp.mono eb500 h87
                replace h99 := Rp.mono eb500 h99
                replace h480 := Rp.mono eb500 h480
                obtain ⟨W501, N⟩ := N.drop
                refine st_retF (K := K) (m' := (some false)) hm N.ex cp_bl rfl fun x v B1 H1 hm g hv => ?_
                cases hm
                have hm := ht67 _ rfl
                cases hm
                exact hQ _ _ _ (N.g.then g) hv
              · try dsimp only at hm
                replace eb68 := eb68.trans eb500
                replace ee69 := ee69.trans eb500
                replace hu0 := Rp.mono eb500 hu0
                replace h17 := Rp.mono eb500 h17
                replace h74 := Rp.mono eb500 h74
                replace h75 := Rp.mono eb500 h75
                replace h76 := Rp.mono eb500 h76
                replace h77 := Rp.mono eb500 h77
                replace hv64 := Rp.mono eb500 hv64
                replace h87 := Rp.mono eb500 h87
                replace h99 := Rp.mono eb500 h99
                replace h480 := Rp.mono eb500 h480
                refine nxt ?_
                refine gnx ?_
                refine sq ?_
                refine st_asg (K := K) hm N.ex (cp_tup6 (ca_cons cp_str (ca_cons (cp_var rfl h17) (ca_cons (cp_var rfl h77) (ca_cons (cp_var rfl h74) (ca_cons (cp_var rfl h75) (ca_cons (cp_var rfl h76) ca_nil))))))) rfl fun l_due502 v503 B504 H505 _ hm g506 h507 => ?_
                replace N := N.pure g506
                replace eb68 := eb68.trans g506.b
                replace ee69 := ee69.trans g506.b
                replace hu0 := Rp.mono g506.b hu0
                replace h17 := Rp.mono g506.b h17
                replace h74 := Rp.mono g506.b h74
                replace h75 := Rp.mono g506.b h75
                replace h76 := Rp.mono g506.b h76
                replace h77 := Rp.mono g506.b h77
                replace hv64 := Rp.mono g506.b hv64
                replace h87 := Rp.mono g506.b h87
                replace h99 := Rp.mono g506.b h99
                replace h480 := Rp.mono g506.b h480
                refine gnx ?_
                refine sq ?_
                refine st_if hm N.ex (ct_and (ct_B (cp_var rfl h480)) (ct_or (ct_not (ct_B (cp_isi isi_otuple6 (cp_var rfl h99)))) (ct_test (cp_op (r2_neD (by decide)) (cp_var rfl h99) (Cp.opt (cp_var rfl h507)))))) (by first | rfl | simp only [o2, Option.bind_assoc, Option.bind_some]) (fun B508 H509 hc511 hm g510 => ?_) (fun B508 H509 hc511 hm g510 => ?_)
                · replace N := N.pure g510
                  replace eb68 := eb68.trans g510.b
                  replace ee69 := ee69.trans g510.b
                  replace hu0 := Rp.mono g510.b hu0
                  replace h17 := Rp.mono g510.b h17
                  replace h74 := Rp.mono g510.b h74
                  replace h75 := Rp.mono g510.b h75
                  replace h76 := Rp.mono g510.b h76
                  replace h77 := Rp.mono g510.b h77
                  replace hv64 := Rp.mono g510.b hv64
                  replace h87 := Rp.mono g510.b h87
                  replace h99 := Rp.mono g510.b h99
                  replace h480 := Rp.mono g510.b h480
                  replace h507 := Rp.mono g510.b h507
                  obtain ⟨W512, N⟩ := N.drop
                  refine st_retF (K := K) (m' := (some false)) hm N.ex cp_bl rfl fun x v B1 H1 hm g hv => ?_
                  cases hm
                  have hm := ht67 _ rfl
                  cases hm
                  exact hQ _ _ _ (N.g.then g) hv
                · replace N := N.pure g510
                  replace eb68 := eb68.trans g510.b
                  replace ee69 := ee69.trans g510.b
                  replace hu0 := Rp.mono g510.b hu0
                  replace h17 := Rp.mono g510.b h17
                  replace h74 := Rp.mono g510.b h74
                  replace h75 := Rp.mono g510.b h75
                  replace h76 := Rp.mono g510.b h76
                  replace h77 := Rp.mono g510.b h77
                  replace hv64 := Rp.mono g510.b hv64
                  replace h87 := Rp.mono g510.b h87
                  replace h99 := Rp.mono g510.b h99
                  replace h480 := Rp.mono g510.b h480
                  replace h507 := Rp.mono g510.b h507
                  refine nxt ?_
                  refine gnx ?_
                  refine sq ?_
                  refine st_ifS hm N (cst_or (cst_test (cs_op (r2_neD (by decide)) (cs_methM ln_r rfl (rec_obj no_Unit_told) csa_nil) (Cp.s (cp_var rfl h507)))) (cst_or (cst_view fun W1 B1 s e1 d1 hP => (ct_test (cp_op r2_ne (cp_recfld ln_r fd_Unit_number rfl T.cls_Unit T.noat_Unit_number hP d1) (cp_var rfl (Rp.mono (e1.trans (ex_uni_r d1)) h17))))) (cst_or (cst_view fun W1 B1 s e1 d1 hP => (ct_test (cp_op r2_ne (cp_recfld ln_r fd_Unit_position rfl T.cls_Unit T.noat_Unit_position hP d1) (cp_var rfl (Rp.mono (e1.trans (ex_uni_r d1)) h75))))) (cst_view fun W1 B1 s e1 d1 hP => (ct_test (cp_op r2_ne (cp_recfld ln_r fd_Unit_lives rfl T.cls_Unit T.noat_Unit_lives hP d1) (cp_var rfl (Rp.mono (e1.trans (ex_uni_r d1)) h77)))))))) (by first | rfl | simp only [o2, Option.bind_assoc, Option.bind_some]) (fun s519 W520 B521 H522 hc523 hm N eb524 => ?_) (fun s519 W520 B521 H522 hc523 hm N eb524 => ?_)
                  · try dsimp only at hm
                    replace eb68 := eb68.trans eb524
                    replace ee69 := ee69.trans eb524
                    replace hu0 := Rp.mono eb524 hu0
                    replace h17 := Rp.mono eb524 h17
                    replace h74 := Rp.mono eb524 h74
                    replace h75 := Rp.mono eb524 h75
                    replace h76 := Rp.mono eb524 h76
                    replace h77 := Rp.mono eb524 h77
                    replace hv64 := Rp.mono eb524 hv64
                    replace h87 := Rp.mono eb524 h87
                    replace h99 := Rp.mono eb524 h99
                    replace h480 := Rp.mono eb524 h480
                    replace h507 := Rp.mono eb524 h507
                    obtain ⟨W525, N⟩ := N.drop
                    refine st_retF (K := K) (m' := (some false)) hm N.ex cp_bl rfl fun x v B1 H1 hm g hv => ?_
                    cases hm
                    have hm := ht67 _ rfl
                    cases hm
                    exact hQ _ _ _ (N.g.then g) hv
                  · try dsimp only at hm
                    replace eb68 := eb68.trans eb524
                    replace ee69 := ee69.trans eb524
                    replace hu0 := Rp.mono eb524 hu0
                    replace h17 := Rp.mono eb524 h17
                    replace h74 := Rp.mono eb524 h74
                    replace h75 := Rp.mono eb524 h75
                    replace h76 := Rp.mono eb524 h76
                    replace h77 := Rp.mono eb524 h77
                    replace hv64 := Rp.mono eb524 hv64
                    replace h87 := Rp.mono eb524 h87
                    replace h99 := Rp.mono eb524 h99
                    replace h480 := Rp.mono eb524 h480
                    replace h507 := Rp.mono eb524 h507
                    refine nxt ?_
                    refine gnx ?_
                    refine st_ifS hm N (cst_view fun W1 B1 s e1 d1 hP => (ct_or (ct_test (cp_op r2_ne (cp_recfld ln_r fd_Unit_done rfl T.cls_Unit T.noat_Unit_done hP d1) (cp_var rfl (Rp.mono (e1.trans (ex_uni_r d1)) h74)))) (ct_test (cp_op r2_ne (cp_recfld ln_r fd_Unit_works rfl T.cls_Unit T.noat_Unit_works hP d1) (cp_var rfl (Rp.mono (e1.trans (ex_uni_r d1)) h76)))))) (by first | rfl | simp only [o2, Option.bind_assoc, Option.bind_some]) (fun s526 W527 B528 H529 hc530 hm N eb531 => ?_) (fun s526 W527 B528 H529 hc530 hm N eb531 => ?_)
                    · try dsimp only at hm
                      replace eb68 := eb68.trans eb531
                      replace ee69 := ee69.trans eb531
                      replace hu0 := Rp.mono eb531 hu0
                      replace h17 := Rp.mono eb531 h17
                      replace h74 := Rp.mono eb531 h74
                      replace h75 := Rp.mono eb531 h75
                      replace h76 := Rp.mono eb531 h76
                      replace h77 := Rp.mono eb531 h77
                      replace hv64 := Rp.mono eb531 hv64
                      replace h87 := Rp.mono eb531 h87
                      replace h99 := Rp.mono eb531 h99
                      replace h480 := Rp.mono eb531 h480
                      replace h507 := Rp.mono eb531 h507
                      obtain ⟨W532, N⟩ := N.drop
                      refine st_retF (K := K) (m' := (some false)) hm N.ex cp_bl rfl fun x v B1 H1 hm g hv => ?_
                      cases hm
                      have hm := ht67 _ rfl
                      cases hm
                      exact hQ _ _ _ (N.g.then g) hv
                    · try dsimp only at hm
                      replace eb68 := eb68.trans eb531
                      replace ee69 := ee69.trans eb531
                      replace hu0 := Rp.mono eb531 hu0
                      replace h17 := Rp.mono eb531 h17
                      replace h74 := Rp.mono eb531 h74
                      replace h75 := Rp.mono eb531 h75
                      replace h76 := Rp.mono eb531 h76
                      replace h77 := Rp.mono eb531 h77
                      replace hv64 := Rp.mono eb531 hv64
                      replace h87 := Rp.mono eb531 h87
                      replace h99 := Rp.mono eb531 h99
                      replace h480 := Rp.mono eb531 h480
                      replace h507 := Rp.mono eb531 h507
                      refine nxt ?_
                      cases hm
                      exact hn65 _ _ _ _ rfl ⟨_, w70, w71, w72, w73, _, _, _, _, _, _, _, _, N, eb68, ee69, rfl, h74, h75, h76, h77⟩
          · replace N := N.pure g473
            replace eb68 := eb68.trans g473.b
            replace ee69 := ee69.trans g473.b
            replace hu0 := Rp.mono g473.b hu0
            replace h17 := Rp.mono g473.b h17
            replace h74 := Rp.mono g473.b h74
            replace h75 := Rp.mono g473.b h75
            replace h76 := Rp.mono g473.b h76
            replace h77 := Rp.mono g473.b h77
            replace hv64 := Rp.mono g473.b hv64
            replace h87 := Rp.mono g473.b h87
            replace h93 := Rp.mono g473.b h93
            replace h99 := Rp.mono g473.b h99
            refine st_if hm N.ex (ct_test (cp_op r2_eq (cp_var rfl h87) cp_int)) rfl (fun B798 H799 hc801 hm g800 => ?_) (fun B798 H799 hc801 hm g800 => ?_)
            · replace N := N.pure g800
              replace eb68 := eb68.trans g800.b
              replace ee69 := ee69.trans g800.b
              replace hu0 := Rp.mono g800.b hu0
              replace h17 := Rp.mono g800.b h17
              replace h74 := Rp.mono g800.b h74
              replace h75 := Rp.mono g800.b h75
              replace h76 := Rp.mono g800.b h76
              replace h77 := Rp.mono g800.b h77
              replace hv64 := Rp.mono g800.b hv64
              replace h87 := Rp.mono g800.b h87
              replace h93 := Rp.mono g800.b h93
              replace h99 := Rp.mono g800.b h99
              refine sq ?_
              refine st_asg (K := K) hm N.ex cp_bl rfl fun l_answered802 v803 B804 H805 _ hm g806 h807 => ?_
              replace N := N.pure g806
              replace eb68 := eb68.trans g806.b
              replace ee69 := ee69.trans g806.b
              replace hu0 := Rp.mono g806.b hu0
              replace h17 := Rp.mono g806.b h17
              replace h74 := Rp.mono g806.b h74
              replace h75 := Rp.mono g806.b h75
              replace h76 := Rp.mono g806.b h76
              replace h77 := Rp.mono g806.b h77
              replace hv64 := Rp.mono g806.b hv64
              replace h87 := Rp.mono g806.b h87
              replace h99 := Rp.mono g806.b h99
              refine gnx ?_
              refine sq ?_
              refine st_dropS (K := K) hm N (cs_methM ln_r rfl (rec_obj no_Unit_fail) csa_nil) (by first | rfl | simp only [o2, Option.bind_assoc, Option.bind_some]) fun _ s809 W810 B811 H812 hm N eb813 => ?_
              try dsimp only at hm
              replace eb68 := eb68.trans eb813
              replace ee69 := ee69.trans eb813
              replace hu0 := Rp.mono eb813 hu0
              replace h17 := Rp.mono eb813 h17
              replace h74 := Rp.mono eb813 h74
              replace h75 := Rp.mono eb813 h75
              replace h76 := Rp.mono eb813 h76
              replace h77 := Rp.mono eb813 h77
              replace hv64 := Rp.mono eb813 hv64
              replace h87 := Rp.mono eb813 h87
              replace h99 := Rp.mono eb813 h99
              replace h807 := Rp.mono eb813 h807
              refine gnx ?_
              refine st_asg (K := K) hm N.ex cp_bl rfl fun l_works814 v815 B816 H817 _ hm g818 h819 => ?_
              replace N := N.pure g818
              replace eb68 := eb68.trans g818.b
              replace ee69 := ee69.trans g818.b
              replace hu0 := Rp.mono g818.b hu0
              replace h17 := Rp.mono g818.b h17
              replace h74 := Rp.mono g818.b h74
              replace h75 := Rp.mono g818.b h75
              replace h77 := Rp.mono g818.b h77
              replace hv64 := Rp.mono g818.b hv64
              replace h87 := Rp.mono g818.b h87
              replace h99 := Rp.mono g818.b h99
              replace h807 := Rp.mono g818.b h807
              refine gnx ?_
              refine sq ?_
              refine st_asg (K := K) hm N.ex (cp_tup6 (ca_cons cp_str (ca_cons (cp_var rfl h17) (ca_cons (cp_var rfl h77) (ca_cons (cp_var rfl h74) (ca_cons (cp_var rfl h75) (ca_cons (cp_var rfl h819) ca_nil))))))) rfl fun l_due820 v821 B822 H823 _ hm g824 h825 => ?_
              replace N := N.pure g824
              replace eb68 := eb68.trans g824.b
              replace ee69 := ee69.trans g824.b
              replace hu0 := Rp.mono g824.b hu0
              replace h17 := Rp.mono g824.b h17
              replace h74 := Rp.mono g824.b h74
              replace h75 := Rp.mono g824.b h75
              replace h77 := Rp.mono g824.b h77
              replace hv64 := Rp.mono g824.b hv64
              replace h87 := Rp.mono g824.b h87
              replace h99 := Rp.mono g824.b h99
              replace h807 := Rp.mono g824.b h807
              replace h819 := Rp.mono g824.b h819
              refine gnx ?_
              refine sq ?_
              refine st_if hm N.ex (ct_and (ct_B (cp_var rfl h807)) (ct_or (ct_not (ct_B (cp_isi isi_otuple6 (cp_var rfl h99)))) (ct_test (cp_op (r2_neD (by decide)) (cp_var rfl h99) (Cp.opt (cp_var rfl h825)))))) (by first | rfl | simp only [o2, Option.bind_assoc, Option.bind_some]) (fun B826 H827 hc829 hm g828 => ?_) (fun B826 H827 hc829 hm g828 => ?_)
              · replace N := N.pure g828
                replace eb68 := eb68.trans g828.b
                replace ee69 := ee69.trans g828.b
                replace hu0 := Rp.mono g828.b hu0
                replace h17 := Rp.mono g828.b h17
                replace h74 := Rp.mono g828.b h74
                replace h75 := Rp.mono g828.b h75
                replace h77 := Rp.mono g828.b h77
                replace hv64 := Rp.mono g828.b hv64
                replace h87 := Rp.mono g828.b h87
                replace h99 := Rp.mono g828.b h99
                replace h807 := Rp.mono g828.b h807
                replace h819 := Rp.mono g828.b h819
                replace h825 := Rp.mono g828.b h825
                obtain ⟨W830, N⟩ := N.drop
                refine st_retF (K := K) (m' := (some false)) hm N.ex cp_bl rfl fun x v B1 H1 hm g hv => ?_
                cases hm
                have hm := ht67 _ rfl
                cases hm
                exact hQ _ _ _ (N.g.then g) hv
              · replace N := N.pure g828
                replace eb68 := eb68.trans g828.b
                replace ee69 := ee69.trans g828.b
                replace hu0 := Rp.mono g828.b hu0
                replace h17 := Rp.mono g828.b h17
                replace h74 := Rp.mono g828.b h74
                replace h75 := Rp.mono g828.b h75
                replace h77 := Rp.mono g828.b h77
                replace hv64 := Rp.mono g828.b hv64
                replace h87 := Rp.mono g828.b h87
                replace h99 := Rp.mono g828.b h99
                replace h807 := Rp.mono g828.b h807
                replace h819 := Rp.mono g828.b h819
                replace h825 := Rp.mono g828.b h825
                refine nxt ?_
                refine gnx ?_
                refine sq ?_
                refine st_ifS hm N (cst_or (cst_test (cs_op (r2_neD (by decide)) (cs_methM ln_r rfl (rec_obj no_Unit_told) csa_nil) (Cp.s (cp_var rfl h825)))) (cst_or (cst_view fun W1 B1 s e1 d1 hP => (ct_test (cp_op r2_ne (cp_recfld ln_r fd_Unit_number rfl T.cls_Unit T.noat_Unit_number hP d1) (cp_var rfl (Rp.mono (e1.trans (ex_uni_r d1)) h17))))) (cst_or (cst_view fun W1 B1 s e1 d1 hP => (ct_test (cp_op r2_ne (cp_recfld ln_r fd_Unit_position rfl T.cls_Unit T.noat_Unit_position hP d1) (cp_var rfl (Rp.mono (e1.trans (ex_uni_r d1)) h75))))) (cst_view fun W1 B1 s e1 d1 hP => (ct_test (cp_op r2_ne (cp_recfld ln_r fd_Unit_lives rfl T.cls_Unit T.noat_Unit_lives hP d1) (cp_var rfl (Rp.mono (e1.trans (ex_uni_r d1)) h77)))))))) (by first | rfl | simp only [o2, Option.bind_assoc, Option.bind_some]) (fun s837 W838 B839 H840 hc841 hm N eb842 => ?_) (fun s837 W838 B839 H840 hc841 hm N eb842 => ?_)
                · try dsimp only at hm
                  replace eb68 := eb68.trans eb842
                  replace ee69 := ee69.trans eb842
                  replace hu0 := Rp.mono eb842 hu0
                  replace h17 := Rp.mono eb842 h17
                  replace h74 := Rp.mono eb842 h74
                  replace h75 := Rp.mono eb842 h75
                  replace h77 := Rp.mono eb842 h77
                  replace hv64 := Rp.mono eb842 hv64
                  replace h87 := Rp.mono eb842 h87
                  replace h99 := Rp.mono eb842 h99
                  replace h807 := Rp.mono eb842 h807
                  replace h819 := Rp.mono eb842 h819
                  replace h825 := Rp.mono eb842 h825
                  obtain ⟨W843, N⟩ := N.drop
                  refine st_retF (K := K) (m' := (some false)) hm N.ex cp_bl rfl fun x v B1 H1 hm g hv => ?_
                  cases hm
                  have hm := ht67 _ rfl
                  cases hm
                  exact hQ _ _ _ (N.g.then g) hv
                · try dsimp only at hm
                  replace eb68 := eb68.trans eb842
                  replace ee69 := ee69.trans eb842
                  replace hu0 := Rp.mono eb842 hu0
                  replace h17 := Rp.mono eb842 h17
                  replace h74 := Rp.mono eb842 h74
                  replace h75 := Rp.mono eb842 h75
                  replace h77 := Rp.mono eb842 h77
                  replace hv64 := Rp.mono eb842 hv64
                  replace h87 := Rp.mono eb842 h87
                  replace h99 := Rp.mono eb842 h99
                  replace h807 := Rp.mono eb842 h807
                  replace h819 := Rp.mono eb842 h819
                  replace h825 := Rp.mono eb842 h825
                  refine nxt ?_
                  refine gnx ?_
                  refine st_ifS hm N (cst_view fun W1 B1 s e1 d1 hP => (ct_or (ct_test (cp_op r2_ne (cp_recfld ln_r fd_Unit_done rfl T.cls_Unit T.noat_Unit_done hP d1) (cp_var rfl (Rp.mono (e1.trans (ex_uni_r d1)) h74)))) (ct_test (cp_op r2_ne (cp_recfld ln_r fd_Unit_works rfl T.cls_Unit T.noat_Unit_works hP d1) (cp_var rfl (Rp.mono (e1.trans (ex_uni_r d1)) h819)))))) (by first | rfl | simp only [o2, Option.bind_assoc, Option.bind_some]) (fun s844 W845 B846 H847 hc848 hm N eb849 => ?_) (fun s844 W845 B846 H847 hc848 hm N eb849 => ?_)
                  · try dsimp only at hm
                    replace eb68 := eb68.trans eb849
                    replace ee69 := ee69.trans eb849
                    replace hu0 := Rp.mono eb849 hu0
                    replace h17 := Rp.mono eb849 h17
                    replace h74 := Rp.mono eb849 h74
                    replace h75 := Rp.mono eb849 h75
                    replace h77 := Rp.mono eb849 h77
                    replace hv64 := Rp.mono eb849 hv64
                    replace h87 := Rp.mono eb849 h87
                    replace h99 := Rp.mono eb849 h99
                    replace h807 := Rp.mono eb849 h807
                    replace h819 := Rp.mono eb849 h819
                    replace h825 := Rp.mono eb849 h825
                    obtain ⟨W850, N⟩ := N.drop
                    refine st_retF (K := K) (m' := (some false)) hm N.ex cp_bl rfl fun x v B1 H1 hm g hv => ?_
                    cases hm
                    have hm := ht67 _ rfl
                    cases hm
                    exact hQ _ _ _ (N.g.then g) hv
                  · try dsimp only at hm
                    replace eb68 := eb68.trans eb849
                    replace ee69 := ee69.trans eb849
                    replace hu0 := Rp.mono eb849 hu0
                    replace h17 := Rp.mono eb849 h17
                    replace h74 := Rp.mono eb849 h74
                    replace h75 := Rp.mono eb849 h75
                    replace h77 := Rp.mono eb849 h77
                    replace hv64 := Rp.mono eb849 hv64
                    replace h87 := Rp.mono eb849 h87
                    replace h99 := Rp.mono eb849 h99
                    replace h807 := Rp.mono eb849 h807
                    replace h819 := Rp.mono eb849 h819
                    replace h825 := Rp.mono eb849 h825
                    refine nxt ?_
                    cases hm
                    exact hn65 _ _ _ _ rfl ⟨_, w70, w71, v815, w73, _, _, _, _, _, _, _, _, N, eb68, ee69, rfl, h74, h75, h819, h77⟩
            · replace N := N.pure g800
              replace eb68 := eb68.trans g800.b
              replace ee69 := ee69.trans g800.b
              replace hu0 := Rp.mono g800.b hu0
              replace h17 := Rp.mono g800.b h17
              replace h74 := Rp.mono g800.b h74
              replace h75 := Rp.mono g800.b h75
              replace h76 := Rp.mono g800.b h76
              replace h77 := Rp.mono g800.b h77
              replace hv64 := Rp.mono g800.b hv64
              replace h87 := Rp.mono g800.b h87
              replace h93 := Rp.mono g800.b h93
              replace h99 := Rp.mono g800.b h99
              refine sq ?_
              refine st_asg (K := K) hm N.ex cp_bl rfl fun l_answered892 v893 B894 H895 _ hm g896 h897 => ?_
              replace N := N.pure g896
              replace eb68 := eb68.trans g896.b
              replace ee69 := ee69.trans g896.b
              replace hu0 := Rp.mono g896.b hu0
              replace h17 := Rp.mono g896.b h17
              replace h74 := Rp.mono g896.b h74
              replace h75 := Rp.mono g896.b h75
              replace h76 := Rp.mono g896.b h76
              replace h77 := Rp.mono g896.b h77
              replace hv64 := Rp.mono g896.b hv64
              replace h87 := Rp.mono g896.b h87
              replace h99 := Rp.mono g896.b h99
              refine gnx ?_
              refine sq ?_
              refine st_asgS (K := K) hm N (cs_callM ln_l rfl (csa_cons (Cp.s cp_int) csa_nil)) (by first | rfl | simp only [o2, Option.bind_assoc, Option.bind_some]) fun l_position900 s901 v902 W903 B904 H905 hm N eb906 h907 => ?_
              try dsimp only at hm
              replace eb68 := eb68.trans eb906
              replace ee69 := ee69.trans eb906
              replace hu0 := Rp.mono eb906 hu0
              replace h17 := Rp.mono eb906 h17
              replace h74 := Rp.mono eb906 h74
              replace h76 := Rp.mono eb906 h76
              replace h77 := Rp.mono eb906 h77
              replace hv64 := Rp.mono eb906 hv64
              replace h87 := Rp.mono eb906 h87
              replace h99 := Rp.mono eb906 h99
              replace h897 := Rp.mono eb906 h897
              refine gnx ?_
              refine sq ?_
              refine st_dropS (K := K) hm N (cs_methM ln_r rfl (rec_obj no_Unit_repair) (csa_cons (Cp.s (cp_var rfl h907)) csa_nil)) (by first | rfl | simp only [o2, Option.bind_assoc, Option.bind_some]) fun _ s910 W911 B912 H913 hm N eb914 => ?_
              try dsimp only at hm
              replace eb68 := eb68.trans eb914
              replace ee69 := ee69.trans eb914
              replace hu0 := Rp.mono eb914 hu0
              replace h17 := Rp.mono eb914 h17
              replace h74 := Rp.mono eb914 h74
              replace h76 := Rp.mono eb914 h76
              replace h77 := Rp.mono eb914 h77
              replace hv64 := Rp.mono eb914 hv64
              replace h87 := Rp.mono eb914 h87
              replace h99 := Rp.mono eb914 h99
              replace h897 := Rp.mono eb914 h897
              replace h907 := Rp.mono eb914 h907
              refine gnx ?_
              refine sq ?_
              refine st_asg (K := K) hm N.ex (cp_op r2_add (cp_var rfl h77) cp_int) rfl fun l_lives915 v916 B917 H918 _ hm g919 h920 => ?_
              replace N := N.pure g919
              replace eb68 := eb68.trans g919.b
              replace ee69 := ee69.trans g919.b
              replace hu0 := Rp.mono g919.b hu0
              replace h17 := Rp.mono g919.b h17
              replace h74 := Rp.mono g919.b h74
              replace h76 := Rp.mono g919.b h76
              replace hv64 := Rp.mono g919.b hv64
              replace h87 := Rp.mono g919.b h87
              replace h99 := Rp.mono g919.b h99
              replace h897 := Rp.mono g919.b h897
              replace h907 := Rp.mono g919.b h907
              refine gnx ?_
              refine sq ?_
              refine st_asg (K := K) hm N.ex cp_int rfl fun l_done921 v922 B923 H924 _ hm g925 h926 => ?_
              replace N := N.pure g925
              replace eb68 := eb68.trans g925.b
              replace ee69 := ee69.trans g925.b
              replace hu0 := Rp.mono g925.b hu0
              replace h17 := Rp.mono g925.b h17
              replace h76 := Rp.mono g925.b h76
              replace hv64 := Rp.mono g925.b hv64
              replace h87 := Rp.mono g925.b h87
              replace h99 := Rp.mono g925.b h99
              replace h897 := Rp.mono g925.b h897
              replace h907 := Rp.mono g925.b h907
              replace h920 := Rp.mono g925.b h920
              refine gnx ?_
              refine st_asg (K := K) hm N.ex cp_bl rfl fun l_works927 v928 B929 H930 _ hm g931 h932 => ?_
              replace N := N.pure g931
              replace eb68 := eb68.trans g931.b
              replace ee69 := ee69.trans g931.b
              replace hu0 := Rp.mono g931.b hu0
              replace h17 := Rp.mono g931.b h17
              replace hv64 := Rp.mono g931.b hv64
              replace h87 := Rp.mono g931.b h87
              replace h99 := Rp.mono g931.b h99
              replace h897 := Rp.mono g931.b h897
              replace h907 := Rp.mono g931.b h907
              replace h920 := Rp.mono g931.b h920
              replace h926 := Rp.mono g931.b h926
              refine gnx ?_
              refine sq ?_
              refine st_asg (K := K) hm N.ex (cp_tup6 (ca_cons cp_str (ca_cons (cp_var rfl h17) (ca_cons (cp_var rfl h920) (ca_cons (cp_var rfl h926) (ca_cons (cp_var rfl h907) (ca_cons (cp_var rfl h932) ca_nil))))))) rfl fun l_due933 v934 B935 H936 _ hm g937 h938 => ?_
              replace N := N.pure g937
              replace eb68 := eb68.trans g937.b
              replace ee69 := ee69.trans g937.b
              replace hu0 := Rp.mono g937.b hu0
              replace h17 := Rp.mono g937.b h17
              replace hv64 := Rp.mono g937.b hv64
              replace h87 := Rp.mono g937.b h87
              replace h99 := Rp.mono g937.b h99
              replace h897 := Rp.mono g937.b h897
              replace h907 := Rp.mono g937.b h907
              replace h920 := Rp.mono g937.b h920
              replace h926 := Rp.mono g937.b h926
              replace h932 := Rp.mono g937.b h932
              refine gnx ?_
              refine sq ?_
              refine st_if hm N.ex (ct_and (ct_B (cp_var rfl h897)) (ct_or (ct_not (ct_B (cp_isi isi_otuple6 (cp_var rfl h99)))) (ct_test (cp_op (r2_neD (by decide)) (cp_var rfl h99) (Cp.opt (cp_var rfl h938)))))) (by first | rfl | simp only [o2, Option.bind_assoc, Option.bind_some]) (fun B939 H940 hc942 hm g941 => ?_) (fun B939 H940 hc942 hm g941 => ?_)
              · replace N := N.pure g941
                replace eb68 := eb68.trans g941.b
                replace ee69 := ee69.trans g941.b
                replace hu0 := Rp.mono g941.b hu0
                replace h17 := Rp.mono g941.b h17
                replace hv64 := Rp.mono g941.b hv64
                replace h87 := Rp.mono g941.b h87
                replace h99 := Rp.mono g941.b h99
                replace h897 := Rp.mono g941.b h897
                replace h907 := Rp.mono g941.b h907
                replace h920 := Rp.mono g941.b h920
                replace h926 := Rp.mono g941.b h926
                replace h932 := Rp.mono g941.b h932
                replace h938 := Rp.mono g941.b h938
                obtain ⟨W943, N⟩ := N.drop
                refine st_retF (K := K) (m' := (some false)) hm N.ex cp_bl rfl fun x v B1 H1 hm g hv => ?_
                cases hm
                have hm := ht67 _ rfl
                cases hm
                exact hQ _ _ _ (N.g.then g) hv
              · replace N := N.pure g941
                replace eb68 := eb68.trans g941.b
                replace ee69 := ee69.trans g941.b
                replace hu0 := Rp.mono g941.b hu0
                replace h17 := Rp.mono g941.b h17
                replace hv64 := Rp.mono g941.b hv64
                replace h87 := Rp.mono g941.b h87
                replace h99 := Rp.mono g941.b h99
                replace h897 := Rp.mono g941.b h897
                replace h907 := Rp.mono g941.b h907
                replace h920 := Rp.mono g941.b h920
                replace h926 := Rp.mono g941.b h926
                replace h932 := Rp.mono g941.b h932
                replace h938 := Rp.mono g941.b h938
                refine nxt ?_
                refine gnx ?_
                refine sq ?_
                refine st_ifS hm N (cst_or (cst_test (cs_op (r2_neD (by decide)) (cs_methM ln_r rfl (rec_obj no_Unit_told) csa_nil) (Cp.s (cp_var rfl h938)))) (cst_or (cst_view fun W1 B1 s e1 d1 hP => (ct_test (cp_op r2_ne (cp_recfld ln_r fd_Unit_number rfl T.cls_Unit T.noat_Unit_number hP d1) (cp_var rfl (Rp.mono (e1.trans (ex_uni_r d1)) h17))))) (cst_or (cst_view fun W1 B1 s e1 d1 hP => (ct_test (cp_op r2_ne (cp_recfld ln_r fd_Unit_position rfl T.cls_Unit T.noat_Unit_position hP d1) (cp_var rfl (Rp.mono (e1.trans (ex_uni_r d1)) h907))))) (cst_view fun W1 B1 s e1 d1 hP => (ct_test (cp_op r2_ne (cp_recfld ln_r fd_Unit_lives rfl T.cls_Unit T.noat_Unit_lives hP d1) (cp_var rfl (Rp.mono (e1.trans (ex_uni_r d1)) h920)))))))) (by first | rfl | simp only [o2, Option.bind_assoc, Option.bind_some]) (fun s950 W951 B952 H953 hc954 hm N eb955 => ?_) (fun s950 W951 B952 H953 hc954 hm N eb955 => ?_)
                · try dsimp only at hm
                  replace eb68 := eb68.trans eb955
                  replace ee69 := ee69.trans eb955
                  replace hu0 := Rp.mono eb955 hu0
                  replace h17 := Rp.mono eb955 h17
                  replace hv64 := Rp.mono eb955 hv64
                  replace h87 := Rp.mono eb955 h87
                  replace h99 := Rp.mono eb955 h99
                  replace h897 := Rp.mono eb955 h897
                  replace h907 := Rp.mono eb955 h907
                  replace h920 := Rp.mono eb955 h920
                  replace h926 := Rp.mono eb955 h926
                  replace h932 := Rp.mono eb955 h932
                  replace h938 := Rp.mono eb955 h938
                  obtain ⟨W956, N⟩ := N.drop
                  refine st_retF (K := K) (m' := (some false)) hm N.ex cp_bl rfl fun x v B1 H1 hm g hv => ?_
                  cases hm
                  have hm := ht67 _ rfl
                  cases hm
                  exact hQ _ _ _ (N.g.then g) hv
                · try dsimp only at hm
                  replace eb68 := eb68.trans eb955
                  replace ee69 := ee69.trans eb955
                  replace hu0 := Rp.mono eb955 hu0
                  replace h17 := Rp.mono eb955 h17
                  replace hv64 := Rp.mono eb955 hv64
                  replace h87 := Rp.mono eb955 h87
                  replace h99 := Rp.mono eb955 h99
                  replace h897 := Rp.mono eb955 h897
                  replace h907 := Rp.mono eb955 h907
                  replace h920 := Rp.mono eb955 h920
                  replace h926 := Rp.mono eb955 h926
                  replace h932 := Rp.mono eb955 h932
                  replace h938 := Rp.mono eb955 h938
                  refine nxt ?_
                  refine gnx ?_
                  refine st_ifS hm N (cst_view fun W1 B1 s e1 d1 hP => (ct_or (ct_test (cp_op r2_ne (cp_recfld ln_r fd_Unit_done rfl T.cls_Unit T.noat_Unit_done hP d1) (cp_var rfl (Rp.mono (e1.trans (ex_uni_r d1)) h926)))) (ct_test (cp_op r2_ne (cp_recfld ln_r fd_Unit_works rfl T.cls_Unit T.noat_Unit_works hP d1) (cp_var rfl (Rp.mono (e1.trans (ex_uni_r d1)) h932)))))) (by first | rfl | simp only [o2, Option.bind_assoc, Option.bind_some]) (fun s957 W958 B959 H960 hc961 hm N eb962 => ?_) (fun s957 W958 B959 H960 hc961 hm N eb962 => ?_)
                  · try dsimp only at hm
                    replace eb68 := eb68.trans eb962
                    replace ee69 := ee69.trans eb962
                    replace hu0 := Rp.mono eb962 hu0
                    replace h17 := Rp.mono eb962 h17
                    replace hv64 := Rp.mono eb962 hv64
                    replace h87 := Rp.mono eb962 h87
                    replace h99 := Rp.mono eb962 h99
                    replace h897 := Rp.mono eb962 h897
                    replace h907 := Rp.mono eb962 h907
                    replace h920 := Rp.mono eb962 h920
                    replace h926 := Rp.mono eb962 h926
                    replace h932 := Rp.mono eb962 h932
                    replace h938 := Rp.mono eb962 h938
                    obtain ⟨W963, N⟩ := N.drop
                    refine st_retF (K := K) (m' := (some false)) hm N.ex cp_bl rfl fun x v B1 H1 hm g hv => ?_
                    cases hm
                    have hm := ht67 _ rfl
                    cases hm
                    exact hQ _ _ _ (N.g.then g) hv
                  · try dsimp only at hm
                    replace eb68 := eb68.trans eb962
                    replace ee69 := ee69.trans eb962
                    replace hu0 := Rp.mono eb962 hu0
                    replace h17 := Rp.mono eb962 h17
                    replace hv64 := Rp.mono eb962 hv64
                    replace h87 := Rp.mono eb962 h87
                    replace h99 := Rp.mono eb962 h99
                    replace h897 := Rp.mono eb962 h897
                    replace h907 := Rp.mono eb962 h907
                    replace h920 := Rp.mono eb962 h920
                    replace h926 := Rp.mono eb962 h926
                    replace h932 := Rp.mono eb962 h932
                    replace h938 := Rp.mono eb962 h938
                    refine nxt ?_
                    cases hm
                    exact hn65 _ _ _ _ rfl ⟨_, v922, v902, v928, v916, _, _, _, _, _, _, _, _, N, eb68, ee69, rfl, h926, h907, h932, h920⟩
    · rintro Be s1292 B1294 σ H1295 hm ⟨W1293, w1297, w1298, w1299, w1300, _, _, _, _, _, _, _, _, N, eb1296, _, rfl, h1301, h1302, h1303, h1304⟩
      replace hu0 := Rp.mono eb1296 hu0
      replace h17 := Rp.mono eb1296 h17
      refine gnx ?_
      obtain ⟨W1305, N⟩ := N.drop
      refine st_ret (K := K) hm N.ex cp_bl rfl fun v B1 H1 g hv => ?_
      exact hQ v B1 H1 (N.g.then g) hv
end
end Cw

set_option linter.all false
set_option maxRecDepth 100000
namespace Cw
open PySem L2 Cf
theorem forN_idx {α S : Type} {b : α → S → Option S} (I : Nat → S → Prop) (n : Nat) : ∀ (xs : List α) (i : Nat) (s : S), i + xs.length = n → I i s → (∀ x ∈ xs, ∀ i s, i < n → I i s → ∃ s', b x s = some s' ∧ I (i + 1) s') → ∃ s', forN b xs s = some s' ∧ I n s'
  | [], i, s, hn, h, _ => ⟨s, rfl, by subst hn; exact h⟩
  | x :: xs, i, s, hn, h, hb => by
    rw [List.length_cons] at hn
    obtain ⟨s', e, h'⟩ := hb x List.mem_cons_self i s (by omega) h
    obtain ⟨s2, e2, h2⟩ := forN_idx I n xs (i + 1) s' (by omega) h' fun y hy => hb y (List.mem_cons_of_mem _ hy)
    exact ⟨s2, by rw [forN_cons, e]; exact e2, h2⟩
theorem forF_idx {α S R : Type} {b : α → S → Option (Fl S R)} (I : Nat → S → Prop) (n : Nat) : ∀ (xs : List α) (i : Nat) (s : S), i + xs.length = n → I i s → (∀ x ∈ xs, ∀ i s, i < n → I i s → ∃ s', b x s = some (.nx s') ∧ I (i + 1) s') → ∃ s', forF b xs s = some (.nx s') ∧ I n s'
  | [], i, s, hn, h, _ => ⟨s, rfl, by subst hn; exact h⟩
  | x :: xs, i, s, hn, h, hb => by
    rw [List.length_cons] at hn
    obtain ⟨s', e, h'⟩ := hb x List.mem_cons_self i s (by omega) h
    obtain ⟨s2, e2, h2⟩ := forF_idx I n xs (i + 1) s' (by omega) h' fun y hy => hb y (List.mem_cons_of_mem _ hy)
    exact ⟨s2, by rw [forF_cons, e]; exact e2, h2⟩
theorem draw_some {ds : List Int} {n : Int} (h : 0 < n) : ∃ x ds', draw ds (n, ()) = some (x, ds') ∧ 0 ≤ x ∧ x < n := by
  cases ds with
  | nil => exact ⟨0, [], rfl, Int.le_refl _, h⟩
  | cons d ds => exact ⟨d % n, ds, by show ((pmod d n).bind fun x => some (x, ds)) = _; rw [pmod_some h]; rfl, Int.emod_nonneg _ (by omega), Int.emod_lt_of_pos _ h⟩
theorem papp_some {α : Type} {xs : List α} {x : α} (h : xs.length < 1000000) : papp xs x = some (xs ++ [x]) := if_pos h
theorem cell_some (ns : List Int) {k : Int} (hk : 0 ≤ k) : ∃ z, m_l_cell ⟨ns⟩ k = some z := by
  unfold m_l_cell
  show ∃ z, (if decide (k < (ns.length : Int)) = true then at? ns k else some 0) = some z
  by_cases h : k < (ns.length : Int)
  · rw [if_pos (decide_eq_true h), at_nat hk]
    exact ⟨ns[k.toNat]'(by omega), List.getElem?_eq_getElem (by omega)⟩
  · rw [if_neg (by simpa using h)]
    exact ⟨0, rfl⟩
theorem dig_b3 (S : Scr) (a l k c t : Int) (st : Unit × List Int) (s : Int) (h : st.2.length < 1000000) : ∃ x y, m_l_digits_b3 S a l k c t st s = some (((), st.2 ++ [x]), y) := by
  unfold m_l_digits_b3
  rw [pmul_r (by decide) (by decide), pmul_l (by decide) (by decide)]
  simp only [o2, Option.bind_some]
  rw [pmod_some (by decide), Option.bind_some, pdiv_some (by decide) (by decide)]
  simp only [Option.bind_some]
  rw [pmod_some (by decide), Option.bind_some]
  simp only [Option.bind_some]
  rw [papp_some h]
  exact ⟨_, _, rfl⟩
theorem dig_b2 (S : Scr) (a l k t : Int) (st : Unit × List Int) (c : Int) (h : st.2.length < 1000000) : ∃ s', m_l_digits_b2 S a l k t st c = some s' ∧ s'.1.2.length ≤ st.2.length + 1 := by
  unfold m_l_digits_b2
  rw [Option.bind_some]
  by_cases hc : c > 0
  · rw [if_pos (decide_eq_true hc), pmod_some (by decide)]
    simp only [Option.bind_some]
    rw [papp_some h, pdiv_some (by decide) (by decide)]
    exact ⟨_, rfl, by simp⟩
  · rw [if_neg (by simpa using hc)]
    exact ⟨_, rfl, Nat.le_succ _⟩
theorem dig_b1 (ns : List Int) (a l k : Int) (hk : 0 ≤ k) (st : Unit × List Int) (h : st.2.length < 900000) : ∃ s', m_l_digits_b1 ⟨ns⟩ a l k st = some s' ∧ s'.2.length ≤ st.2.length + 60 := by
  unfold m_l_digits_b1
  obtain ⟨c, hc⟩ := cell_some ns hk
  rw [hc, Option.bind_some]
  obtain ⟨c', e⟩ : ∃ c', (Option.bind (some (decide (c < (0 : Int)))) fun b => if b = true then (Option.bind (o2 (some (1 : Int)) (pmul (2 : Int) c) fun x y => some (x - y)) fun d => (some (st, d))) else (some (st, c))) = some (st, c') := by
    rw [Option.bind_some, pmul_l (by decide) (by decide)]
    by_cases h0 : c < 0
    · rw [if_pos (decide_eq_true h0)]
      exact ⟨_, rfl⟩
    · rw [if_neg (by simpa using h0)]
      exact ⟨_, rfl⟩
  rw [e, Option.bind_some]
  have hp : ppow 10 18 = some 1000000000000000000 := by decide +kernel
  rw [hp]
  simp only [o2, Option.bind_some]
  by_cases hb : c' ≥ 1000000000000000000
  · rw [if_pos (decide_eq_true hb)]
    obtain ⟨s', e1, h1⟩ := forN_idx (b := fun x (s : (Unit × List Int) × Int) => m_l_digits_b2 ⟨ns⟩ a l k x s.1 s.2) (fun i s => s.1.2.length ≤ st.2.length + i) 60 (rangeL 0 60) 0 (st, c') rfl (Nat.le_refl _) (fun x _ i s hi hI => by
      obtain ⟨s', e, hs⟩ := dig_b2 ⟨ns⟩ a l k x s.1 s.2 (by omega)
      exact ⟨s', e, by omega⟩)
    refine ⟨s'.1, ?_, h1⟩
    show (forN _ (rangeL 0 60) (st, c')).bind _ = _
    rw [e1]
    rfl
  · rw [if_neg (by simpa using hb), pmul_r (by decide) (by decide), pmul_r (by decide) (by decide)]
    simp only [Option.bind_some]
    rw [pmod_some (by decide)]
    obtain ⟨s', e1, h1⟩ := forN_idx (b := fun x (s : (Unit × List Int) × Int) => m_l_digits_b3 ⟨ns⟩ a l k c' x s.1 s.2) (fun i s => s.1.2.length ≤ st.2.length + i) 12 (rangeL 0 12) 0 (st, (c' * 48271 + k * 69621 + 11) % 2147483647) rfl (Nat.le_refl _) (fun x _ i s hi hI => by
      obtain ⟨x', y', e⟩ := dig_b3 ⟨ns⟩ a l k c' x s.1 s.2 (by omega)
      exact ⟨_, e, by simp; omega⟩)
    refine ⟨s'.1, ?_, by omega⟩
    show (forN _ (rangeL 0 12) (st, (c' * 48271 + k * 69621 + 11) % 2147483647)).bind _ = _
    rw [e1]
    rfl
theorem digits_some (ns : List Int) {a l : Int} (h0 : 0 ≤ a) (h1 : a ≤ l) (h2 : l ≤ 1000) : ∃ ds, m_l_digits ⟨ns⟩ a l = some ds := by
  unfold m_l_digits
  simp only [Option.bind_some]
  unfold prange2
  rw [if_pos (by omega)]
  obtain ⟨s', e1, h1⟩ := forN_idx (b := fun x (s : Unit × List Int) => m_l_digits_b1 ⟨ns⟩ a l x s) (fun i s => s.2.length ≤ 60 * i) (rangeL a l).length (rangeL a l) 0 ((), []) (Nat.zero_add _) (Nat.le_refl _) (fun x hx i s hi hI => by
    have hl := rangeL_len a l
    obtain ⟨s', e, hs⟩ := dig_b1 ns a l x (by have := mem_rangeL.mp hx; omega) s (by omega)
    exact ⟨s', e, by omega⟩)
  exact ⟨s'.2, by rw [Option.bind_some, e1]; rfl⟩
def ust (n p l d : Int) (w : Bool) : Int × Int × Int × Int × Bool × Unit := (n, p, l, d, w, ())
def tell (n p l d : Int) (w : Bool) : T6 Str Int Int Int Int Bool := T6.mk "told" n l d p w
theorem told_ok (n p l d : Int) (w : Bool) : m_Unit_told (ust n p l d w) () = some (tell n p l d w, ust n p l d w) := rfl
theorem ne_told : ¬ ("move" : Str) = ("told" : Str) := by decide +kernel
theorem ne_told2 : ¬ ("ask" : Str) = ("told" : Str) := by decide +kernel
theorem ne_ask : ¬ ("ask" : Str) = ("move" : Str) := by decide +kernel
theorem hear_move (n p l d : Int) (w : Bool) (a b t : Int) : m_Unit_hear (ust n p l d w) (Msg.move (T5.mk "move" n a b t), ()) = if a = l ∧ b = d + 1 ∧ w = true then some (some (tell n t l (d + 1) w), ust n t l (d + 1) w) else some (some (tell n p l d w), ust n p l d w) := by
  unfold m_Unit_hear n_Unit_hear
  simp only [ust, Msg.i0, Msg.i1, Msg.i2, Msg.i3, Msg.i4, o2, Option.bind_some, decide_true, decide_false, Bool.not_true, Bool.not_false, Bool.false_eq_true, Bool.true_eq_false, if_false, if_true, ite_true, ite_false, Bool.true_or, Bool.or_false, Bool.false_or, eq_self_iff_true, reduceCtorEq, decide_eq_false ne_told]
  by_cases h1 : a = l
  · by_cases h2 : b = d + 1
    · cases w with
      | true =>
        rw [if_pos (show a = l ∧ b = d + 1 ∧ true = true from ⟨h1, h2, rfl⟩)]
        simp only [h1, h2, o2, Option.bind_some, decide_true, decide_false, Bool.not_true, Bool.not_false, Bool.false_eq_true, Bool.true_eq_false, if_false, if_true, ite_true, ite_false, Bool.true_or, Bool.or_false, Bool.false_or, eq_self_iff_true, reduceCtorEq]
        rfl
      | false =>
        rw [if_neg (show ¬ (a = l ∧ b = d + 1 ∧ false = true) from fun h => nomatch h.2.2)]
        simp only [h1, h2, o2, Option.bind_some, decide_true, decide_false, Bool.not_true, Bool.not_false, Bool.false_eq_true, Bool.true_eq_false, if_false, if_true, ite_true, ite_false, Bool.true_or, Bool.or_false, Bool.false_or, eq_self_iff_true, reduceCtorEq]
        rfl
    · rw [if_neg (show ¬ (a = l ∧ b = d + 1 ∧ w = true) from fun h => h2 h.2.1)]
      simp only [h1, decide_eq_false h2, o2, Option.bind_some, decide_true, decide_false, Bool.not_true, Bool.not_false, Bool.false_eq_true, Bool.true_eq_false, if_false, if_true, ite_true, ite_false, Bool.true_or, Bool.or_false, Bool.false_or, eq_self_iff_true, reduceCtorEq]
      rfl
  · rw [if_neg (show ¬ (a = l ∧ b = d + 1 ∧ w = true) from fun h => h1 h.1)]
    simp only [decide_eq_false h1, o2, Option.bind_some, decide_true, decide_false, Bool.not_true, Bool.not_false, Bool.false_eq_true, Bool.true_eq_false, if_false, if_true, ite_true, ite_false, Bool.true_or, Bool.or_false, Bool.false_or, eq_self_iff_true, reduceCtorEq]
    rfl
theorem hear_ask (n p l d : Int) (w : Bool) : m_Unit_hear (ust n p l d w) (Msg.ask ("ask", n), ()) = some (some (tell n p l d w), ust n p l d w) := by
  unfold m_Unit_hear n_Unit_hear
  simp only [ust, Msg.i0, Msg.i1, Msg.i2, Msg.i3, Msg.i4, o2, Option.bind_some, decide_true, decide_false, Bool.not_true, Bool.not_false, Bool.false_eq_true, Bool.true_eq_false, if_false, if_true, ite_true, ite_false, Bool.true_or, Bool.or_false, Bool.false_or, eq_self_iff_true, reduceCtorEq, decide_eq_false ne_told2, decide_eq_false ne_ask]
  rfl
theorem hear_no (n p l d : Int) (w : Bool) (m : Msg) (h : ∃ k, m.i1 = some k ∧ ¬ k = n) (h0 : ∃ z, m.i0 = some z) : m_Unit_hear (ust n p l d w) (m, ()) = some (none, ust n p l d w) := by
  obtain ⟨k, e, h⟩ := h
  unfold m_Unit_hear n_Unit_hear
  simp only [ust, e, o2, Option.bind_some, decide_true, decide_false, Bool.not_true, Bool.not_false, Bool.false_eq_true, Bool.true_eq_false, if_false, if_true, ite_true, ite_false, Bool.true_or, Bool.or_false, Bool.false_or, eq_self_iff_true, reduceCtorEq, decide_eq_false h]
theorem hear_told (n p l d : Int) (w : Bool) (x : T6 Str Int Int Int Int Bool) (h : x.a = "told") : m_Unit_hear (ust n p l d w) (Msg.told x, ()) = some (none, ust n p l d w) := by
  unfold m_Unit_hear n_Unit_hear
  simp only [ust, Msg.i0, Msg.i1, h, o2, Option.bind_some, decide_true, decide_false, Bool.not_true, Bool.not_false, Bool.false_eq_true, Bool.true_eq_false, if_false, if_true, ite_true, ite_false, Bool.true_or, Bool.or_false, Bool.false_or, eq_self_iff_true, reduceCtorEq]
  by_cases hb : x.b = n
  · simp only [decide_eq_true hb, o2, Option.bind_some, decide_true, decide_false, Bool.not_true, Bool.not_false, Bool.false_eq_true, Bool.true_eq_false, if_false, if_true, ite_true, ite_false, Bool.true_or, Bool.or_false, Bool.false_or, eq_self_iff_true, reduceCtorEq]
  · simp only [decide_eq_false hb, o2, Option.bind_some, decide_true, decide_false, Bool.not_true, Bool.not_false, Bool.false_eq_true, Bool.true_eq_false, if_false, if_true, ite_true, ite_false, Bool.true_or, Bool.or_false, Bool.false_or, eq_self_iff_true, reduceCtorEq]
theorem fail_ok (n p l d : Int) (w : Bool) : m_Unit_fail (ust n p l d w) () = some ((), ust n p l d false) := rfl
theorem repair_ok (n p l d : Int) (w : Bool) (t : Int) : m_Unit_repair (ust n p l d w) (t, ()) = some ((), ust n t (l + 1) 0 true) := rfl
theorem u1 (n p l d : Int) (w : Bool) : (ust n p l d w).1 = n := rfl
theorem u2 (n p l d : Int) (w : Bool) : (ust n p l d w).2.1 = p := rfl
theorem u3 (n p l d : Int) (w : Bool) : (ust n p l d w).2.2.1 = l := rfl
theorem u4 (n p l d : Int) (w : Bool) : (ust n p l d w).2.2.2.1 = d := rfl
theorem u5 (n p l d : Int) (w : Bool) : (ust n p l d w).2.2.2.2.1 = w := rfl
theorem pl5 : plst ([(0 : Int), (0 : Int), (0 : Int), (-(1 : Int)), (1 : Int)]) = some [(0 : Int), (0 : Int), (0 : Int), (-(1 : Int)), (1 : Int)] := rfl
theorem pl6 : plst ([(1 : Int), (1 : Int), (1 : Int), (0 : Int), (-(1 : Int)), (2 : Int)]) = some [(1 : Int), (1 : Int), (1 : Int), (0 : Int), (-(1 : Int)), (2 : Int)] := rfl
theorem at_some {xs : List Int} {i : Int} (h0 : 0 ≤ i) (h1 : i < (xs.length : Int)) : ∃ x, at? xs i = some x := by
  rw [at_nat h0]
  exact ⟨xs[i.toNat]'(by omega), List.getElem?_eq_getElem (by omega)⟩
def Inv (n : Int) (s : (List Int × (Int × Int × Int × Int × Bool × Unit)) × Int × Int × Bool × Int) : Prop := s.1.2 = ust n s.2.2.1 s.2.2.2.2 s.2.1 s.2.2.2.1
theorem b1_ok (ns : List Int) (n t : Int) (s : (List Int × (Int × Int × Int × Int × Bool × Unit)) × Int × Int × Bool × Int) (h : Inv n s) : ∃ s', m_law_b1 ⟨ns⟩ n t s.1 s.2.1 s.2.2.1 s.2.2.2.1 s.2.2.2.2 = some (.nx s') ∧ Inv n s' := by
  obtain ⟨⟨ds, u⟩, d, p, w, l⟩ := s
  have hu : u = ust n p l d w := h
  subst hu
  unfold m_law_b1
  obtain ⟨k, d1, e1, k0, k8⟩ := draw_some (ds := ds) (n := 8) (by decide)
  simp only [e1, o2, Option.bind_some, decide_true, decide_false, Bool.not_true, Bool.not_false, Bool.false_eq_true, Bool.true_eq_false, if_false, if_true, ite_true, ite_false, Bool.true_or, Bool.or_false, Bool.false_or, eq_self_iff_true, reduceCtorEq]
  by_cases k4 : k < 4
  · rw [if_pos (decide_eq_true k4)]
    obtain ⟨a, d2, e2, a0, a5⟩ := draw_some (ds := d1) (n := 5) (by decide)
    obtain ⟨c, d3, e3, c0, c6⟩ := draw_some (ds := d2) (n := 6) (by decide)
    obtain ⟨to, d4, e4, _, _⟩ := draw_some (ds := d3) (n := 50) (by decide)
    obtain ⟨x, hx⟩ := at_some (xs := [(0 : Int), (0 : Int), (0 : Int), (-(1 : Int)), (1 : Int)]) a0 a5
    obtain ⟨y, hy⟩ := at_some (xs := [(1 : Int), (1 : Int), (1 : Int), (0 : Int), (-(1 : Int)), (2 : Int)]) c0 c6
    simp only [pl5, pl6, e2, e3, e4, hx, hy, o2, Option.bind_some, decide_true, decide_false, Bool.not_true, Bool.not_false, Bool.false_eq_true, Bool.true_eq_false, if_false, if_true, ite_true, ite_false, Bool.true_or, Bool.or_false, Bool.false_or, eq_self_iff_true, reduceCtorEq, hear_move]
    by_cases h1 : l + x = l
    · by_cases h2 : d + y = d + 1
      · cases w with
        | true =>
          rw [if_pos ⟨h1, h2, rfl⟩]
          simp only [decide_eq_true h1, decide_eq_true h2, o2, Option.bind_some, decide_true, decide_false, Bool.not_true, Bool.not_false, Bool.false_eq_true, Bool.true_eq_false, if_false, if_true, ite_true, ite_false, Bool.true_or, Bool.or_false, Bool.false_or, eq_self_iff_true, reduceCtorEq, Option.isSome, told_ok, u1, u2, u3, u4, u5, tell]
          exact ⟨_, rfl, rfl⟩
        | false =>
          rw [if_neg (by simp)]
          simp only [decide_eq_true h1, decide_eq_true h2, o2, Option.bind_some, decide_true, decide_false, Bool.not_true, Bool.not_false, Bool.false_eq_true, Bool.true_eq_false, if_false, if_true, ite_true, ite_false, Bool.true_or, Bool.or_false, Bool.false_or, eq_self_iff_true, reduceCtorEq, Option.isSome, told_ok, u1, u2, u3, u4, u5, tell]
          exact ⟨_, rfl, rfl⟩
      · rw [if_neg (fun h => h2 h.2.1)]
        simp only [decide_eq_true h1, decide_eq_false h2, o2, Option.bind_some, decide_true, decide_false, Bool.not_true, Bool.not_false, Bool.false_eq_true, Bool.true_eq_false, if_false, if_true, ite_true, ite_false, Bool.true_or, Bool.or_false, Bool.false_or, eq_self_iff_true, reduceCtorEq, Option.isSome, told_ok, u1, u2, u3, u4, u5, tell]
        exact ⟨_, rfl, rfl⟩
    · rw [if_neg (fun h => h1 h.1)]
      simp only [decide_eq_false h1, o2, Option.bind_some, decide_true, decide_false, Bool.not_true, Bool.not_false, Bool.false_eq_true, Bool.true_eq_false, if_false, if_true, ite_true, ite_false, Bool.true_or, Bool.or_false, Bool.false_or, eq_self_iff_true, reduceCtorEq, Option.isSome, told_ok, u1, u2, u3, u4, u5, tell]
      exact ⟨_, rfl, rfl⟩
  rw [if_neg (by simpa using k4)]
  by_cases k5 : k = 4
  · rw [if_pos (decide_eq_true k5)]
    simp only [hear_ask, o2, Option.bind_some, decide_true, decide_false, Bool.not_true, Bool.not_false, Bool.false_eq_true, Bool.true_eq_false, if_false, if_true, ite_true, ite_false, Bool.true_or, Bool.or_false, Bool.false_or, eq_self_iff_true, reduceCtorEq, Option.isSome, told_ok, u1, u2, u3, u4, u5, tell]
    exact ⟨_, rfl, rfl⟩
  rw [if_neg (by simpa using k5)]
  by_cases k6 : k = 5
  · rw [if_pos (decide_eq_true k6)]
    rw [hear_no n p l d w (Msg.ask ("ask", n + 1)) ⟨n + 1, rfl, by omega⟩ ⟨_, rfl⟩]
    simp only [o2, Option.bind_some, decide_true, decide_false, Bool.not_true, Bool.not_false, Bool.false_eq_true, Bool.true_eq_false, if_false, if_true, ite_true, ite_false, Bool.true_or, Bool.or_false, Bool.false_or, eq_self_iff_true, reduceCtorEq, Option.isSome]
    rw [hear_no n p l d w (Msg.move _) ⟨n + 1, rfl, by omega⟩ ⟨_, rfl⟩]
    simp only [o2, Option.bind_some, decide_true, decide_false, Bool.not_true, Bool.not_false, Bool.false_eq_true, Bool.true_eq_false, if_false, if_true, ite_true, ite_false, Bool.true_or, Bool.or_false, Bool.false_or, eq_self_iff_true, reduceCtorEq, Option.isSome]
    rw [hear_told n p l d w _ rfl]
    simp only [o2, Option.bind_some, decide_true, decide_false, Bool.not_true, Bool.not_false, Bool.false_eq_true, Bool.true_eq_false, if_false, if_true, ite_true, ite_false, Bool.true_or, Bool.or_false, Bool.false_or, eq_self_iff_true, reduceCtorEq, Option.isSome, told_ok, u1, u2, u3, u4, u5, tell]
    exact ⟨_, rfl, rfl⟩
  rw [if_neg (by simpa using k6)]
  by_cases k7 : k = 6
  · rw [if_pos (decide_eq_true k7)]
    simp only [fail_ok, o2, Option.bind_some, decide_true, decide_false, Bool.not_true, Bool.not_false, Bool.false_eq_true, Bool.true_eq_false, if_false, if_true, ite_true, ite_false, Bool.true_or, Bool.or_false, Bool.false_or, eq_self_iff_true, reduceCtorEq, told_ok, u1, u2, u3, u4, u5, tell]
    exact ⟨_, rfl, rfl⟩
  rw [if_neg (by simpa using k7)]
  obtain ⟨a, d2, e2, a0, a5⟩ := draw_some (ds := d1) (n := 50) (by decide)
  simp only [e2, o2, Option.bind_some, decide_true, decide_false, Bool.not_true, Bool.not_false, Bool.false_eq_true, Bool.true_eq_false, if_false, if_true, ite_true, ite_false, Bool.true_or, Bool.or_false, Bool.false_or, eq_self_iff_true, reduceCtorEq, repair_ok, told_ok, u1, u2, u3, u4, u5, tell]
  exact ⟨_, rfl, rfl⟩
theorem forF_inv {α S R : Type} {b : α → S → Option (Fl S R)} (I : S → Prop) (h : ∀ x s, I s → ∃ s', b x s = some (.nx s') ∧ I s') : ∀ (xs : List α) (s : S), I s → ∃ s', forF b xs s = some (.nx s') ∧ I s'
  | [], s, hs => ⟨s, rfl, hs⟩
  | x :: xs, s, hs => by
    obtain ⟨s', e, h'⟩ := h x s hs
    obtain ⟨s2, e2, h2⟩ := forF_inv I h xs s' h'
    exact ⟨s2, by rw [forF_cons, e]; exact e2, h2⟩
theorem law_true (ns : List Int) (hl : ns.length ≤ 63) : m_law ⟨ns⟩ = some true := by
  unfold m_law
  obtain ⟨ds, hd⟩ := digits_some ns (a := 0) (l := 63) (by decide) (by decide) (by decide)
  obtain ⟨n, d1, e1, _, _⟩ := draw_some (ds := ds) (n := 5) (by decide)
  obtain ⟨p, d2, e2, _, _⟩ := draw_some (ds := d1) (n := 50) (by decide)
  obtain ⟨m, d3, e3, m0, m1⟩ := draw_some (ds := d2) (n := 41) (by decide)
  simp only [hd, o2, Option.bind_some, decide_true, decide_false, Bool.not_true, Bool.not_false, Bool.false_eq_true, Bool.true_eq_false, if_false, if_true, ite_true, ite_false, Bool.true_or, Bool.or_false, Bool.false_or, eq_self_iff_true, reduceCtorEq, e1, e2, e3]
  rw [show m_Unit___init__ (n, p, ()) = some (ust n p 0 0 true) from rfl]
  simp only [o2, Option.bind_some, decide_true, decide_false, Bool.not_true, Bool.not_false, Bool.false_eq_true, Bool.true_eq_false, if_false, if_true, ite_true, ite_false, Bool.true_or, Bool.or_false, Bool.false_or, eq_self_iff_true, reduceCtorEq, e3]
  unfold prange1
  rw [if_pos (by omega), Option.bind_some]
  obtain ⟨s', e, _⟩ := forF_inv (R := Bool) (Inv n) (b1_ok ns n) (rangeL 0 m) ((d3, ust n p 0 0 true), 0, p, true, 0) rfl
  rw [e]
  rfl
end Cw

set_option Elab.async false
set_option linter.all false
set_option maxRecDepth 100000
set_option maxHeartbeats 4000000
namespace Cw
open PySem L2 Cf
open PySem.Spec PyProof.Rows
def d_l_cell : He.DefD := ⟨("_law_cell", none), "_law_cell", "_law_cell", defArgs s_l_cell, defBody s_l_cell, defScope s_l_cell, [], []⟩
def d_l_digits : He.DefD := ⟨("_law_digits", none), "_law_digits", "_law_digits", defArgs s_l_digits, defBody s_l_digits, defScope s_l_digits, [], []⟩
def d_l_draw : He.DefD := ⟨("_law_draw", none), "_law_draw", "_law_draw", defArgs s_l_draw, defBody s_l_draw, defScope s_l_draw, [], []⟩
def d_Unit___init__ : He.DefD := ⟨("Unit", some "__init__"), "__init__", "Unit.__init__", defArgs s_Unit___init__, defBody s_Unit___init__, defScope s_Unit___init__, [], []⟩
def d_Unit_told : He.DefD := ⟨("Unit", some "told"), "told", "Unit.told", defArgs s_Unit_told, defBody s_Unit_told, defScope s_Unit_told, [], []⟩
def d_Unit_hear : He.DefD := ⟨("Unit", some "hear"), "hear", "Unit.hear", defArgs s_Unit_hear, defBody s_Unit_hear, defScope s_Unit_hear, [], []⟩
def d_Unit_fail : He.DefD := ⟨("Unit", some "fail"), "fail", "Unit.fail", defArgs s_Unit_fail, defBody s_Unit_fail, defScope s_Unit_fail, [], []⟩
def d_Unit_repair : He.DefD := ⟨("Unit", some "repair"), "repair", "Unit.repair", defArgs s_Unit_repair, defBody s_Unit_repair, defScope s_Unit_repair, [], []⟩
def d_law : He.DefD := ⟨("law", none), "law", "law", defArgs s_law, defBody s_law, defScope s_law, [], []⟩
def fnL : List He.DefD := [d_l_cell, d_l_digits, d_l_draw, d_Unit___init__, d_Unit_told, d_Unit_hear, d_Unit_fail, d_Unit_repair, d_law]
def faL : List He.Fa := [.cls "Unit", .free "int", .free "isinstance", .free "len", .free "range", .free "tuple", .glo "Unit", .mkr "Unit", .noat "Unit" "done", .noat "Unit" "lives", .noat "Unit" "number", .noat "Unit" "position", .noat "Unit" "works", .str "MOVE" "move", .str "TOLD" "told", .glo "_law_cell", .glo "_law_digits", .glo "_law_draw", .meth "Unit" "__init__", .meth "Unit" "told", .meth "Unit" "hear", .meth "Unit" "fail", .meth "Unit" "repair", .glo "law"]
def loose : List PySem.Str := (["MOVE", "TOLD", "Unit", "_law_cell", "_law_digits", "_law_draw"] : List PySem.Str)
abbrev R : PySem.W.OpenRow := PySem.W.OpenLaw.row PySem.Challenge.rw_clearfloor_k27_a_unit_does_each_command
abbrev hk : PySem.W.Hook := He.hookD 5 faL fnL
def ob (s : PySem.W.SharedT) : He.AlD := He.obsDG 5 faL fnL (HandSHeadRun.getT s)
theorem ob_eq (s : PySem.W.SharedT) : ob s = hk.obs s.abs := He.obsDG_eq (HandSHeadRun.getT_eq s)
set_option maxHeartbeats 0 in
theorem run (w : World) : HandSHeadRun.RunEq R (PySem.W.view R.prog [8]) hk ob 8000 loose w := by
  intro os
  kernel_rfl
theorem facts {P : Program} {w : World} {K : PySem.W.Frag} {h : Heap} {mg : Str → Option Value} {f : Addr} (X : K.In h) (G : h.Ns mainGlobals mg) (hfa : mg ("law" : Str) = some (.ref f)) (c : He.SaysD faL fnL K) :
    ∃ fd : FuncData, (∀ (s : Shared) (v : Value), BindsTo s fd ⟨[v], []⟩ [("_law_script", v)]) ∧ ∀ base : Heap, K.In base → base.Ns mainGlobals mg → FnOk P w K mg base CX0 3 f fd ["_law_script"] (sp_law K) := by
  have T : Tx K mg := ⟨He.cls_ok (c.fact 0 rfl), He.free_ok X G (c.fact 1 rfl), He.free_ok X G (c.fact 2 rfl), He.free_ok X G (c.fact 3 rfl), He.free_ok X G (c.fact 4 rfl), He.free_ok X G (c.fact 5 rfl), He.glo_ok X G (c.fact 6 rfl), He.mkr_ok (c.fact 7 rfl), He.noat_ok (c.fact 8 rfl), He.noat_ok (c.fact 9 rfl), He.noat_ok (c.fact 10 rfl), He.noat_ok (c.fact 11 rfl), He.noat_ok (c.fact 12 rfl), He.str_ok X G (c.fact 13 rfl), He.str_ok X G (c.fact 14 rfl)⟩
  obtain ⟨fd0, F0⟩ := c.def_ 0 (d := d_l_cell) rfl
  obtain ⟨fd1, F1⟩ := c.def_ 1 (d := d_l_digits) rfl
  obtain ⟨fd2, F2⟩ := c.def_ 2 (d := d_l_draw) rfl
  obtain ⟨fd3, F3⟩ := c.def_ 3 (d := d_Unit___init__) rfl
  obtain ⟨fd4, F4⟩ := c.def_ 4 (d := d_Unit_told) rfl
  obtain ⟨fd5, F5⟩ := c.def_ 5 (d := d_Unit_hear) rfl
  obtain ⟨fd6, F6⟩ := c.def_ 6 (d := d_Unit_fail) rfl
  obtain ⟨fd7, F7⟩ := c.def_ 7 (d := d_Unit_repair) rfl
  obtain ⟨fd8, F8⟩ := c.def_ 8 (d := d_law) rfl
  have e := hfa.symm.trans (He.glo_ok X G (c.fact 23 rfl))
  cases e
  refine ⟨fd8, fun s v => FunD.bindsA (ps := ["_law_script"]) F8 (fun _ _ _ _ _ _ us hl => match us, hl with | [_], _ => rfl) s [v] rfl, fun base _ _ => ?_⟩
  have c_l_cell : Fc P w K mg base 1 "_law_cell" ["_law_script", "_law_k"] (sp_l_cell K) := fc_of F0 (ok_l_cell F0 T ) (He.glo_ok X G (c.fact 15 rfl)) (fun _ _ _ _ _ _ us hl => match us, hl with | [_, _], _ => rfl)
  have c_l_digits : Fc P w K mg base 2 "_law_digits" ["_law_script", "_law_first", "_law_last"] (sp_l_digits K) := fc_of F1 (ok_l_digits F1 T c_l_cell) (He.glo_ok X G (c.fact 16 rfl)) (fun _ _ _ _ _ _ us hl => match us, hl with | [_, _, _], _ => rfl)
  have c_l_draw : Fc P w K mg base 1 "_law_draw" ["_law_box", "_law_many"] (sp_l_draw K) := fc_of F2 (ok_l_draw F2 T ) (He.glo_ok X G (c.fact 17 rfl)) (fun _ _ _ _ _ _ us hl => match us, hl with | [_, _], _ => rfl)
  have c_Unit___init__ : Mc P w K mg base 1 "Unit" "__init__" ["self", "number", "position"] (sp_Unit___init__ K) := mc_of F3 (ok_Unit___init__ F3 T ) (He.meth_ok (c.fact 18 rfl)) (fun _ _ _ _ _ _ us hl => match us, hl with | [_, _, _], _ => rfl)
  have c_Unit_told : Mc P w K mg base 1 "Unit" "told" ["self"] (sp_Unit_told K) := mc_of F4 (ok_Unit_told F4 T ) (He.meth_ok (c.fact 19 rfl)) (fun _ _ _ _ _ _ us hl => match us, hl with | [_], _ => rfl)
  have c_Unit_hear : Mc P w K mg base 2 "Unit" "hear" ["self", "letter"] (sp_Unit_hear K) := mc_of F5 (ok_Unit_hear F5 T c_Unit_told) (He.meth_ok (c.fact 20 rfl)) (fun _ _ _ _ _ _ us hl => match us, hl with | [_, _], _ => rfl)
  have c_Unit_fail : Mc P w K mg base 1 "Unit" "fail" ["self"] (sp_Unit_fail K) := mc_of F6 (ok_Unit_fail F6 T ) (He.meth_ok (c.fact 21 rfl)) (fun _ _ _ _ _ _ us hl => match us, hl with | [_], _ => rfl)
  have c_Unit_repair : Mc P w K mg base 1 "Unit" "repair" ["self", "position"] (sp_Unit_repair K) := mc_of F7 (ok_Unit_repair F7 T ) (He.meth_ok (c.fact 22 rfl)) (fun _ _ _ _ _ _ us hl => match us, hl with | [_, _], _ => rfl)
  exact ok_law F8 T c_Unit___init__ c_Unit_fail c_Unit_hear c_Unit_repair c_Unit_told c_l_digits c_l_draw
end Cw
open PySem PySem.W PySem.Calls PyProof.Rows
theorem PySem.Challenge.cw_clearfloor_k27_a_unit_does_each_command_holds : PySem.Challenge.rw_clearfloor_k27_a_unit_does_each_command.Holds := by
  w_on; o_law
  refine HandSHeadRun.head_any (r := OpenLaw.row PySem.Challenge.rw_clearfloor_k27_a_unit_does_each_command) (q := view (OpenLaw.row PySem.Challenge.rw_clearfloor_k27_a_unit_does_each_command).prog [8]) (H := Cw.hk) (ob := Cw.ob) (M := 8000) (loose := Cw.loose) (d := HandSHeadRun.topDef (OpenLaw.row PySem.Challenge.rw_clearfloor_k27_a_unit_does_each_command).prog 8) (kwd := []) Cw.ob_eq
    (by kernel_rfl) (fun s => by kernel_rfl) Cw.run (by kernel_rfl) (by kernel_rfl) (by kernel_rfl) (by rfl) (by first | assumption | decide +kernel) (by decide +kernel) ⟨rfl, rfl, rfl, rfl, rfl, by decide +kernel⟩ ?hw ?hc
  case hw => w_witness2
  case hc =>
    refine L2.walk_ofE (l := PySem.Challenge.rw_clearfloor_k27_a_unit_does_each_command) (n := 63) (k := 3) (x := "_law_script") (CX := L2.CX0) rfl (by decide) (by kernel_rfl) ⟨rfl, by decide, by decide⟩ ?F (fun _ _ _ _ z => z)
    intro w mg fa h Y G hmg0
    obtain ⟨K, KX, c⟩ := Y
    have hmg : mg ("law" : PySem.Str) = some (.ref fa) := by
      have e : (HandSHeadRun.topDef (OpenLaw.row PySem.Challenge.rw_clearfloor_k27_a_unit_does_each_command).prog 8).name = ("law" : PySem.Str) := by kernel_rfl
      rw [← e]
      exact hmg0
    obtain ⟨fd, hb, hF⟩ := Cw.facts (P := (PySem.Challenge.rw_clearfloor_k27_a_unit_does_each_command).prog) (w := w) KX G hmg c
    exact ⟨K, fd, Cw.sp_law K, KX, hb, fun H a ns hl _ hS => ⟨H, (⟨ns⟩, ()), true, Cf.Ex.refl H, ⟨_, _, rfl, ⟨a, rfl, hS⟩, rfl⟩, Cw.law_true ns hl, fun v _ _ _ hv => hv⟩, hF⟩
