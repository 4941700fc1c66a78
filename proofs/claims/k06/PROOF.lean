import PyProof.Rows.All
import Wide.All
import OpenK.AllK
import Wide.FinOn
import HandS.ForMost
import HandS.Exc
import HandS.Defaults
import HandS.HeadHook2
import HandS.HeadEnd
import HandS.Head2
import HandS.RaiseMore
import HandS.Deep
import KE.DataEq
import HandS.IsInst
import HandS.Flow
import HandS.SortInts
import HandS.Text
import HandS.Steps
import PySem.Challenge.RW_clearfloor_k06_nearer_positions
set_option Elab.async false
set_option linter.all false
set_option maxRecDepth 100000
set_option maxHeartbeats 4000000
namespace Cf
open PySem L2

/-! ### heaps: B what is known and stays, H what stands -/
abbrev Fg := PySem.W.Frag
def Ex (B H : Hp) : Prop := ∀ a o, B a = some o → H a = some o
theorem Ex.refl (H : Hp) : Ex H H := fun _ _ h => h
theorem Ex.trans {A B C : Hp} (a : Ex A B) (b : Ex B C) : Ex A C := fun x o h => b x o (a x o h)
theorem Ex.new {H : Hp} {p : Addr} {o : HO} (h : H p = none) : Ex H (upd H p o) := fun a u e => by
  rw [upd_ne (ne_of_none e h)]
  exact e
theorem Ex.mut {B H : Hp} {p : Addr} {o : HO} (e : Ex B H) (h : B p = none) : Ex B (upd H p o) := fun a u q => by
  rw [upd_ne (ne_of_none q h)]
  exact e a u q
theorem Ex.two {B H : Hp} {p : Addr} {o : HO} (e : Ex B H) : Ex (upd B p o) (upd H p o) := fun a u q => by
  by_cases h : a = p
  · subst h
    rw [upd_same] at q
    rw [upd_same]
    exact q
  · rw [upd_ne h] at q
    rw [upd_ne h]
    exact e a u q
theorem Ex.add {B H : Hp} {p : Addr} {o : HO} (e : Ex B H) (h : H p = some o) : Ex (upd B p o) H := fun a u q => by
  by_cases hp : a = p
  · subst hp
    rw [upd_same] at q
    rw [h]
    exact q
  · rw [upd_ne hp] at q
    exact e a u q
theorem Ex.none {B H : Hp} {p : Addr} (e : Ex B H) (h : H p = Option.none) : B p = Option.none := by
  cases q : B p with
  | none => rfl
  | some o =>
    rw [e p o q] at h
    cases h

/-- sets of places -/
abbrev Ms := Addr → Prop
def noM : Ms := fun _ => False
/-- from (B, H) to (B', H'): what stands stays but for the places M; what is known is more; what was known apart stays apart -/
structure Gr (M : Ms) (B H B' H' : Hp) : Prop where
  s : Ex B H
  b : Ex B B'
  h : ∀ a o, ¬ M a → H a = some o → H' a = some o
  e : Ex B' H'
  n : ∀ a, H a ≠ none → B a = none → B' a = none
  k : ∀ a, H a ≠ none → H' a ≠ none
/-- W and B have no place in common -/
def Dj (W B : Hp) : Prop := ∀ a, W a ≠ none → B a = none
def dom (W : Hp) : Ms := fun a => W a ≠ none
def emp : Hp := fun _ => none
def sing (p : Addr) (o : HO) : Hp := upd emp p o
def uni (W B : Hp) : Hp := fun a => match W a with
  | some o => some o
  | none => B a
theorem sing_at {p : Addr} {o : HO} : sing p o p = some o := upd_same
theorem sing_ne {p a : Addr} {o : HO} (h : a ≠ p) : sing p o a = none := upd_ne h
theorem sing_dom {p a : Addr} {o : HO} (h : sing p o a ≠ none) : a = p := by
  by_cases e : a = p
  · exact e
  · exact absurd (sing_ne e) h
theorem uni_l {W B : Hp} {a : Addr} {o : HO} (h : W a = some o) : uni W B a = some o := by
  unfold uni
  rw [h]
theorem uni_r {W B : Hp} {a : Addr} (h : W a = none) : uni W B a = B a := by
  unfold uni
  rw [h]
theorem ex_uni_l {W B : Hp} : Ex W (uni W B) := fun _ _ h => uni_l h
theorem ex_uni_r {W B : Hp} (d : Dj W B) : Ex B (uni W B) := fun a o h => by
  rw [uni_r]
  · exact h
  · cases q : W a with
    | none => rfl
    | some o' =>
      have := d a (by rw [q]; exact fun z => nomatch z)
      rw [h] at this
      cases this
theorem ex_uni {W B H : Hp} (h1 : Ex W H) (h2 : Ex B H) : Ex (uni W B) H := fun a o h => by
  cases q : W a with
  | some o' =>
    rw [uni_l q] at h
    cases h
    exact h1 a _ q
  | none =>
    rw [uni_r q] at h
    exact h2 a o h
theorem nn {H : Hp} {a : Addr} {o : HO} (h : H a = some o) : H a ≠ none := fun q => by
  rw [h] at q
  cases q
theorem nn_ex {H : Hp} {a : Addr} (h : H a ≠ none) : ∃ o, H a = some o := by
  cases q : H a with
  | none => exact absurd q h
  | some o => exact ⟨o, rfl⟩
theorem Ex.nn {B H : Hp} (e : Ex B H) {a : Addr} (h : B a ≠ Option.none) : H a ≠ Option.none := by
  obtain ⟨o, q⟩ := nn_ex h
  exact Cf.nn (e a o q)
theorem Dj.symm {W B : Hp} (d : Dj W B) : Dj B W := fun a h => by
  cases q : W a with
  | none => rfl
  | some o => exact absurd (d a (nn q)) h
theorem Dj.emp {B : Hp} : Dj emp B := fun a h => absurd rfl h
theorem ex_emp {H : Hp} : Ex emp H := fun a o h => nomatch h
section
variable {M M' : Ms} {B H B1 H1 B2 H2 : Hp} {p : Addr} {o : HO}
theorem ne_free (hp : H p = none) {a : Addr} (h : H a ≠ none) : a ≠ p := by
  rintro rfl
  exact h hp
theorem Gr.refl (e : Ex B H) : Gr M B H B H := ⟨e, Ex.refl B, fun _ _ _ h => h, e, fun _ _ h => h, fun _ h => h⟩
theorem Gr.trans (x : Gr M B H B1 H1) (y : Gr M B1 H1 B2 H2) : Gr M B H B2 H2 :=
  ⟨x.s, x.b.trans y.b, fun a o m h => y.h a o m (x.h a o m h), y.e, fun a h n => y.n a (x.k a h) (x.n a h n), fun a h => y.k a (x.k a h)⟩
theorem Gr.mono (x : Gr M B H B1 H1) (s : ∀ a, M a → M' a) : Gr M' B H B1 H1 := ⟨x.s, x.b, fun a o m h => x.h a o (fun q => m (s a q)) h, x.e, x.n, x.k⟩
theorem Gr.up (x : Gr noM B H B1 H1) : Gr M B H B1 H1 := x.mono fun a h => h.elim
theorem Gr.then (x : Gr M B H B1 H1) (y : Gr noM B1 H1 B2 H2) : Gr M B H B2 H2 := x.trans y.up
theorem Gr.exH (x : Gr noM B H B1 H1) : Ex H H1 := fun a o h => x.h a o (fun q => q) h
theorem Gr.fresh (x : Gr M B H B1 H1) {a : Addr} (h : H1 a = none) : H a = none := by
  cases q : H a with
  | none => rfl
  | some o => exact absurd h (x.k a fun z => by rw [q] at z; cases z)
/-- a new object, known from now on -/
theorem Gr.new (e : Ex B H) (hp : H p = none) : Gr M B H (upd B p o) (upd H p o) :=
  ⟨e, Ex.new (e.none hp), fun a u _ h => Ex.new hp a u h, e.two, fun a h n => by rw [upd_ne (ne_free hp h)]; exact n, fun a h z => h (by rw [upd_ne (ne_free hp h)] at z; exact z)⟩
/-- a new object that may change -/
theorem Gr.newM (e : Ex B H) (hp : H p = none) : Gr M B H B (upd H p o) :=
  ⟨e, Ex.refl B, fun a u _ h => Ex.new hp a u h, e.mut (e.none hp), fun a _ n => n, fun a h z => h (by rw [upd_ne (ne_free hp h)] at z; exact z)⟩
/-- an object changes that is M's -/
theorem Gr.mut (e : Ex B H) (hp : M p) (n : B p = none) (hh : H p ≠ none) : Gr M B H B (upd H p o) :=
  ⟨e, Ex.refl B, fun a u m h => by
    have ne : a ≠ p := by
      rintro rfl
      exact m hp
    rw [upd_ne ne]
    exact h, e.mut n, fun _ _ h => h, fun a h z => by
    by_cases ne : a = p
    · subst ne
      rw [upd_same] at z
      cases z
    · rw [upd_ne ne] at z
      exact h z⟩
/-- what could change is known from now on -/
theorem Gr.freeze (x : Gr M B H B1 H1) (hp : H1 p = some o) (f : H p = none) (n : B1 p = none) : Gr M B H (upd B1 p o) H1 :=
  ⟨x.s, x.b.trans (Ex.new n), x.h, x.e.add hp, fun a h q => by
    rw [upd_ne (ne_free f h)]
    exact x.n a h q, x.k⟩
end
/-! ### what is one's own: W, apart from what is known -/
structure Sw (W B H W' B' H' : Hp) : Prop where
  g : Gr (dom W) B H B' H'
  w : Ex W' H'
  d : Dj W' B'
  f : ∀ a, W' a ≠ none → W a ≠ none ∨ H a = none
abbrev Ow (S : Type) := Hp → Hp → S → Prop
def plainO : HO → Bool
  | .tup _ => false
  | .frz _ _ => false
  | _ => true
class OwOk {S : Type} (P : Ow S) : Prop where
  mono : ∀ {W B B' : Hp} {s : S}, Ex B B' → P W B s → P W B' s
  nt : ∀ {W B : Hp} {s : S} {a : Addr} {o : HO}, P W B s → W a = some o → plainO o = true
def oE : Ow Unit := fun W _ _ => W = emp
instance : OwOk oE := ⟨fun _ h => h, fun h e => by rw [show _ = emp from h] at e; cases e⟩
def star {S S' : Type} (P : Ow S) (R : Ow S') : Ow (S × S') := fun W B s => ∃ W1 W2, W = uni W1 W2 ∧ Dj W1 W2 ∧ P W1 B s.1 ∧ R W2 B s.2
instance {S S' : Type} {P : Ow S} {R : Ow S'} [OwOk P] [OwOk R] : OwOk (star P R) :=
  ⟨fun e ⟨W1, W2, h, d, p, r⟩ => ⟨W1, W2, h, d, OwOk.mono e p, OwOk.mono e r⟩, fun ⟨W1, W2, h, d, p, r⟩ e => by
    subst h
    cases q : W1 _ with
    | some o' =>
      rw [uni_l q] at e
      cases e
      exact OwOk.nt p q
    | none =>
      rw [uni_r q] at e
      exact OwOk.nt r e⟩
/-- where one stands: from (Bs, Hs) on, with M to be changed, one's own W in the state s -/
structure Now {S : Type} (M : Ms) (Bs Hs : Hp) (P : Ow S) (W B H : Hp) (s : S) : Prop where
  g : Gr M Bs Hs B H
  w : Ex W H
  d : Dj W B
  p : P W B s
  f : ∀ a, W a ≠ none → M a ∨ Hs a = none
section
variable {S S' : Type} {M : Ms} {Bs Hs W B H W' B' H' W2 B2 H2 : Hp} {P : Ow S} {R : Ow S'} {s s' : S}
theorem Sw.refl (e : Ex B H) (w : Ex W H) (d : Dj W B) : Sw W B H W B H := ⟨Gr.refl e, w, d, fun a h => .inl h⟩
theorem Sw.trans (x : Sw W B H W' B' H') (y : Sw W' B' H' W2 B2 H2) : Sw W B H W2 B2 H2 :=
  ⟨⟨x.g.s, x.g.b.trans y.g.b, (fun a o m h => by
      have h1 := x.g.h a o m h
      refine y.g.h a o (fun q => ?_) h1
      rcases x.f a q with z | z
      · exact m z
      · rw [z] at h
        cases h), y.g.e, fun a h n => y.g.n a (x.g.k a h) (x.g.n a h n), fun a h => y.g.k a (x.g.k a h)⟩, y.w, y.d, fun a h => by
    rcases y.f a h with z | z
    · exact x.f a z
    · exact .inr (x.g.fresh z)⟩
theorem Sw.pure (e : Gr noM B H B' H') (w : Ex W H) (d : Dj W B) : Sw W B H W B' H' := ⟨e.up, w.trans e.exH, fun a h => e.n a (w.nn h) (d a h), fun a h => .inl h⟩
theorem Now.ex (x : Now M Bs Hs P W B H s) : Ex B H := x.g.e
theorem Now.pure [OwOk P] (x : Now M Bs Hs P W B H s) (e : Gr noM B H B' H') : Now M Bs Hs P W B' H' s :=
  ⟨x.g.then e, x.w.trans e.exH, fun a h => e.n a (x.w.nn h) (x.d a h), OwOk.mono e.b x.p, x.f⟩
theorem Now.step (x : Now M Bs Hs P W B H s) (y : Sw W B H W' B' H') {s2 : S'} {P2 : Ow S'} (p : P2 W' B' s2) : Now M Bs Hs P2 W' B' H' s2 :=
  ⟨⟨x.g.s, x.g.b.trans y.g.b, (fun a o m h => by
      have h1 := x.g.h a o m h
      refine y.g.h a o (fun q => ?_) h1
      rcases x.f a q with z | z
      · exact m z
      · rw [z] at h
        cases h), y.g.e, fun a h n => y.g.n a (x.g.k a h) (x.g.n a h n), fun a h => y.g.k a (x.g.k a h)⟩, y.w, y.d, p, fun a h => by
    rcases y.f a h with z | z
    · exact x.f a z
    · exact .inr (x.g.fresh z)⟩
theorem Now.sw {B0 H0 W0 : Hp} (x : Now (dom W0) B0 H0 P W B H s) : Sw W0 B0 H0 W B H := ⟨x.g, x.w, x.d, x.f⟩
theorem now0 (e : Ex B H) (w : Ex W H) (d : Dj W B) (p : P W B s) : Now (dom W) B H P W B H s := ⟨Gr.refl e, w, d, p, fun a h => .inl h⟩
theorem nowE (e : Ex B H) : Now noM B H oE emp B H () := ⟨Gr.refl e, ex_emp, Dj.emp, rfl, fun a h => absurd rfl h⟩
theorem uni_dom {W1 W2 : Hp} {a : Addr} (h : uni W1 W2 a ≠ none) : W1 a ≠ none ∨ W2 a ≠ none := by
  cases q : W1 a with
  | some o => exact .inl (fun z => nomatch z)
  | none =>
    rw [uni_r q] at h
    exact .inr h
theorem uni_dom_l {W1 W2 : Hp} {a : Addr} (h : W1 a ≠ none) : uni W1 W2 a ≠ none := by
  obtain ⟨o, q⟩ := nn_ex h
  exact nn (uni_l q)
theorem uni_dom_r {W1 W2 : Hp} {a : Addr} (d : Dj W1 W2) (h : W2 a ≠ none) : uni W1 W2 a ≠ none := by
  rw [uni_r (d.symm a h)]
  exact h
/-- the frame: a step of W1 beside W2 -/
theorem Sw.beside {W1 W2 W1' : Hp} (y : Sw W1 B H W1' B' H') (w2 : Ex W2 H) (d : Dj W1 W2) (d2 : Dj W2 B) : Sw (uni W1 W2) B H (uni W1' W2) B' H' ∧ Dj W1' W2 := by
  have dj : Dj W1' W2 := fun a h => by
    rcases y.f a h with z | z
    · exact d a z
    · cases q : W2 a with
      | none => rfl
      | some o =>
        rw [w2 a o q] at z
        cases z
  have w2' : Ex W2 H' := fun a o h => y.g.h a o (fun q => q (d.symm a (nn h))) (w2 a o h)
  refine ⟨⟨y.g.mono fun a h => uni_dom_l h, ex_uni y.w w2', fun a h => ?_, fun a h => ?_⟩, dj⟩
  · rcases uni_dom h with z | z
    · exact y.d a z
    · exact y.g.n a (w2.nn z) (d2 a z)
  · rcases uni_dom h with z | z
    · rcases y.f a z with q | q
      · exact .inl (uni_dom_l q)
      · exact .inr q
    · exact .inl (uni_dom_r d z)
end

/-! ### data and the values that stand for it -/
class Rp (α : Type) where
  rp : Fg → Hp → V → α → Prop
  mono : ∀ {K : Fg} {B B' : Hp} {v : V} {x : α}, Ex B B' → rp K B v x → rp K B' v x
open Rp (rp)
theorem rd_mono {B B' : Hp} {a : Addr} {u : HO} (e : Ex B B') (h : Rd B a u) : Rd B' a u := by
  rcases h with h | ⟨o, h⟩
  · exact .inl (e _ _ h)
  · exact .inr ⟨o, e _ _ h⟩
theorem sql_mono {K : Fg} {B B' : Hp} {a : Addr} {xs : List V} (e : Ex B B') (h : SqL K B a xs) : SqL K B' a xs := by
  rcases h with h | h
  · exact .inl (rd_mono e h)
  · exact .inr h
theorem sqt_mono {K : Fg} {B B' : Hp} {a : Addr} {xs : List V} (e : Ex B B') (h : SqT K B a xs) : SqT K B' a xs := by
  rcases h with h | h
  · exact .inl (rd_mono e h)
  · exact .inr h
mutual
theorem dp_mono {K : Fg} {B B' : Hp} (e : Ex B B') : ∀ (d : PyData) (v : V), Dp K B v d → Dp K B' v d
  | .none, v, h => by cases h; exact .non
  | .bool b, v, h => by cases h; exact .bl b
  | .int i, v, h => by cases h; exact .int i
  | .str x, v, h => by cases h; exact .str x
  | .list ds, v, h => by
    cases h with
    | lst h1 h2 => exact .lst (sql_mono e h1) (dpall_mono e ds _ h2)
  | .tuple ds, v, h => by
    cases h with
    | tup h1 h2 => exact .tup (sqt_mono e h1) (dpall_mono e ds _ h2)
  | .dict _, v, h => by cases h
theorem dpall_mono {K : Fg} {B B' : Hp} (e : Ex B B') : ∀ (ds : List PyData) (vs : List V), DpAll K B vs ds → DpAll K B' vs ds
  | [], vs, h => by cases h; exact .nil
  | d :: ds, vs, h => by
    cases h with
    | cons h1 h2 => exact .cons (dp_mono e d _ h1) (dpall_mono e ds _ h2)
end

theorem pr_mono {α : Type} [Rp α] {K : Fg} {B B' : Hp} (e : Ex B B') : ∀ {vs : List V} {xs : List α}, Paired (rp K B) vs xs → Paired (rp K B') vs xs
  | _, _, .nil => .nil
  | _, _, .cons r t => .cons (Rp.mono e r) (pr_mono e t)
theorem pr_get {α β : Type} {R : α → β → Prop} : ∀ {vs : List α} {xs : List β} {i : Nat} {x : β}, Paired R vs xs → xs[i]? = some x → ∃ v, vs[i]? = some v ∧ R v x
  | _, _, _, _, .nil, e => by simp at e
  | _, _, 0, _, .cons r _, e => by simp at e; subst e; exact ⟨_, rfl, r⟩
  | _, _, i + 1, x, .cons _ t, e => by
    obtain ⟨u, h1, h2⟩ := pr_get (i := i) (x := x) t (by simpa using e)
    exact ⟨u, by simpa using h1, h2⟩
theorem pr_getL {α β : Type} {R : α → β → Prop} : ∀ {vs : List α} {xs : List β} {i : Nat} {v : α}, Paired R vs xs → vs[i]? = some v → ∃ x, xs[i]? = some x ∧ R v x
  | _, _, _, _, .nil, e => by simp at e
  | _, _, 0, _, .cons r _, e => by simp at e; subst e; exact ⟨_, rfl, r⟩
  | _, _, i + 1, x, .cons _ t, e => by
    obtain ⟨u, h1, h2⟩ := pr_getL (i := i) t (by simpa using e)
    exact ⟨u, by simpa using h1, h2⟩
theorem pr_app {α β : Type} {R : α → β → Prop} : ∀ {vs us : List α} {xs ys : List β}, Paired R vs xs → Paired R us ys → Paired R (vs ++ us) (xs ++ ys)
  | _, _, _, _, .nil, s => s
  | _, _, _, _, .cons r t, s => .cons r (pr_app t s)
theorem pr_len {α β : Type} {R : α → β → Prop} {vs : List α} {xs : List β} (p : Paired R vs xs) : vs.length = xs.length := Paired.length p
theorem pr_set {α β : Type} {R : α → β → Prop} {v : α} {x : β} (r : R v x) : ∀ {vs : List α} {xs : List β} (i : Nat), Paired R vs xs → Paired R (vs.set i v) (xs.set i x)
  | _, _, _, .nil => .nil
  | _, _, 0, .cons _ t => .cons r t
  | _, _, i + 1, .cons q t => .cons q (pr_set r i t)
theorem pr_take {α β : Type} {R : α → β → Prop} : ∀ {vs : List α} {xs : List β} (n : Nat), Paired R vs xs → Paired R (vs.take n) (xs.take n)
  | _, _, 0, _ => .nil
  | _, _, _ + 1, .nil => .nil
  | _, _, n + 1, .cons r t => .cons r (pr_take n t)
theorem pr_drop {α β : Type} {R : α → β → Prop} : ∀ {vs : List α} {xs : List β} (n : Nat), Paired R vs xs → Paired R (vs.drop n) (xs.drop n)
  | _, _, 0, r => r
  | _, _, _ + 1, .nil => .nil
  | _, _, n + 1, .cons _ t => pr_drop n t
theorem pr_rev {α β : Type} {R : α → β → Prop} : ∀ {vs : List α} {xs : List β}, Paired R vs xs → Paired R vs.reverse xs.reverse
  | _, _, .nil => .nil
  | _, _, .cons r t => by
    rw [List.reverse_cons, List.reverse_cons]
    exact pr_app (pr_rev t) (.cons r .nil)
theorem pr_ints {K : Fg} {B : Hp} : True := trivial
instance : Rp Int := ⟨fun _ _ v x => v = .int x, fun _ h => h⟩
instance : Rp Bool := ⟨fun _ _ v x => v = .bl x, fun _ h => h⟩
instance : Rp Str := ⟨fun _ _ v x => v = .str x, fun _ h => h⟩
instance : Rp Unit := ⟨fun _ _ v _ => v = .non, fun _ h => h⟩
def rpO {α : Type} [Rp α] (K : Fg) (B : Hp) (v : V) : Option α → Prop
  | none => v = .non
  | some y => rp K B v y
instance {α : Type} [Rp α] : Rp (Option α) := ⟨rpO, fun {K B B' v x} e h => by
  cases x with
  | none => exact h
  | some y => exact Rp.mono (α := α) e h⟩
instance {α : Type} [Rp α] : Rp (List α) := ⟨fun K B v xs => ∃ a vs, v = .ref a ∧ B a = some (.lst vs) ∧ Paired (rp K B) vs xs, fun e ⟨a, vs, h, s, p⟩ => ⟨a, vs, h, e _ _ s, pr_mono e p⟩⟩
/-- the script -/
structure Scr where
  l : List Int
instance : Rp Scr := ⟨fun K B v x => ∃ a, v = .ref a ∧ SqL K B a (x.l.map V.int), fun e ⟨a, h, s⟩ => ⟨a, h, sql_mono e s⟩⟩
theorem sq_lst {K : Fg} {H : Hp} {a : Addr} {vs : List V} (h : H a = some (.lst vs)) : SqL K H a vs := .inl (.inl h)
instance {α β : Type} [Rp α] [Rp β] : Rp (α × β) := ⟨fun K B v x => ∃ a u w, v = .ref a ∧ SqT K B a [u, w] ∧ rp K B u x.1 ∧ rp K B w x.2, fun e ⟨a, u, w, h, s, p, q⟩ => ⟨a, u, w, h, sqt_mono e s, Rp.mono e p, Rp.mono e q⟩⟩
/-! longer tuples -/
structure T3 (α β γ : Type) where
  a : α
  b : β
  c : γ
  deriving DecidableEq
structure T4 (α β γ δ : Type) where
  a : α
  b : β
  c : γ
  d : δ
  deriving DecidableEq
structure T5 (α β γ δ ε : Type) where
  a : α
  b : β
  c : γ
  d : δ
  e : ε
  deriving DecidableEq
instance {α β γ : Type} [Rp α] [Rp β] [Rp γ] : Rp (T3 α β γ) := ⟨fun K B v x => ∃ a u1 u2 u3, v = .ref a ∧ SqT K B a [u1, u2, u3] ∧ rp K B u1 x.a ∧ rp K B u2 x.b ∧ rp K B u3 x.c, fun e ⟨a, u1, u2, u3, h, s, p1, p2, p3⟩ => ⟨a, u1, u2, u3, h, sqt_mono e s, Rp.mono e p1, Rp.mono e p2, Rp.mono e p3⟩⟩
instance {α β γ δ : Type} [Rp α] [Rp β] [Rp γ] [Rp δ] : Rp (T4 α β γ δ) := ⟨fun K B v x => ∃ a u1 u2 u3 u4, v = .ref a ∧ SqT K B a [u1, u2, u3, u4] ∧ rp K B u1 x.a ∧ rp K B u2 x.b ∧ rp K B u3 x.c ∧ rp K B u4 x.d,
  fun e ⟨a, u1, u2, u3, u4, h, s, p1, p2, p3, p4⟩ => ⟨a, u1, u2, u3, u4, h, sqt_mono e s, Rp.mono e p1, Rp.mono e p2, Rp.mono e p3, Rp.mono e p4⟩⟩
instance {α β γ δ ε : Type} [Rp α] [Rp β] [Rp γ] [Rp δ] [Rp ε] : Rp (T5 α β γ δ ε) := ⟨fun K B v x => ∃ a u1 u2 u3 u4 u5, v = .ref a ∧ SqT K B a [u1, u2, u3, u4, u5] ∧ rp K B u1 x.a ∧ rp K B u2 x.b ∧ rp K B u3 x.c ∧ rp K B u4 x.d ∧ rp K B u5 x.e,
  fun e ⟨a, u1, u2, u3, u4, u5, h, s, p1, p2, p3, p4, p5⟩ => ⟨a, u1, u2, u3, u4, u5, h, sqt_mono e s, Rp.mono e p1, Rp.mono e p2, Rp.mono e p3, Rp.mono e p4, Rp.mono e p5⟩⟩
/-! arguments -/
class RpL (τ : Type) where
  rpl : Fg → Hp → List V → τ → Prop
  mono : ∀ {K : Fg} {B B' : Hp} {vs : List V} {x : τ}, Ex B B' → rpl K B vs x → rpl K B' vs x
open RpL (rpl)
instance : RpL Unit := ⟨fun _ _ vs _ => vs = [], fun _ h => h⟩
instance {α τ : Type} [Rp α] [RpL τ] : RpL (α × τ) := ⟨fun K B vs x => ∃ v us, vs = v :: us ∧ rp K B v x.1 ∧ rpl K B us x.2, fun e ⟨v, us, h, p, q⟩ => ⟨v, us, h, Rp.mono e p, RpL.mono e q⟩⟩

/-! ### data that == reads -/
class Enc (α : Type) extends Rp α where
  enc : α → PyData
  to : ∀ {K : Fg} {B : Hp} {v : V} {x : α}, rp K B v x → Dp K B v (enc x)
open Enc (enc)
theorem dpall_of {α : Type} [Enc α] {K : Fg} {B : Hp} : ∀ {vs : List V} {xs : List α}, Paired (rp K B) vs xs → DpAll K B vs (xs.map enc)
  | _, _, .nil => .nil
  | _, _, .cons r t => .cons (Enc.to r) (dpall_of t)
instance : Enc Int := ⟨PyData.int, fun h => by cases h; exact .int _⟩
instance : Enc Bool := ⟨PyData.bool, fun h => by cases h; exact .bl _⟩
instance : Enc Str := ⟨PyData.str, fun h => by cases h; exact .str _⟩
instance : Enc Unit := ⟨fun _ => PyData.none, fun h => by cases h; exact .non⟩
def encO {α : Type} [Enc α] : Option α → PyData
  | none => PyData.none
  | some y => enc y
instance {α : Type} [Enc α] : Enc (Option α) := ⟨encO, fun {K B v x} h => by
  cases x with
  | none => cases (show v = .non from h); exact .non
  | some y => exact Enc.to (α := α) h⟩
instance {α : Type} [Enc α] : Enc (List α) where
  enc := fun xs => PyData.list (xs.map enc)
  to := fun h => by
    obtain ⟨a, vs, rfl, s, p⟩ := h
    exact .lst (.inl (.inl s)) (dpall_of p)
instance {α β : Type} [Enc α] [Enc β] : Enc (α × β) where
  enc := fun x => PyData.tuple [enc x.1, enc x.2]
  to := fun h => by
    obtain ⟨a, u, w, rfl, s, p, q⟩ := h
    exact .tup s (.cons (Enc.to p) (.cons (Enc.to q) .nil))
instance {α β γ : Type} [Enc α] [Enc β] [Enc γ] : Enc (T3 α β γ) where
  enc := fun x => PyData.tuple [enc x.a, enc x.b, enc x.c]
  to := fun h => by
    obtain ⟨a, u1, u2, u3, rfl, s, p1, p2, p3⟩ := h
    exact .tup s (.cons (Enc.to p1) (.cons (Enc.to p2) (.cons (Enc.to p3) .nil)))
instance {α β γ δ : Type} [Enc α] [Enc β] [Enc γ] [Enc δ] : Enc (T4 α β γ δ) where
  enc := fun x => PyData.tuple [enc x.a, enc x.b, enc x.c, enc x.d]
  to := fun h => by
    obtain ⟨a, u1, u2, u3, u4, rfl, s, p1, p2, p3, p4⟩ := h
    exact .tup s (.cons (Enc.to p1) (.cons (Enc.to p2) (.cons (Enc.to p3) (.cons (Enc.to p4) .nil))))
instance {α β γ δ ε : Type} [Enc α] [Enc β] [Enc γ] [Enc δ] [Enc ε] : Enc (T5 α β γ δ ε) where
  enc := fun x => PyData.tuple [enc x.a, enc x.b, enc x.c, enc x.d, enc x.e]
  to := fun h => by
    obtain ⟨a, u1, u2, u3, u4, u5, rfl, s, p1, p2, p3, p4, p5⟩ := h
    exact .tup s (.cons (Enc.to p1) (.cons (Enc.to p2) (.cons (Enc.to p3) (.cons (Enc.to p4) (.cons (Enc.to p5) .nil)))))
end Cf

set_option Elab.async false
set_option linter.all false
set_option maxRecDepth 100000
set_option maxHeartbeats 4000000
namespace Cf
open PySem L2
open Rp (rp)
open RpL (rpl)
open Enc (enc)

/-! ### what an expression, a test, arguments reckon -/
abbrev o2 {α β γ : Type} (m1 : Option α) (m2 : Option β) (f : α → β → Option γ) : Option γ := m1.bind fun x => m2.bind fun y => f x y
def Cp {α : Type} [Rp α] (K : Fg) (te : TE) (σ : L2.St) (B : Hp) (m : Option α) : Prop :=
  ∀ B1 H1, Ex B B1 → Ex B1 H1 → ∀ x, m = some x → ∀ Q : VK, (∀ v B2 H2, Gr noM B1 H1 B2 H2 → rp K B2 v x → Q v H2) → te σ H1 Q
def Ct (tt : TT) (σ : L2.St) (B : Hp) (m : Option Bool) : Prop :=
  ∀ B1 H1, Ex B B1 → Ex B1 H1 → ∀ x, m = some x → ∀ Q : Bool → Hp → Prop, (∀ B2 H2, Gr noM B1 H1 B2 H2 → Q x H2) → tt σ H1 Q
def Ca {τ : Type} [RpL τ] (K : Fg) (ta : TA) (σ : L2.St) (B : Hp) (m : Option τ) : Prop :=
  ∀ B1 H1, Ex B B1 → Ex B1 H1 → ∀ x, m = some x → ∀ Q : List V → Hp → Prop, (∀ vs B2 H2, Gr noM B1 H1 B2 H2 → rpl K B2 vs x → Q vs H2) → ta σ H1 Q
/-- a new list, nobody else's yet -/
def Co {α : Type} [Rp α] (K : Fg) (te : TE) (σ : L2.St) (B : Hp) (m : Option (List α)) : Prop :=
  ∀ B1 H1, Ex B B1 → Ex B1 H1 → ∀ xs, m = some xs → ∀ Q : VK, (∀ p vs B2 H2, Gr noM B1 H1 B2 H2 → H1 p = none → B2 p = none → H2 p = some (.lst vs) → Paired (rp K B2) vs xs → Q (.ref p) H2) → te σ H1 Q
/-- operators on values -/
def R2p {α β γ : Type} [Rp α] [Rp β] [Rp γ] (K : Fg) (r : R2) (f : α → β → Option γ) : Prop :=
  ∀ B H x y z vx vy, Ex B H → rp K B vx x → rp K B vy y → f x y = some z → ∀ Q : VK, (∀ v B2 H2, Gr noM B H B2 H2 → rp K B2 v z → Q v H2) → r vx vy H Q
def R1p {α γ : Type} [Rp α] [Rp γ] (K : Fg) (r : V → Hp → VK → Prop) (f : α → Option γ) : Prop :=
  ∀ B H x z vx, Ex B H → rp K B vx x → f x = some z → ∀ Q : VK, (∀ v B2 H2, Gr noM B H B2 H2 → rp K B2 v z → Q v H2) → r vx H Q
def Rcp {τ γ : Type} [RpL τ] [Rp γ] (K : Fg) (r : List V → Hp → VK → Prop) (f : τ → Option γ) : Prop :=
  ∀ B H t z vs, Ex B H → rpl K B vs t → f t = some z → ∀ Q : VK, (∀ v B2 H2, Gr noM B H B2 H2 → rp K B2 v z → Q v H2) → r vs H Q
section
variable {K : Fg} {σ : L2.St} {B H B' H' : Hp} {te ta tb tc : TE} {tt tu : TT} {tas : TA} {α β γ τ ρ : Type}
theorem o2_some {m1 : Option α} {m2 : Option β} {f : α → β → Option γ} {z : γ} (h : o2 m1 m2 f = some z) : ∃ x y, m1 = some x ∧ m2 = some y ∧ f x y = some z := by
  cases m1 with
  | none => cases h
  | some x => cases m2 with
    | none => cases h
    | some y => exact ⟨x, y, rfl, rfl, h⟩
theorem bd_some {m : Option α} {f : α → Option γ} {z : γ} (h : m.bind f = some z) : ∃ x, m = some x ∧ f x = some z := by
  cases m with
  | none => cases h
  | some x => exact ⟨x, rfl, h⟩
theorem Cp.mono [Rp α] {m : Option α} (h : Cp K te σ B m) (g : Ex B B') : Cp K te σ B' m := fun B1 H1 g1 => h B1 H1 (g.trans g1)
theorem Ct.mono {m : Option Bool} (h : Ct tt σ B m) (g : Ex B B') : Ct tt σ B' m := fun B1 H1 g1 => h B1 H1 (g.trans g1)
theorem Ca.mono [RpL τ] {m : Option τ} (h : Ca K tas σ B m) (g : Ex B B') : Ca K tas σ B' m := fun B1 H1 g1 => h B1 H1 (g.trans g1)
theorem Cp.to [Rp α] {m m' : Option α} (h : Cp K te σ B m) (e : m = m') : Cp K te σ B m' := e ▸ h
theorem Ct.to {m m' : Option Bool} (h : Ct tt σ B m) (e : m = m') : Ct tt σ B m' := e ▸ h
theorem Co.cp [Rp α] {m : Option (List α)} (h : Co K te σ B m) : Cp K te σ B m := fun B1 H1 b eh xs e Q q => h B1 H1 b eh xs e Q fun p vs B2 H2 g2 f n hp pr =>
  q (.ref p) (upd B2 p (.lst vs)) H2 (g2.freeze hp f n) ⟨p, vs, rfl, upd_same, pr_mono (Ex.new n) pr⟩
theorem cp_var [Rp α] {i : Nat} {v : V} {x : α} (hs : σ[i]? = some (some v)) (h : rp K B v x) : Cp K (tVar i) σ B (some x) := fun B1 H1 b eh y e Q q => by
  cases e
  exact ⟨v, hs, q v B1 H1 (Gr.refl eh) (Rp.mono b h)⟩
theorem cp_c [Rp α] {v : V} {x : α} (h : rp K B v x) : Cp K (tC v) σ B (some x) := fun B1 H1 b eh y e Q q => by
  cases e
  exact q v B1 H1 (Gr.refl eh) (Rp.mono b h)
theorem cp_int {i : Int} : Cp K (tC (.int i)) σ B (some i) := cp_c rfl
theorem cp_bl {i : Bool} : Cp K (tC (.bl i)) σ B (some i) := cp_c rfl
theorem cp_str {i : Str} : Cp K (tC (.str i)) σ B (some i) := cp_c rfl
theorem cp_non : Cp K (tC .non) σ B (some ()) := cp_c rfl
/-- None where something may be -/
theorem cp_nonO [Rp α] : Cp K (tC .non) σ B (some (none : Option α)) := cp_c rfl
theorem Cp.opt [Rp α] {m : Option α} (h : Cp K te σ B m) : Cp K te σ B (m.bind fun x => some (some x)) := fun B1 H1 b eh y e Q q => by
  obtain ⟨x, e1, e2⟩ := bd_some e
  cases e2
  exact h B1 H1 b eh x e1 Q q
/-- what is not None -/
theorem Cp.got [Rp α] {m : Option (Option α)} (h : Cp K te σ B m) : Cp K te σ B (m.bind fun x => x) := fun B1 H1 b eh y e Q q => by
  obtain ⟨x, e1, e2⟩ := bd_some e
  subst e2
  exact h B1 H1 b eh _ e1 Q q
theorem cp_op [Rp α] [Rp β] [Rp γ] {r : R2} {f : α → β → Option γ} {m1 : Option α} {m2 : Option β} (hr : R2p K r f) (ha : Cp K ta σ B m1) (hb : Cp K tb σ B m2) : Cp K (tOp r ta tb) σ B (o2 m1 m2 f) := fun B1 H1 b eh z e Q q => by
  obtain ⟨x, y, e1, e2, e3⟩ := o2_some e
  refine ha B1 H1 b eh x e1 _ fun v B2 H2 g2 hv => ?_
  refine hb B2 H2 (b.trans g2.b) g2.e y e2 _ fun u B3 H3 g3 hu => ?_
  exact hr B3 H3 x y z v u g3.e (Rp.mono g3.b hv) hu e3 Q fun w B4 H4 g4 hw => q w B4 H4 ((g2.trans g3).trans g4) hw
theorem cp_un [Rp α] [Rp γ] {r : V → Hp → VK → Prop} {f : α → Option γ} {m : Option α} (hr : R1p K r f) (ha : Cp K ta σ B m) : Cp K (tUn r ta) σ B (m.bind f) := fun B1 H1 b eh z e Q q => by
  obtain ⟨x, e1, e2⟩ := bd_some e
  refine ha B1 H1 b eh x e1 _ fun v B2 H2 g2 hv => ?_
  exact hr B2 H2 x z v g2.e hv e2 Q fun w B3 H3 g3 hw => q w B3 H3 (g2.trans g3) hw
theorem cp_cb [RpL τ] [Rp γ] {r : List V → Hp → VK → Prop} {f : τ → Option γ} {m : Option τ} (hr : Rcp K r f) (ha : Ca K tas σ B m) : Cp K (tCB r tas) σ B (m.bind f) := fun B1 H1 b eh z e Q q => by
  obtain ⟨x, e1, e2⟩ := bd_some e
  refine ha B1 H1 b eh x e1 _ fun vs B2 H2 g2 hv => ?_
  exact hr B2 H2 x z vs g2.e hv e2 Q fun w B3 H3 g3 hw => q w B3 H3 (g2.trans g3) hw
theorem ca_nil : Ca K tNil σ B (some ()) := fun B1 H1 b eh x e Q q => q [] B1 H1 (Gr.refl eh) rfl
theorem ca_cons [Rp α] [RpL τ] {m1 : Option α} {m2 : Option τ} (ha : Cp K ta σ B m1) (hb : Ca K tas σ B m2) : Ca K (tCons ta tas) σ B (o2 m1 m2 fun x y => some (x, y)) := fun B1 H1 b eh z e Q q => by
  obtain ⟨x, y, e1, e2, e3⟩ := o2_some e
  cases e3
  refine ha B1 H1 b eh x e1 _ fun v B2 H2 g2 hv => ?_
  refine hb B2 H2 (b.trans g2.b) g2.e y e2 _ fun vs B3 H3 g3 hu => ?_
  exact q (v :: vs) B3 H3 (g2.trans g3) ⟨v, vs, rfl, Rp.mono g3.b hv, hu⟩
/-- the promise of a def that changes nothing: f of its arguments -/
def spP {τ γ : Type} [RpL τ] [Rp γ] (K : Fg) (f : τ → Option γ) : Sp := fun vs H Q _ => ∃ B t r, Ex B H ∧ rpl K B vs t ∧ f t = some r ∧ ∀ v B' H', Gr noM B H B' H' → rp K B' v r → Q v H'
/-- .. that hands back a new list -/
def spO {τ γ : Type} [RpL τ] [Rp γ] (K : Fg) (f : τ → Option (List γ)) : Sp := fun vs H Q _ => ∃ B t r, Ex B H ∧ rpl K B vs t ∧ f t = some r ∧ ∀ p us B' H', Gr noM B H B' H' → H p = none → B' p = none → H' p = some (.lst us) → Paired (rp K B') us r → Q (.ref p) H'
theorem cp_call [RpL τ] [Rp γ] {f : τ → Option γ} {m : Option τ} {E : XK} (ha : Ca K tas σ B m) : Cp K (tCall (spP K f) [] E tas) σ B (m.bind f) := fun B1 H1 b eh z e Q q => by
  obtain ⟨x, e1, e2⟩ := bd_some e
  refine ha B1 H1 b eh x e1 _ fun vs B2 H2 g2 hv => ?_
  rw [List.append_nil]
  exact ⟨B2, x, z, g2.e, hv, e2, fun v B3 H3 g3 h3 => q v B3 H3 (g2.trans g3) h3⟩
theorem co_call [RpL τ] [Rp γ] {f : τ → Option (List γ)} {m : Option τ} {E : XK} (ha : Ca K tas σ B m) : Co K (tCall (spO K f) [] E tas) σ B (m.bind f) := fun B1 H1 b eh z e Q q => by
  obtain ⟨x, e1, e2⟩ := bd_some e
  refine ha B1 H1 b eh x e1 _ fun vs B2 H2 g2 hv => ?_
  rw [List.append_nil]
  exact ⟨B2, x, z, g2.e, hv, e2, fun p us B3 H3 g3 f n hp pr => q p us B3 H3 (g2.trans g3) (g2.fresh f) n hp pr⟩
/-! ### tests -/
theorem ct_test {m : Option Bool} (h : Cp K te σ B m) : Ct (tTest te) σ B m := fun B1 H1 b eh x e Q q => h B1 H1 b eh x e _ fun v B2 H2 g2 hv => ⟨x, hv, q B2 H2 g2⟩
theorem ct_B {m : Option Bool} (h : Cp K te σ B m) : Ct (tB te) σ B m := fun B1 H1 b eh x e Q q => h B1 H1 b eh x e _ fun v B2 H2 g2 hv => ⟨x, hv, q B2 H2 g2⟩
theorem ct_and {m1 m2 : Option Bool} (h1 : Ct tt σ B m1) (h2 : Ct tu σ B m2) : Ct (tAnd tt tu) σ B (m1.bind fun a => if a = true then m2 else some false) := fun B1 H1 b eh z e Q q => by
  obtain ⟨a, e1, e2⟩ := bd_some e
  refine h1 B1 H1 b eh a e1 _ fun B2 H2 g2 => ?_
  cases a with
  | true => exact h2 B2 H2 (b.trans g2.b) g2.e z e2 Q fun B3 H3 g3 => q B3 H3 (g2.trans g3)
  | false =>
    cases e2
    exact q B2 H2 g2
theorem ct_or {m1 m2 : Option Bool} (h1 : Ct tt σ B m1) (h2 : Ct tu σ B m2) : Ct (tOr tt tu) σ B (m1.bind fun a => if a = true then some true else m2) := fun B1 H1 b eh z e Q q => by
  obtain ⟨a, e1, e2⟩ := bd_some e
  refine h1 B1 H1 b eh a e1 _ fun B2 H2 g2 => ?_
  cases a with
  | false => exact h2 B2 H2 (b.trans g2.b) g2.e z e2 Q fun B3 H3 g3 => q B3 H3 (g2.trans g3)
  | true =>
    cases e2
    exact q B2 H2 g2
theorem ct_not {m : Option Bool} (h : Ct tt σ B m) : Ct (tNot tt) σ B (m.bind fun a => some (!a)) := fun B1 H1 b eh z e Q q => by
  obtain ⟨a, e1, e2⟩ := bd_some e
  cases e2
  exact h B1 H1 b eh a e1 _ fun B2 H2 g2 => q B2 H2 g2
theorem cp_andV {m1 m2 : Option Bool} (h1 : Cp K ta σ B m1) (h2 : Cp K tb σ B m2) : Cp K (tAndV ta tb) σ B (m1.bind fun a => if a = true then m2 else some false) := fun B1 H1 b eh z e Q q => by
  obtain ⟨a, e1, e2⟩ := bd_some e
  refine h1 B1 H1 b eh a e1 _ fun v B2 H2 g2 hv => ⟨a, hv, ?_⟩
  cases a with
  | true => exact h2 B2 H2 (b.trans g2.b) g2.e z e2 Q fun v B3 H3 g3 h3 => q v B3 H3 (g2.trans g3) h3
  | false =>
    cases e2
    exact q _ B2 H2 g2 rfl
theorem cp_orV {m1 m2 : Option Bool} (h1 : Cp K ta σ B m1) (h2 : Cp K tb σ B m2) : Cp K (tOrV ta tb) σ B (m1.bind fun a => if a = true then some true else m2) := fun B1 H1 b eh z e Q q => by
  obtain ⟨a, e1, e2⟩ := bd_some e
  refine h1 B1 H1 b eh a e1 _ fun v B2 H2 g2 hv => ⟨a, hv, ?_⟩
  cases a with
  | false => exact h2 B2 H2 (b.trans g2.b) g2.e z e2 Q fun v B3 H3 g3 h3 => q v B3 H3 (g2.trans g3) h3
  | true =>
    cases e2
    exact q _ B2 H2 g2 rfl
theorem cp_notV {m : Option Bool} (h : Cp K ta σ B m) : Cp K (tNotV ta) σ B (m.bind fun a => some (!a)) := fun B1 H1 b eh z e Q q => by
  obtain ⟨a, e1, e2⟩ := bd_some e
  cases e2
  exact h B1 H1 b eh a e1 _ fun v B2 H2 g2 hv => ⟨a, hv, q _ B2 H2 g2 rfl⟩
theorem cp_chain [Rp α] [Rp β] [Rp γ] {r r' : R2} {f : α → β → Option Bool} {f' : β → γ → Option Bool} {m1 : Option α} {m2 : Option β} {m3 : Option γ} (hr : R2p K r f) (hr' : R2p K r' f')
    (ha : Cp K ta σ B m1) (hb : Cp K tb σ B m2) (hc : Cp K tc σ B m3) : Cp K (tChain r r' ta tb tc) σ B (o2 m1 m2 fun x y => (f x y).bind fun k => if k = true then m3.bind fun z => f' y z else some false) := fun B1 H1 b eh z e Q q => by
  obtain ⟨x, y, e1, e2, e3⟩ := o2_some e
  obtain ⟨k, e4, e5⟩ := bd_some e3
  refine ha B1 H1 b eh x e1 _ fun v B2 H2 g2 hv => ?_
  refine hb B2 H2 (b.trans g2.b) g2.e y e2 _ fun u B3 H3 g3 hu => ?_
  refine hr B3 H3 x y k v u g3.e (Rp.mono g3.b hv) hu e4 _ fun w B4 H4 g4 hw => ⟨k, hw, ?_⟩
  cases k with
  | true =>
    obtain ⟨c, e6, e7⟩ := bd_some e5
    refine hc B4 H4 (b.trans ((g2.trans g3).trans g4).b) g4.e c e6 _ fun t B5 H5 g5 ht => ?_
    exact hr' B5 H5 y c z u t g5.e (Rp.mono (g4.trans g5).b hu) ht e7 Q fun t2 B6 H6 g6 h6 => q t2 B6 H6 ((((g2.trans g3).trans g4).trans g5).trans g6) h6
  | false =>
    cases e5
    exact q _ B4 H4 ((g2.trans g3).trans g4) rfl
end

/-! ### operators -/
def pdiv (i j : Int) : Option Int := if 0 < j ∧ j < 1073741824 then some (i / j) else none
def pmod (i j : Int) : Option Int := if 0 < j then some (i % j) else none
def pmul (i j : Int) : Option Int := if (-(2 ^ 64) < i ∧ i < 2 ^ 64) ∨ (-(2 ^ 64) < j ∧ j < 2 ^ 64) then some (i * j) else none
def ppow (i j : Int) : Option Int := if 0 ≤ j ∧ j ≤ 1000000 ∧ i.natAbs < 2 ^ 64 then some (i ^ j.toNat) else none
def pshr (i j : Int) : Option Int := if 0 ≤ j then some (i / 2 ^ j.toNat) else none
section
variable {K : Fg}
theorem r2_I0 {γ : Type} [Rp γ] {g : Int → Int → V} {f : Int → Int → γ} (h : ∀ i j K B, rp K B (g i j) (f i j)) : R2p K (rI0 g) (fun i j => some (f i j)) := fun B H x y z vx vy e hx hy ez Q q => by
  cases ez
  exact ⟨x, y, hx, hy, q _ B H (Gr.refl e) (h x y K B)⟩
theorem r2_I {C : Int → Int → Prop} {g : Int → Int → V} {f : Int → Int → Option Int} (h : ∀ i j z, f i j = some z → C i j ∧ g i j = .int z) : R2p K (rI C g) f := fun B H x y z vx vy e hx hy ez Q q => by
  obtain ⟨c, ge⟩ := h x y z ez
  exact ⟨x, y, hx, hy, c, q _ B H (Gr.refl e) ge⟩
theorem if_some {α : Type} {c : Prop} [Decidable c] {x z : α} (h : (if c then some x else none) = some z) : c ∧ x = z := by
  by_cases hc : c
  · rw [if_pos hc] at h
    exact ⟨hc, Option.some.inj h⟩
  · rw [if_neg hc] at h
    cases h
theorem r2_add : R2p K (rI0 fun i j => .int (i + j)) (fun i j : Int => some (i + j)) := r2_I0 fun _ _ _ _ => rfl
theorem r2_sub : R2p K (rI0 fun i j => .int (i - j)) (fun i j : Int => some (i - j)) := r2_I0 fun _ _ _ _ => rfl
theorem r2_mul : R2p K (rI CMul fun i j => .int (i * j)) pmul := r2_I fun i j z h => by
  obtain ⟨c, e⟩ := if_some h
  exact ⟨c, by rw [e]⟩
theorem r2_div : R2p K (rI CDiv fun i j => .int (i / j)) pdiv := r2_I fun i j z h => by
  obtain ⟨c, e⟩ := if_some h
  exact ⟨c, by rw [e]⟩
theorem r2_mod : R2p K (rI (fun _ j => 0 < j) fun i j => .int (i % j)) pmod := r2_I fun i j z h => by
  obtain ⟨c, e⟩ := if_some h
  exact ⟨c, by rw [e]⟩
theorem r2_pow : R2p K (rI CPow fun i j => .int (i ^ j.toNat)) ppow := r2_I fun i j z h => by
  obtain ⟨c, e⟩ := if_some h
  exact ⟨c, by rw [e]⟩
theorem r2_shr : R2p K (rI (fun _ j => 0 ≤ j) fun i j => .int (i / 2 ^ j.toNat)) pshr := r2_I fun i j z h => by
  obtain ⟨c, e⟩ := if_some h
  exact ⟨c, by rw [e]⟩
theorem r2_xor : R2p K (rI0 fun i j => .int (Builtin.bitXor i j)) (fun i j : Int => some (Builtin.bitXor i j)) := r2_I0 fun _ _ _ _ => rfl
theorem r2_lt : R2p K (rI0 fun i j => .bl (decide (i < j))) (fun i j : Int => some (decide (i < j))) := r2_I0 fun _ _ _ _ => rfl
theorem r2_le : R2p K (rI0 fun i j => .bl (decide (i ≤ j))) (fun i j : Int => some (decide (i ≤ j))) := r2_I0 fun _ _ _ _ => rfl
theorem r2_gt : R2p K (rI0 fun i j => .bl (decide (j < i))) (fun i j : Int => some (decide (j < i))) := r2_I0 fun _ _ _ _ => rfl
theorem r2_ge : R2p K (rI0 fun i j => .bl (decide (j ≤ i))) (fun i j : Int => some (decide (j ≤ i))) := r2_I0 fun _ _ _ _ => rfl
theorem r1_neg : R1p K (rU fun i => .int (-i)) (fun i : Int => some (-i)) := fun B H x z vx e hx ez Q q => by
  cases ez
  exact ⟨x, hx, q _ B H (Gr.refl e) rfl⟩
/-- == of scalars of one kind -/
class Sc (α : Type) extends Rp α where
  dec : DecidableEq α
  ok : ∀ {K : Fg} {B : Hp} {u v : V} {x y : α}, rp K B u x → rp K B v y → scal u v = true ∧ (u = v ↔ x = y)
instance : Sc Int := { dec := inferInstance, ok := fun h1 h2 => by cases h1; cases h2; exact ⟨rfl, by simp⟩ }
instance : Sc Bool := { dec := inferInstance, ok := fun h1 h2 => by cases h1; cases h2; exact ⟨rfl, by simp⟩ }
instance : Sc Str := { dec := inferInstance, ok := fun h1 h2 => by cases h1; cases h2; exact ⟨rfl, by simp⟩ }
/-- a scalar that is not None -/
class Sn (α : Type) extends Sc α where
  nn : ∀ {K : Fg} {B : Hp} {u : V} {x : α}, rp K B u x → u ≠ .non ∧ scal u .non = true ∧ scal .non u = true
instance : Sn Int where
  nn := fun h => by cases h; exact ⟨(fun e => nomatch e), rfl, rfl⟩
instance : Sn Bool where
  nn := fun h => by cases h; exact ⟨(fun e => nomatch e), rfl, rfl⟩
instance : Sn Str where
  nn := fun h => by cases h; exact ⟨(fun e => nomatch e), rfl, rfl⟩
instance {α : Type} [Sn α] : Sc (Option α) where
  dec := by
    have : DecidableEq α := Sc.dec
    infer_instance
  ok := fun {K B u v x y} h1 h2 => by
    cases x with
    | none =>
      cases (show u = .non from h1)
      cases y with
      | none => cases (show v = .non from h2); exact ⟨rfl, by simp⟩
      | some j =>
        obtain ⟨n1, n2, n3⟩ := Sn.nn (α := α) (show rp K B v j from h2)
        exact ⟨n3, ⟨fun e => absurd e.symm n1, fun e => nomatch e⟩⟩
    | some i =>
      cases y with
      | none =>
        cases (show v = .non from h2)
        obtain ⟨n1, n2, n3⟩ := Sn.nn (α := α) (show rp K B u i from h1)
        exact ⟨n2, ⟨fun e => absurd e n1, fun e => nomatch e⟩⟩
      | some j =>
        obtain ⟨s, e⟩ := Sc.ok (α := α) (show rp K B u i from h1) (show rp K B v j from h2)
        exact ⟨s, e.trans ⟨fun z => congrArg some z, fun z => Option.some.inj z⟩⟩
instance (priority := low) {α : Type} [Sc α] : DecidableEq α := Sc.dec
theorem r2_eq {α : Type} [i : Sc α] [d : DecidableEq α] : R2p K rEq (fun x y : α => some (decide (x = y))) := fun B H x y z vx vy e hx hy ez Q q => by
  cases ez
  obtain ⟨s, h⟩ := i.ok hx hy
  refine ⟨s, q _ B H (Gr.refl e) ?_⟩
  show V.bl _ = V.bl _
  rw [decide_eq_decide.mpr h]
theorem r2_ne {α : Type} [i : Sc α] [d : DecidableEq α] : R2p K rNe (fun x y : α => some (!decide (x = y))) := fun B H x y z vx vy e hx hy ez Q q => by
  cases ez
  obtain ⟨s, h⟩ := i.ok hx hy
  refine ⟨s, q _ B H (Gr.refl e) ?_⟩
  show V.bl _ = V.bl _
  rw [decide_eq_decide.mpr h]
/-! ### built-in calls -/
def RInt : List V → Hp → VK → Prop := fun xs H Q => (∃ i, xs = [.int i] ∧ Q (.int i) H) ∨ ∃ k, xs = [.bl k] ∧ Q (.int (if k then 1 else 0)) H
theorem call_int_ {X : Cx} : CallR X (.type "int") RInt := call_int1
theorem rc_int : Rcp K RInt (fun t : Int × Unit => some t.1) := fun B H t z vs e h ez Q q => by
  cases ez
  obtain ⟨v, us, rfl, h1, h2⟩ := h
  cases (show us = [] from h2)
  cases (show v = .int _ from h1)
  exact .inl ⟨_, rfl, q _ B H (Gr.refl e) rfl⟩
/-! ### indexes -/
/-- the item at a place counted from either end -/
def at? {α : Type} (xs : List α) (i : Int) : Option α := if 0 ≤ i then xs[i.toNat]? else if 0 ≤ i + (xs.length : Int) then xs[(i + (xs.length : Int)).toNat]? else none
theorem atI_of {α : Type} {R : V → α → Prop} {vs : List V} {xs : List α} {i : Int} {x : α} (p : Paired R vs xs) (h : at? xs i = some x) : ∃ v, atI vs i = some v ∧ R v x := by
  have hl := pr_len p
  unfold at? at h
  unfold atI ixN
  by_cases h0 : 0 ≤ i
  · rw [if_pos h0] at h
    obtain ⟨v, hv, r⟩ := pr_get p h
    have hb : i.toNat < vs.length := (List.getElem?_eq_some_iff.mp hv).1
    refine ⟨v, ?_, r⟩
    rw [if_pos h0, if_pos (by omega)]
    exact hv
  · rw [if_neg h0] at h
    by_cases h1 : 0 ≤ i + (xs.length : Int)
    · rw [if_pos h1] at h
      obtain ⟨v, hv, r⟩ := pr_get p h
      refine ⟨v, ?_, r⟩
      rw [if_neg h0, if_pos (by omega), hl]
      exact hv
    · rw [if_neg h1] at h
      cases h
theorem r2_ixL {α : Type} [Rp α] : R2p K (rIxL K) (fun (xs : List α) (i : Int) => at? xs i) := fun B H xs i z vx vy e hx hy ez Q q => by
  obtain ⟨a, vs, rfl, hs, hp⟩ := hx
  cases (show vy = .int i from hy)
  obtain ⟨v, hv, hr⟩ := atI_of hp ez
  exact ⟨a, vs, i, v, rfl, rfl, sq_lst (e _ _ hs), hv, q v B H (Gr.refl e) hr⟩
theorem ints_pr {B : Hp} : ∀ ns : List Int, Paired (rp K B) (ns.map V.int) ns
  | [] => .nil
  | _ :: ns => .cons rfl (ints_pr ns)
theorem r2_ixScr : R2p K (rIxL K) (fun (x : Scr) (i : Int) => at? x.l i) := fun B H x i z vx vy e hx hy ez Q q => by
  obtain ⟨a, rfl, hs⟩ := hx
  cases (show vy = .int i from hy)
  obtain ⟨v, hv, hr⟩ := atI_of (R := rp K B) (ints_pr x.l) ez
  exact ⟨a, _, i, v, rfl, rfl, sql_mono e hs, hv, q v B H (Gr.refl e) hr⟩
end
end Cf

set_option Elab.async false
set_option linter.all false
set_option maxRecDepth 100000
set_option maxHeartbeats 4000000
namespace Cf
open PySem L2
open Rp (rp)
open RpL (rpl)
open Enc (enc)
/-! ### loops in the mirror -/
inductive Fl (S R : Type) where
  | nx (s : S)
  | bk (s : S)
  | rt (r : R)
def forF {α S R : Type} (b : α → S → Option (Fl S R)) : List α → S → Option (Fl S R)
  | [], s => some (.nx s)
  | x :: xs, s => (b x s).bind fun c => match c with
    | .nx s' => forF b xs s'
    | .bk s' => some (.nx s')
    | .rt r => some (.rt r)
def forN {α S : Type} (b : α → S → Option S) : List α → S → Option S
  | [], s => some s
  | x :: xs, s => (b x s).bind fun s' => forN b xs s'
def whF {S R : Type} (c : S → Option Bool) (b : S → Option (Fl S R)) : Nat → S → Option (Fl S R)
  | 0, _ => none
  | n + 1, s => (c s).bind fun t => if t = true then (b s).bind fun c' => match c' with
      | .nx s' => whF c b n s'
      | .bk s' => some (.nx s')
      | .rt r => some (.rt r)
    else some (.nx s)
def whN {S : Type} (c : S → Option Bool) (b : S → Option S) : Nat → S → Option S
  | 0, _ => none
  | n + 1, s => (c s).bind fun t => if t = true then (b s).bind fun s' => whN c b n s' else some s
def rangeL (lo hi : Int) : List Int := (List.range (hi - lo).toNat).map fun (i : Nat) => lo + (i : Int)
section
variable {K : Fg} {σ : L2.St} {B H B' H' : Hp} {te ta tb tc : TE} {tt tu : TT} {tas : TA} {α β γ τ ρ S R : Type} {D : Ends} {t u ts : TS} {g : TG}
/-! ### statements -/
theorem st_asg [Rp α] {m m' : Option α} {k : α → Option ρ} {r : ρ} {i : Nat} (hm : m'.bind k = some r) (e : Ex B H) (hc : Cp K te σ B m) (he : m = m')
    (q : ∀ x v B1 H1, m' = some x → k x = some r → Gr noM B H B1 H1 → rp K B1 v x → D.nx (σ.set i (some v)) H1) : tAsg te (gName i) D σ H := by
  subst he
  obtain ⟨x, e1, e2⟩ := bd_some hm
  exact hc B H (Ex.refl B) e x e1 _ fun v B1 H1 g hv => q x v B1 H1 e1 e2 g hv
theorem st_asgO [Rp α] {m m' : Option (List α)} {k : List α → Option ρ} {r : ρ} {i : Nat} (hm : m'.bind k = some r) (e : Ex B H) (hc : Co K te σ B m) (he : m = m')
    (q : ∀ xs p vs B1 H1, m' = some xs → k xs = some r → Gr noM B H B1 H1 → H p = none → B1 p = none → H1 p = some (.lst vs) → Paired (rp K B1) vs xs → D.nx (σ.set i (some (.ref p))) H1) : tAsg te (gName i) D σ H := by
  subst he
  obtain ⟨x, e1, e2⟩ := bd_some hm
  exact hc B H (Ex.refl B) e x e1 _ fun p vs B1 H1 g f n hp pr => q x p vs B1 H1 e1 e2 g f n hp pr
theorem st_drop [Rp α] {m m' : Option α} {k : α → Option ρ} {r : ρ} (hm : m'.bind k = some r) (e : Ex B H) (hc : Cp K te σ B m) (he : m = m')
    (q : ∀ x B1 H1, m' = some x → k x = some r → Gr noM B H B1 H1 → D.nx σ H1) : tDrop te D σ H := by
  subst he
  obtain ⟨x, e1, e2⟩ := bd_some hm
  exact hc B H (Ex.refl B) e x e1 _ fun v B1 H1 g hv => q x B1 H1 e1 e2 g
theorem st_ret [Rp α] {m m' : Option α} {r : α} (hm : m' = some r) (e : Ex B H) (hc : Cp K te σ B m) (he : m = m') (q : ∀ v B1 H1, Gr noM B H B1 H1 → rp K B1 v r → D.rt v H1) : tRet te D σ H := by
  subst he
  exact hc B H (Ex.refl B) e r hm _ fun v B1 H1 g hv => q v B1 H1 g hv
theorem st_retF [Rp α] {m m' : Option α} {k : α → Option ρ} {c : ρ} (hm : m'.bind k = some c) (e : Ex B H) (hc : Cp K te σ B m) (he : m = m') (q : ∀ x v B1 H1, k x = some c → Gr noM B H B1 H1 → rp K B1 v x → D.rt v H1) : tRet te D σ H := by
  subst he
  obtain ⟨x, e1, e2⟩ := bd_some hm
  exact hc B H (Ex.refl B) e x e1 _ fun v B1 H1 g hv => q x v B1 H1 e2 g hv
theorem st_if {c c' : Option Bool} {A A' : Option ρ} {r : ρ} (hm : (c'.bind fun b => if b = true then A else A') = some r) (e : Ex B H) (hc : Ct tt σ B c) (he : c = c')
    (h1 : ∀ B1 H1, c' = some true → A = some r → Gr noM B H B1 H1 → t D σ H1) (h2 : ∀ B1 H1, c' = some false → A' = some r → Gr noM B H B1 H1 → u D σ H1) : tIfS tt t u D σ H := by
  subst he
  obtain ⟨b, e1, e2⟩ := bd_some hm
  refine hc B H (Ex.refl B) e b e1 _ fun B1 H1 g => ?_
  cases b with
  | true => exact h1 B1 H1 e1 e2 g
  | false => exact h2 B1 H1 e1 e2 g
/-- an if whose ways meet: J is what holds there -/
theorem st_ifJ {c c' : Option Bool} {A A' : Option S} {k : S → Option ρ} {r : ρ} (hm : ((c'.bind fun b => if b = true then A else A').bind k) = some r) (J : S → L2.St → Hp → Prop) (e : Ex B H) (hc : Ct tt σ B c) (he : c = c')
    (h1 : ∀ s B1 H1 (N : L2.St → Hp → Prop), c' = some true → A = some s → Gr noM B H B1 H1 → (∀ σ' H', J s σ' H' → N σ' H') → t { D with nx := N } σ H1)
    (h2 : ∀ s B1 H1 (N : L2.St → Hp → Prop), c' = some false → A' = some s → Gr noM B H B1 H1 → (∀ σ' H', J s σ' H' → N σ' H') → u { D with nx := N } σ H1)
    (q : ∀ s σ' H', k s = some r → J s σ' H' → D.nx σ' H') : tIfS tt t u D σ H := by
  subst he
  obtain ⟨s, e0, e3⟩ := bd_some hm
  obtain ⟨b, e1, e2⟩ := bd_some e0
  refine hc B H (Ex.refl B) e b e1 _ fun B1 H1 g => ?_
  cases b with
  | true => exact h1 s B1 H1 D.nx e1 e2 g fun σ' H' j => q s σ' H' e3 j
  | false => exact h2 s B1 H1 D.nx e1 e2 g fun σ' H' j => q s σ' H' e3 j
/-! ### loops -/
/-- a walk over the items xs: the loop's own iterator J yields their values, in a heap that is I's again -/
theorem forF_run {J : It} {xs : List α} [Rp α] {b : α → S → Option (Fl S R)} {k : Fl S R → Option ρ} {r : ρ} {s0 : S} (I : S → Hp → L2.St → Hp → Prop)
    (hgo : ∀ i s B σ H, I s B σ H → i < xs.length → J.go i H) (hst : ∀ i s B σ H, I s B σ H → xs.length ≤ i → J.stop i H)
    (hy : ∀ i x s B σ H v H', I s B σ H → xs[i]? = some x → J.yld i H v H' → ∃ B', I s B' σ H' ∧ rp K B' v x)
    (hm : (forF b xs s0).bind k = some r) (h0 : I s0 B σ H)
    (hs : ∀ x s B σ H v c (N : L2.St → Hp → Prop), I s B σ H → rp K B v x → b x s = some c → (∀ s2 B2 σ2 H2, c = .nx s2 → I s2 B2 σ2 H2 → N σ2 H2) → (∀ s2 B2 σ2 H2, c = .bk s2 → I s2 B2 σ2 H2 → D.nx σ2 H2) →
      (∀ r', c = .rt r' → k (.rt r') = some r) → g v σ H fun σ2 H2 => ts { D with nx := N, ct := N, bk := D.nx } σ2 H2)
    (hd : ∀ s B σ H, k (.nx s) = some r → I s B σ H → D.nx σ H) :
    ∃ W : Nat → Nat → L2.St → Hp → Prop, (∃ m, W 0 m σ H) ∧ ∀ i m σ H, W i m σ H → (J.stop i H ∧ D.nx σ H) ∨ (J.go i H ∧ ∃ N : L2.St → Hp → Prop, (∀ σ' H', N σ' H' → ∃ m', m' < m ∧ W (i + 1) m' σ' H') ∧
      ∀ x H', J.yld i H x H' → g x σ H' fun σ2 H2 => ts { D with nx := N, ct := N, bk := D.nx } σ2 H2) := by
  refine ⟨fun i m σ H => m = xs.length - i ∧ i ≤ xs.length ∧ ∃ s B, I s B σ H ∧ (forF b (xs.drop i) s).bind k = some r, ⟨_, rfl, Nat.zero_le _, s0, B, h0, hm⟩, ?_⟩
  rintro i m σ H ⟨rfl, hi, s, B, hI, hk⟩
  by_cases hlt : i < xs.length
  · refine .inr ⟨hgo i s B σ H hI hlt, fun σ' H' => i + 1 ≤ xs.length ∧ ∃ s B, I s B σ' H' ∧ (forF b (xs.drop (i + 1)) s).bind k = some r, fun σ' H' h => ⟨xs.length - (i + 1), by omega, rfl, h.1, h.2⟩, fun v H' y => ?_⟩
    have hx : xs[i]? = some xs[i] := List.getElem?_eq_getElem hlt
    obtain ⟨B', hI', hv⟩ := hy i xs[i] s B σ H v H' hI hx y
    have ed : xs.drop i = xs[i] :: xs.drop (i + 1) := List.drop_eq_getElem_cons hlt
    rw [ed] at hk
    obtain ⟨fl, e1, e2⟩ := bd_some hk
    obtain ⟨c, e3, e4⟩ := bd_some (show ((b xs[i] s).bind fun c => match c with | .nx s' => forF b (xs.drop (i + 1)) s' | .bk s' => some (.nx s') | .rt r => some (.rt r)) = some fl from e1)
    refine hs xs[i] s B' σ H' v c _ hI' hv e3 (fun s2 B2 σ2 H2 ec hI2 => ⟨hlt, s2, B2, hI2, ?_⟩) (fun s2 B2 σ2 H2 ec hI2 => ?_) (fun r' ec => ?_)
    · subst ec
      rw [show forF b (xs.drop (i + 1)) s2 = some fl from e4]
      exact e2
    · subst ec
      have : (Fl.nx s2 : Fl S R) = fl := Option.some.inj e4
      subst this
      exact hd s2 B2 σ2 H2 e2 hI2
    · subst ec
      have : (Fl.rt r' : Fl S R) = fl := Option.some.inj e4
      subst this
      exact e2
  · have e : xs.drop i = [] := List.drop_eq_nil_of_le (by omega)
    rw [e] at hk
    exact .inl ⟨hst i s B σ H hI (by omega), hd s B σ H hk hI⟩
theorem forN_F {b : α → S → Option S} : ∀ (xs : List α) (s : S), (forN b xs s).map (Fl.nx (R := R)) = forF (fun x s => (b x s).map Fl.nx) xs s
  | [], s => rfl
  | x :: xs, s => by
    unfold forN forF
    cases h : b x s with
    | none => rfl
    | some s' => exact forN_F xs s'
/-- the same, no way out of the loop but its end -/
theorem forN_run {J : It} {xs : List α} [Rp α] {b : α → S → Option S} {k : S → Option ρ} {r : ρ} {s0 : S} (I : S → Hp → L2.St → Hp → Prop)
    (hgo : ∀ i s B σ H, I s B σ H → i < xs.length → J.go i H) (hst : ∀ i s B σ H, I s B σ H → xs.length ≤ i → J.stop i H)
    (hy : ∀ i x s B σ H v H', I s B σ H → xs[i]? = some x → J.yld i H v H' → ∃ B', I s B' σ H' ∧ rp K B' v x)
    (hm : (forN b xs s0).bind k = some r) (h0 : I s0 B σ H)
    (hs : ∀ x s B σ H v s' (N : L2.St → Hp → Prop), I s B σ H → rp K B v x → b x s = some s' → (∀ B2 σ2 H2, I s' B2 σ2 H2 → N σ2 H2) → g v σ H fun σ2 H2 => ts { D with nx := N, ct := N, bk := D.nx } σ2 H2)
    (hd : ∀ s B σ H, k s = some r → I s B σ H → D.nx σ H) :
    ∃ W : Nat → Nat → L2.St → Hp → Prop, (∃ m, W 0 m σ H) ∧ ∀ i m σ H, W i m σ H → (J.stop i H ∧ D.nx σ H) ∨ (J.go i H ∧ ∃ N : L2.St → Hp → Prop, (∀ σ' H', N σ' H' → ∃ m', m' < m ∧ W (i + 1) m' σ' H') ∧
      ∀ x H', J.yld i H x H' → g x σ H' fun σ2 H2 => ts { D with nx := N, ct := N, bk := D.nx } σ2 H2) := by
  refine forF_run (K := K) (R := Unit) (b := fun x s => (b x s).map Fl.nx) (k := fun f => match f with | .nx s => k s | .bk _ => none | .rt _ => none) (r := r) (s0 := s0) I hgo hst hy ?_ h0 (fun x s B σ H v c N hI hv hb n1 n2 n3 => ?_) (fun s B σ H e hI => hd s B σ H e hI)
  · rw [← forN_F]
    cases h : forN b xs s0 with
    | none =>
      rw [h] at hm
      cases hm
    | some s =>
      rw [h] at hm
      exact hm
  · cases h : b x s with
    | none =>
      rw [h] at hb
      cases hb
    | some s' =>
      rw [h] at hb
      have e : Fl.nx s' = c := Option.some.inj hb
      exact hs x s B σ H v s' N hI hv h fun B2 σ2 H2 hI2 => n1 s' B2 σ2 H2 e.symm hI2
theorem itl_go {K : Fg} {H : Hp} {a : Addr} {vs : List V} {i : Nat} (h : SqL K H a vs) (hi : i < vs.length) : (Itl K a).go i H := ⟨vs, vs[i], h, List.getElem?_eq_getElem hi⟩
theorem itl_stop {K : Fg} {H : Hp} {a : Addr} {vs : List V} {i : Nat} (h : SqL K H a vs) (hi : vs.length ≤ i) : (Itl K a).stop i H := ⟨vs, h, hi⟩
/-- for x in a list that is known -/
theorem st_forF_list [Rp α] {mi mi' : Option (List α)} {b : α → S → Option (Fl S R)} {s0 : S} {k : Fl S R → Option ρ} {r : ρ} (I : Hp → S → Hp → L2.St → Hp → Prop) (hm : (mi'.bind fun xs => (forF b xs s0).bind k) = some r) (e : Ex B H) (hc : Cp K te σ B mi) (he : mi = mi')
    (hx : ∀ Be s B σ H, I Be s B σ H → Ex Be B ∧ Ex B H) (h0 : ∀ Be H1, Gr noM B H Be H1 → I Be s0 Be σ H1)
    (hs : ∀ Be x s B σ H v c (N : L2.St → Hp → Prop), I Be s B σ H → rp K B v x → b x s = some c → (∀ s2 B2 σ2 H2, c = .nx s2 → I Be s2 B2 σ2 H2 → N σ2 H2) → (∀ s2 B2 σ2 H2, c = .bk s2 → I Be s2 B2 σ2 H2 → D.nx σ2 H2) →
      (∀ r', c = .rt r' → k (.rt r') = some r) → g v σ H fun σ2 H2 => ts { D with nx := N, ct := N, bk := D.nx } σ2 H2)
    (hd : ∀ Be s B σ H, k (.nx s) = some r → I Be s B σ H → D.nx σ H) : tFor (iList K te) g ts D σ H := by
  subst he
  obtain ⟨xs, e1, e2⟩ := bd_some hm
  refine hc B H (Ex.refl B) e xs e1 _ fun v Be H1 g1 hv => ?_
  obtain ⟨a, vs, rfl, hS, hp⟩ := hv
  have hl := pr_len hp
  refine ⟨a, rfl, ⟨vs, sq_lst (g1.e _ _ hS)⟩, forF_run (K := K) (xs := xs) (B := Be) (I Be) (fun i s B σ H hI hi => ?_) (fun i s B σ H hI hi => ?_) (fun i x s B σ H v H' hI hxi y => ?_) e2 (h0 Be H1 g1) (fun x s B σ H v c N => hs Be x s B σ H v c N) (fun s B σ H => hd Be s B σ H)⟩
  · obtain ⟨x1, x2⟩ := hx _ _ _ _ _ hI
    exact itl_go (sq_lst ((x1.trans x2) _ _ hS)) (by omega)
  · obtain ⟨x1, x2⟩ := hx _ _ _ _ _ hI
    exact itl_stop (sq_lst ((x1.trans x2) _ _ hS)) (by omega)
  · obtain ⟨x1, x2⟩ := hx _ _ _ _ _ hI
    obtain ⟨eH, y⟩ := y
    subst eH
    obtain ⟨w, hw, hr⟩ := pr_get hp hxi
    have ew := y vs (sq_lst ((x1.trans x2) _ _ hS))
    rw [hw] at ew
    cases ew
    exact ⟨B, hI, Rp.mono x1 hr⟩
theorem st_forN_list [Rp α] {mi mi' : Option (List α)} {b : α → S → Option S} {s0 : S} {k : S → Option ρ} {r : ρ} (I : Hp → S → Hp → L2.St → Hp → Prop) (hm : (mi'.bind fun xs => (forN b xs s0).bind k) = some r) (e : Ex B H) (hc : Cp K te σ B mi) (he : mi = mi')
    (hx : ∀ Be s B σ H, I Be s B σ H → Ex Be B ∧ Ex B H) (h0 : ∀ Be H1, Gr noM B H Be H1 → I Be s0 Be σ H1)
    (hs : ∀ Be x s B σ H v s' (N : L2.St → Hp → Prop), I Be s B σ H → rp K B v x → b x s = some s' → (∀ B2 σ2 H2, I Be s' B2 σ2 H2 → N σ2 H2) → g v σ H fun σ2 H2 => ts { D with nx := N, ct := N, bk := D.nx } σ2 H2)
    (hd : ∀ Be s B σ H, k s = some r → I Be s B σ H → D.nx σ H) : tFor (iList K te) g ts D σ H := by
  subst he
  obtain ⟨xs, e1, e2⟩ := bd_some hm
  refine hc B H (Ex.refl B) e xs e1 _ fun v Be H1 g1 hv => ?_
  obtain ⟨a, vs, rfl, hS, hp⟩ := hv
  have hl := pr_len hp
  refine ⟨a, rfl, ⟨vs, sq_lst (g1.e _ _ hS)⟩, forN_run (K := K) (xs := xs) (B := Be) (I Be) (fun i s B σ H hI hi => ?_) (fun i s B σ H hI hi => ?_) (fun i x s B σ H v H' hI hxi y => ?_) e2 (h0 Be H1 g1) (fun x s B σ H v s' N => hs Be x s B σ H v s' N) (fun s B σ H => hd Be s B σ H)⟩
  · obtain ⟨x1, x2⟩ := hx _ _ _ _ _ hI
    exact itl_go (sq_lst ((x1.trans x2) _ _ hS)) (by omega)
  · obtain ⟨x1, x2⟩ := hx _ _ _ _ _ hI
    exact itl_stop (sq_lst ((x1.trans x2) _ _ hS)) (by omega)
  · obtain ⟨x1, x2⟩ := hx _ _ _ _ _ hI
    obtain ⟨eH, y⟩ := y
    subst eH
    obtain ⟨w, hw, hr⟩ := pr_get hp hxi
    have ew := y vs (sq_lst ((x1.trans x2) _ _ hS))
    rw [hw] at ew
    cases ew
    exact ⟨B, hI, Rp.mono x1 hr⟩
/-- the bounds of a range -/
def prange1 (n : Int) : Option (List Int) := if n.natAbs < 4611686018427387904 then some (rangeL 0 n) else none
def prange2 (lo hi : Int) : Option (List Int) := if lo.natAbs < 4611686018427387904 ∧ hi.natAbs < 4611686018427387904 then some (rangeL lo hi) else none
theorem rangeL_len (lo hi : Int) : (rangeL lo hi).length = (hi - lo).toNat := by
  unfold rangeL
  rw [List.length_map, List.length_range]
theorem rangeL_get {lo hi x : Int} {i : Nat} (h : (rangeL lo hi)[i]? = some x) : x = lo + (i : Int) := by
  unfold rangeL at h
  rw [List.getElem?_map] at h
  cases e : (List.range (hi - lo).toNat)[i]? with
  | none =>
    rw [e] at h
    cases h
  | some j =>
    rw [e] at h
    have hj := List.getElem?_eq_some_iff.mp e
    obtain ⟨h1, h2⟩ := hj
    rw [List.getElem_range] at h2
    subst h2
    exact (Option.some.inj h).symm
theorem itr_yld {lo hi x : Int} {i : Nat} {H H' : Hp} {v : V} (n : Nat) (h : (rangeL lo hi)[i]? = some x) (y : (Itr lo n).yld i H v H') : H' = H ∧ v = .int x := by
  obtain ⟨e, y⟩ := y
  exact ⟨e, by rw [y, rangeL_get h]⟩
theorem st_forF_r1 {mi mi' : Option Int} {b : Int → S → Option (Fl S R)} {s0 : S} {k : Fl S R → Option ρ} {r : ρ} (I : Hp → S → Hp → L2.St → Hp → Prop) (hm : ((mi'.bind fun n => prange1 n).bind fun xs => (forF b xs s0).bind k) = some r) (e : Ex B H) (hc : Ca K tas σ B (mi.bind fun n => some (n, ()))) (he : mi = mi')
    (h0 : ∀ Be H1, Gr noM B H Be H1 → I Be s0 Be σ H1)
    (hs : ∀ Be x s B σ H v c (N : L2.St → Hp → Prop), I Be s B σ H → rp K B v x → b x s = some c → (∀ s2 B2 σ2 H2, c = .nx s2 → I Be s2 B2 σ2 H2 → N σ2 H2) → (∀ s2 B2 σ2 H2, c = .bk s2 → I Be s2 B2 σ2 H2 → D.nx σ2 H2) →
      (∀ r', c = .rt r' → k (.rt r') = some r) → g v σ H fun σ2 H2 => ts { D with nx := N, ct := N, bk := D.nx } σ2 H2)
    (hd : ∀ Be s B σ H, k (.nx s) = some r → I Be s B σ H → D.nx σ H) : tFor (iRng1 tas) g ts D σ H := by
  subst he
  obtain ⟨xs, e1, e2⟩ := bd_some hm
  obtain ⟨n, e3, e4⟩ := bd_some e1
  obtain ⟨hb, ex⟩ := if_some e4
  subst ex
  subst e3
  refine hc B H (Ex.refl B) e (n, ()) rfl _ fun vs Be H1 g1 hv => ?_
  obtain ⟨v, us, rfl, h1, h2⟩ := hv
  cases (show us = [] from h2)
  cases (show v = .int n from h1)
  have hl := rangeL_len 0 n
  rw [Int.sub_zero] at hl
  refine ⟨n, rfl, (by omega), (by omega), forF_run (K := K) (xs := rangeL 0 n) (B := Be) (I Be) (fun i s B σ H hI hi => (by rw [hl] at hi; exact hi)) (fun i s B σ H hI hi => (by rw [hl] at hi; exact hi)) (fun i x s B σ H v H' hI hxi y => ?_) e2 (h0 Be H1 g1) (fun x s B σ H v c N => hs Be x s B σ H v c N) (fun s B σ H => hd Be s B σ H)⟩
  obtain ⟨eH, ev⟩ := itr_yld _ hxi y
  subst eH
  exact ⟨B, hI, ev⟩
theorem st_forN_r1 {mi mi' : Option Int} {b : Int → S → Option S} {s0 : S} {k : S → Option ρ} {r : ρ} (I : Hp → S → Hp → L2.St → Hp → Prop) (hm : ((mi'.bind fun n => prange1 n).bind fun xs => (forN b xs s0).bind k) = some r) (e : Ex B H) (hc : Ca K tas σ B (mi.bind fun n => some (n, ()))) (he : mi = mi')
    (h0 : ∀ Be H1, Gr noM B H Be H1 → I Be s0 Be σ H1)
    (hs : ∀ Be x s B σ H v s' (N : L2.St → Hp → Prop), I Be s B σ H → rp K B v x → b x s = some s' → (∀ B2 σ2 H2, I Be s' B2 σ2 H2 → N σ2 H2) → g v σ H fun σ2 H2 => ts { D with nx := N, ct := N, bk := D.nx } σ2 H2)
    (hd : ∀ Be s B σ H, k s = some r → I Be s B σ H → D.nx σ H) : tFor (iRng1 tas) g ts D σ H := by
  subst he
  obtain ⟨xs, e1, e2⟩ := bd_some hm
  obtain ⟨n, e3, e4⟩ := bd_some e1
  obtain ⟨hb, ex⟩ := if_some e4
  subst ex
  subst e3
  refine hc B H (Ex.refl B) e (n, ()) rfl _ fun vs Be H1 g1 hv => ?_
  obtain ⟨v, us, rfl, h1, h2⟩ := hv
  cases (show us = [] from h2)
  cases (show v = .int n from h1)
  have hl := rangeL_len 0 n
  rw [Int.sub_zero] at hl
  refine ⟨n, rfl, (by omega), (by omega), forN_run (K := K) (xs := rangeL 0 n) (B := Be) (I Be) (fun i s B σ H hI hi => (by rw [hl] at hi; exact hi)) (fun i s B σ H hI hi => (by rw [hl] at hi; exact hi)) (fun i x s B σ H v H' hI hxi y => ?_) e2 (h0 Be H1 g1) (fun x s B σ H v s' N => hs Be x s B σ H v s' N) (fun s B σ H => hd Be s B σ H)⟩
  obtain ⟨eH, ev⟩ := itr_yld _ hxi y
  subst eH
  exact ⟨B, hI, ev⟩
end
end Cf

set_option Elab.async false
set_option linter.all false
set_option maxRecDepth 100000
set_option maxHeartbeats 4000000
namespace Cf
open PySem L2
open Rp (rp)
open RpL (rpl)
open Enc (enc)
/-! ### calls by name -/
/-- the module's name x is a def that keeps the promise sp, by at most level k -/
structure Fc (P : Program) (w : World) (K : Fg) (mg : Str → Option Value) (base : Heap) (k : Nat) (x : Str) (ps : List Str) (sp : Sp) : Prop where
  ex : ∃ f fd, FnOk P w K mg base CX0 k f fd ps sp ∧ mg x = some (.ref f) ∧ PySem.W.keepIn K (.ref f) = true ∧ Binds K fd ps []
theorem pe_fc {X : Cx} {k j : Nat} {x : Str} {ps : List Str} {sp : Sp} {p pos : Pos} {e : Expr} {es : List Expr} {t : TA} (c : Fc X.prog X.w X.K X.mg X.base k x ps sp) (hr : Room j X.A) (hk : k ≤ j) (hg : Gl X x) (ha : PA X (e :: es) t)
    (hdb : (x == ("__debug__" : Str)) = false := by decide) (he : starEach (e :: es) X.env = (false, eval e X.env) :: starEach es X.env := by rfl)
    (hpl : (backTo pos (starEach es X.env)).any (·.1) = false := by rfl) : PE X (.Call (.Name x p) (e :: es) [] pos) (tCall sp [] E0 t) := by
  obtain ⟨f, fd, F, hm, hkp, hb⟩ := c.ex
  exact pe_call F (hr.mono hk) hg hm hkp hb .nil pass0 ha hdb he hpl
theorem pe_gint {X : Cx} {x : Str} {i : Int} {pos : Pos} (hg : Gl X x) (h : ∃ t, X.mg x = some (.int i t)) (hdb : (x == ("__debug__" : Str)) = false := by decide) : PE X (.Name x pos) (tC (.int i)) := by
  obtain ⟨t, e⟩ := h
  exact pe_glob hg e ⟨_, rfl⟩ hdb
theorem pe_gstr {X : Cx} {x : Str} {z : Str} {pos : Pos} (hg : Gl X x) (h : ∃ t, X.mg x = some (.str z t)) (hdb : (x == ("__debug__" : Str)) = false := by decide) : PE X (.Name x pos) (tC (.str z)) := by
  obtain ⟨t, e⟩ := h
  exact pe_glob hg e ⟨_, rfl⟩ hdb
theorem fc_of {P : Program} {w : World} {K : Fg} {mg : Str → Option Value} {base : Heap} {k : Nat} {x qual : Str} {pa : Arguments} {bd : List Stmt} {sc : Scope} {ps : List Str} {sp : Sp} {f : Addr} {fd : FuncData} (F : FunD K x qual pa bd sc [] [] f fd) (ok : FnOk P w K mg base CX0 k f fd ps sp) (g : mg x = some (.ref f))
    (h : ∀ (kV doc pm : Value) (an : Option Addr) (cdv ct : Value) (us : List Value), us.length = ps.length → bindArgs (PySem.W.fnOf x qual pa bd sc .none kV doc pm an cdv ct) ⟨us, []⟩ = pure (ps.zip us)) : Fc P w K mg base k x ps sp :=
  ⟨f, fd, ok, g, F.kp, F.bindsN h⟩
/-! ### len, repr -/
section
variable {K : Fg}
def RLen (K : Fg) : List V → Hp → VK → Prop := fun xs H Q => ∃ x n, xs = [x] ∧ LenV K x H n ∧ Q (.int n) H
theorem call_len_ {X : Cx} : CallR X (.builtin "len") (RLen X.K) := call_len
theorem rc_lenL {α : Type} [Rp α] : Rcp K (RLen K) (fun t : List α × Unit => some (t.1.length : Int)) := fun B H t z vs e h ez Q q => by
  cases ez
  obtain ⟨v, us, rfl, h1, h2⟩ := h
  cases (show us = [] from h2)
  obtain ⟨a, ws, rfl, s, p⟩ := h1
  refine ⟨_, t.1.length, rfl, .inl ⟨ws, sq_lst (e _ _ s), (pr_len p).symm⟩, q _ B H (Gr.refl e) rfl⟩
theorem rc_lenScr : Rcp K (RLen K) (fun t : Scr × Unit => some (t.1.l.length : Int)) := fun B H t z vs e h ez Q q => by
  cases ez
  obtain ⟨v, us, rfl, h1, h2⟩ := h
  cases (show us = [] from h2)
  obtain ⟨a, rfl, s⟩ := h1
  refine ⟨_, t.1.l.length, rfl, .inl ⟨_, sql_mono e s, (List.length_map ..).symm⟩, q _ B H (Gr.refl e) rfl⟩
def plenS (x : Str) : Option Int := if x.length ≤ sizeLine then some (x.length : Int) else none
theorem rc_lenS : Rcp K (RLen K) (fun t : Str × Unit => plenS t.1) := fun B H t z vs e h ez Q q => by
  obtain ⟨v, us, rfl, h1, h2⟩ := h
  cases (show us = [] from h2)
  cases (show v = .str _ from h1)
  obtain ⟨hc, ez⟩ := if_some ez
  cases ez
  exact ⟨_, t.1.length, rfl, ⟨hc, rfl⟩, q _ B H (Gr.refl e) rfl⟩
def RRepI : List V → Hp → VK → Prop := fun xs H Q => ∃ i, xs = [.int i] ∧ i.natAbs.log2 < 1920 ∧ Q (.str (toString i)) H
theorem call_repI_ {X : Cx} : CallR X (.builtin "repr") RRepI := SkE.call_repr_int
def preprI (i : Int) : Option Str := if i.natAbs.log2 < 1920 then some (Str.ofString (toString i)) else none
theorem rc_repI : Rcp K RRepI (fun t : Int × Unit => preprI t.1) := fun B H t z vs e h ez Q q => by
  obtain ⟨v, us, rfl, h1, h2⟩ := h
  cases (show us = [] from h2)
  cases (show v = .int _ from h1)
  obtain ⟨hc, ez⟩ := if_some ez
  cases ez
  exact ⟨_, rfl, hc, q _ B H (Gr.refl e) rfl⟩
end
end Cf

set_option Elab.async false
set_option linter.all false
set_option maxRecDepth 100000
namespace Cf
open PySem L2
section
variable {t u : TS} {D : Ends} {σ : L2.St} {H : Hp}
theorem sq (h : t { D with nx := u D } σ H) : tSeq t u D σ H := h
theorem nxt (h : D.nx σ H) : tNext D σ H := h
theorem brkn (h : D.bk σ H) : tBreak D σ H := h
theorem cntn (h : D.ct σ H) : tCont D σ H := h
theorem gnx {f b c : L2.St → Hp → Prop} {r : VK} (h : f σ H) : Ends.nx ⟨f, r, b, c⟩ σ H := h
theorem gnm {i : Nat} {v : V} {Q : L2.St → Hp → Prop} (h : Q (σ.set i (some v)) H) : gName i v σ H Q := h
end
section
variable {K : Fg} {σ : L2.St} {B H : Hp} {ta : TE}
theorem cp_int1 {m : Option Int} (h : Cp K ta σ B m) : Cp K (tCB RInt (tCons ta tNil)) σ B m := fun B1 H1 b eh x e Q q => h B1 H1 b eh x e _ fun v B2 H2 g2 hv => by
  cases (show v = .int x from hv)
  exact .inl ⟨x, rfl, q _ B2 H2 g2 rfl⟩
end
end Cf
namespace Cf
/-! ### the mirrors' operations -/
theorem pmod_some {i j : Int} (h : 0 < j) : pmod i j = some (i % j) := if_pos h
theorem pdiv_some {i j : Int} (h : 0 < j) (h2 : j < 1073741824) : pdiv i j = some (i / j) := if_pos ⟨h, h2⟩
theorem pmul_r {i j : Int} (h1 : -18446744073709551616 < j) (h2 : j < 18446744073709551616) : pmul i j = some (i * j) := if_pos (.inr ⟨h1, h2⟩)
theorem pmul_l {i j : Int} (h1 : -18446744073709551616 < i) (h2 : i < 18446744073709551616) : pmul i j = some (i * j) := if_pos (.inl ⟨h1, h2⟩)
theorem pshr_some {i j : Int} (h : 0 ≤ j) : pshr i j = some (i / 2 ^ j.toNat) := if_pos h
theorem at_nat {α : Type} {xs : List α} {i : Int} (h : 0 ≤ i) : at? xs i = xs[i.toNat]? := if_pos h
theorem forF_nil {α S R : Type} (b : α → S → Option (Fl S R)) (s : S) : forF b [] s = some (.nx s) := rfl
theorem forF_cons {α S R : Type} (b : α → S → Option (Fl S R)) (x : α) (xs : List α) (s : S) : forF b (x :: xs) s = (b x s).bind fun c => match c with
    | .nx s' => forF b xs s'
    | .bk s' => some (.nx s')
    | .rt r => some (.rt r) := rfl
theorem forN_cons {α S : Type} (b : α → S → Option S) (x : α) (xs : List α) (s : S) : forN b (x :: xs) s = (b x s).bind fun s' => forN b xs s' := rfl
/-- a loop that never leaves and keeps I -/
theorem forF_all {α S R : Type} {b : α → S → Option (Fl S R)} (I : S → Prop) : ∀ (xs : List α) (s : S), I s → (∀ x ∈ xs, ∀ s, I s → ∃ s', b x s = some (.nx s') ∧ I s') → ∃ s', forF b xs s = some (.nx s') ∧ I s'
  | [], s, h, _ => ⟨s, rfl, h⟩
  | x :: xs, s, h, hb => by
    obtain ⟨s', e, h'⟩ := hb x List.mem_cons_self s h
    obtain ⟨s2, e2, h2⟩ := forF_all I xs s' h' fun y hy => hb y (List.mem_cons_of_mem _ hy)
    exact ⟨s2, by rw [forF_cons, e]; exact e2, h2⟩
theorem forN_all {α S : Type} {b : α → S → Option S} (I : S → Prop) : ∀ (xs : List α) (s : S), I s → (∀ x ∈ xs, ∀ s, I s → ∃ s', b x s = some s' ∧ I s') → ∃ s', forN b xs s = some s' ∧ I s'
  | [], s, h, _ => ⟨s, rfl, h⟩
  | x :: xs, s, h, hb => by
    obtain ⟨s', e, h'⟩ := hb x List.mem_cons_self s h
    obtain ⟨s2, e2, h2⟩ := forN_all I xs s' h' fun y hy => hb y (List.mem_cons_of_mem _ hy)
    exact ⟨s2, by rw [forN_cons, e]; exact e2, h2⟩
theorem mem_rangeL {lo hi x : Int} : x ∈ rangeL lo hi ↔ lo ≤ x ∧ x < hi := by
  unfold rangeL
  rw [List.mem_map]
  constructor
  · rintro ⟨i, h, rfl⟩
    rw [List.mem_range] at h
    omega
  · intro h
    exact ⟨(x - lo).toNat, by rw [List.mem_range]; omega, by omega⟩
end Cf

set_option Elab.async false
set_option linter.all false
set_option maxRecDepth 100000
set_option maxHeartbeats 4000000
namespace Cf
open PySem L2
open Rp (rp)
open RpL (rpl)
open Enc (enc)
/-! ### expressions that change one's own -/
def Cs {S α : Type} [Rp α] (K : Fg) (P : Ow S) (te : TE) (σ : L2.St) (B : Hp) (m : S → Option (α × S)) : Prop :=
  ∀ B1 H1 W s, Ex B B1 → Ex B1 H1 → Ex W H1 → Dj W B1 → P W B1 s → ∀ x s', m s = some (x, s') → ∀ Q : VK, (∀ v B2 H2 W2, Sw W B1 H1 W2 B2 H2 → P W2 B2 s' → rp K B2 v x → Q v H2) → te σ H1 Q
def Cst {S : Type} (P : Ow S) (tt : TT) (σ : L2.St) (B : Hp) (m : S → Option (Bool × S)) : Prop :=
  ∀ B1 H1 W s, Ex B B1 → Ex B1 H1 → Ex W H1 → Dj W B1 → P W B1 s → ∀ x s', m s = some (x, s') → ∀ Q : Bool → Hp → Prop, (∀ B2 H2 W2, Sw W B1 H1 W2 B2 H2 → P W2 B2 s' → Q x H2) → tt σ H1 Q
def Csa {S τ : Type} [RpL τ] (K : Fg) (P : Ow S) (ta : TA) (σ : L2.St) (B : Hp) (m : S → Option (τ × S)) : Prop :=
  ∀ B1 H1 W s, Ex B B1 → Ex B1 H1 → Ex W H1 → Dj W B1 → P W B1 s → ∀ x s', m s = some (x, s') → ∀ Q : List V → Hp → Prop, (∀ vs B2 H2 W2, Sw W B1 H1 W2 B2 H2 → P W2 B2 s' → rpl K B2 vs x → Q vs H2) → ta σ H1 Q
/-- .. a new list, not known yet: its place p and items vs stand apart from one's own -/
def Cso {S α : Type} [Rp α] (K : Fg) (P : Ow S) (te : TE) (σ : L2.St) (B : Hp) (m : S → Option (List α × S)) : Prop :=
  ∀ B1 H1 W s, Ex B B1 → Ex B1 H1 → Ex W H1 → Dj W B1 → P W B1 s → ∀ xs s', m s = some (xs, s') → ∀ Q : VK,
    (∀ p vs B2 H2 W2, Sw W B1 H1 W2 B2 H2 → P W2 B2 s' → H1 p = none → B2 p = none → W2 p = none → H2 p = some (.lst vs) → Paired (rp K B2) vs xs → Q (.ref p) H2) → te σ H1 Q
/-- a part of one's own: get it, put it -/
structure Ln {S' S : Type} (P' : Ow S') (P : Ow S) (get : S' → S) (put : S' → S → S') : Prop where
  open_ : ∀ W B s', P' W B s' → ∃ W1 W2, W = uni W1 W2 ∧ Dj W1 W2 ∧ P W1 B (get s') ∧ ∀ W1' B' x, Ex B B' → Dj W1' W2 → P W1' B' x → P' (uni W1' W2) B' (put s' x)
section
variable {K : Fg} {σ : L2.St} {B H B' H' : Hp} {te ta tb tc : TE} {tt tu : TT} {tas : TA} {α β γ τ ρ S S' S1 S2 : Type} {P : Ow S} {P' : Ow S'} {R : Ow S1}
theorem uni_emp {W : Hp} : uni W emp = W := by
  funext a
  unfold uni
  split
  · rename_i o h
    exact h.symm
  · rename_i h
    exact h.symm
theorem ln_id : Ln P P (fun s => s) (fun _ x => x) := ⟨fun W B s p => ⟨W, emp, uni_emp.symm, fun a _ => rfl, p, fun W1' B' x _ _ q => by rw [uni_emp]; exact q⟩⟩
theorem ln_l [OwOk R] : Ln (star P R) P (fun s => s.1) (fun s x => (x, s.2)) := ⟨fun W B s ⟨W1, W2, h, d, p, r⟩ => ⟨W1, W2, h, d, p, fun W1' B' x e dj q => ⟨W1', W2, rfl, dj, q, OwOk.mono e r⟩⟩⟩
theorem uni_comm {W1 W2 : Hp} (d : Dj W1 W2) : uni W1 W2 = uni W2 W1 := by
  funext a
  cases q : W1 a with
  | some o =>
    have := d a (nn q)
    rw [uni_l q, uni_r this, q]
  | none =>
    rw [uni_r q]
    cases q2 : W2 a with
    | some o => rw [uni_l q2]
    | none => rw [uni_r q2, q]
theorem ln_r [OwOk P] : Ln (star P R) R (fun s => s.2) (fun s x => (s.1, x)) := ⟨fun W B s ⟨W1, W2, h, d, p, r⟩ => ⟨W2, W1, h.trans (uni_comm d), d.symm, r, fun W1' B' x e dj q => ⟨W1, W1', uni_comm dj, dj.symm, OwOk.mono e p, q⟩⟩⟩
theorem uni_assoc {A C D : Hp} : uni (uni A C) D = uni A (uni C D) := by
  funext a
  cases q : A a with
  | some o => rw [uni_l (uni_l q), uni_l q]
  | none =>
    rw [uni_r q]
    cases q2 : C a with
    | some o => rw [uni_l (show uni A C a = some o by rw [uni_r q, q2]), uni_l q2]
    | none => rw [uni_r (show uni A C a = none by rw [uni_r q, q2]), uni_r q2]
theorem dj_uni {A C D : Hp} (h1 : Dj A D) (h2 : Dj C D) : Dj (uni A C) D := fun a h => by
  rcases uni_dom h with z | z
  · exact h1 a z
  · exact h2 a z
theorem dj_l {A C D : Hp} (h : Dj (uni A C) D) : Dj A D := fun a z => h a (uni_dom_l z)
theorem dj_r {A C D : Hp} (d : Dj A C) (h : Dj (uni A C) D) : Dj C D := fun a z => h a (uni_dom_r d z)
theorem Ln.comp {P1 : Ow S1} {P2 : Ow S2} {g1 : S → S1} {p1 : S → S1 → S} {g2 : S1 → S2} {p2 : S1 → S2 → S1} (l : Ln P P1 g1 p1) (m : Ln P1 P2 g2 p2) : Ln P P2 (fun s => g2 (g1 s)) (fun s x => p1 s (p2 (g1 s) x)) := ⟨fun W B s p => by
  obtain ⟨W1, W2, h, d, q, put⟩ := l.open_ W B s p
  obtain ⟨W3, W4, h', d', q', put'⟩ := m.open_ W1 B _ q
  subst h'
  refine ⟨W3, uni W4 W2, by rw [h, uni_assoc], fun a z => ?_, q', fun W1' B' x e dj px => ?_⟩
  · cases hh : uni W4 W2 a with
    | none => rfl
    | some o =>
      rcases uni_dom (nn hh) with y | y
      · exact absurd (d' a z) y
      · exact absurd (d a (uni_dom_l z)) y
  · have dj4 : Dj W1' W4 := fun a z => by
      cases hh : W4 a with
      | none => rfl
      | some o => exact absurd (dj a z) (uni_dom_l (nn hh))
    have dj2 : Dj W1' W2 := fun a z => by
      cases hh : W2 a with
      | none => rfl
      | some o =>
        have dw : Dj W4 W2 := dj_r d' d
        exact absurd (dj a z) (uni_dom_r dw (nn hh))
    rw [← uni_assoc]
    exact put _ _ _ e (dj_uni dj2 (dj_r d' d)) (put' _ _ _ e dj4 px)⟩
theorem Ow.split {get : S' → S} {put : S' → S → S'} (l : Ln P' P get put) {W B : Hp} {s : S'} (p : P' W B s) : ∃ W1 W2, W = uni W1 W2 ∧ Dj W1 W2 ∧ P W1 B (get s) ∧ ∀ W1' B' x, Ex B B' → Dj W1' W2 → P W1' B' x → P' (uni W1' W2) B' (put s x) := l.open_ W B s p
/-! what changes nothing -/
theorem Cp.s [Rp α] [OwOk P] {m : Option α} (h : Cp K te σ B m) : Cs K P te σ B (fun s => m.bind fun x => some (x, s)) := fun B1 H1 W s b e w d p x s' em Q q => by
  obtain ⟨y, e1, e2⟩ := bd_some em
  cases e2
  exact h B1 H1 b e x e1 Q fun v B2 H2 g hv => q v B2 H2 W (Sw.pure g w d) (OwOk.mono g.b p) hv
theorem Ct.s [OwOk P] {m : Option Bool} (h : Ct tt σ B m) : Cst P tt σ B (fun s => m.bind fun x => some (x, s)) := fun B1 H1 W s b e w d p x s' em Q q => by
  obtain ⟨y, e1, e2⟩ := bd_some em
  cases e2
  exact h B1 H1 b e x e1 Q fun B2 H2 g => q B2 H2 W (Sw.pure g w d) (OwOk.mono g.b p)
theorem Ca.s [RpL τ] [OwOk P] {m : Option τ} (h : Ca K tas σ B m) : Csa K P tas σ B (fun s => m.bind fun x => some (x, s)) := fun B1 H1 W s b e w d p x s' em Q q => by
  obtain ⟨y, e1, e2⟩ := bd_some em
  cases e2
  exact h B1 H1 b e x e1 Q fun v B2 H2 g hv => q v B2 H2 W (Sw.pure g w d) (OwOk.mono g.b p) hv
theorem Co.s [Rp α] [OwOk P] {m : Option (List α)} (h : Co K te σ B m) : Cso K P te σ B (fun s => m.bind fun x => some (x, s)) := fun B1 H1 W s b e w d p x s' em Q q => by
  obtain ⟨y, e1, e2⟩ := bd_some em
  cases e2
  refine h B1 H1 b e x e1 Q fun a vs B2 H2 g f n hp pr => q a vs B2 H2 W (Sw.pure g w d) (OwOk.mono g.b p) f n ?_ hp pr
  cases hh : W a with
  | none => rfl
  | some o =>
    rw [w a o hh] at f
    cases f
theorem Cso.cs [Rp α] {m : S → Option (List α × S)} [OwOk P] (h : Cso K P te σ B m) : Cs K P te σ B m := fun B1 H1 W s b e w d p xs s' em Q q => h B1 H1 W s b e w d p xs s' em Q fun a vs B2 H2 W2 sw p2 f n nw hp pr =>
  q (.ref a) (upd B2 a (.lst vs)) H2 W2 ⟨sw.g.freeze hp f n, sw.w, fun c z => by
    rw [upd_ne (show c ≠ a from fun y => z (by rw [y]; exact nw))]
    exact sw.d c z, sw.f⟩ (OwOk.mono (Ex.new n) p2) ⟨a, vs, rfl, upd_same, pr_mono (Ex.new n) pr⟩
theorem sm2 {m1 : S → Option (α × S)} {m2 : S → Option (β × S)} {f : α → β → Option γ} {s s' : S} {z : γ} (h : ((m1 s).bind fun p => (m2 p.2).bind fun q => (f p.1 q.1).bind fun z => some (z, q.2)) = some (z, s')) : ∃ x s1 y, m1 s = some (x, s1) ∧ m2 s1 = some (y, s') ∧ f x y = some z := by
  obtain ⟨⟨x, s1⟩, e1, h⟩ := bd_some h
  obtain ⟨⟨y, s2⟩, e2, h⟩ := bd_some h
  obtain ⟨w, e3, h⟩ := bd_some h
  cases h
  exact ⟨x, s1, y, e1, e2, e3⟩
theorem cs_op [Rp α] [Rp β] [Rp γ] {r : R2} {f : α → β → Option γ} {m1 : S → Option (α × S)} {m2 : S → Option (β × S)} (hr : R2p K r f) [OwOk P] (ha : Cs K P ta σ B m1) (hb : Cs K P tb σ B m2) :
    Cs K P (tOp r ta tb) σ B (fun s => (m1 s).bind fun p => (m2 p.2).bind fun q => (f p.1 q.1).bind fun z => some (z, q.2)) := fun B1 H1 W s b e w d p z s' em Q q => by
  obtain ⟨x, s1, y, e1, e2, e3⟩ := sm2 em
  refine ha B1 H1 W s b e w d p x s1 e1 _ fun v B2 H2 W2 sw p2 hv => ?_
  refine hb B2 H2 W2 s1 (b.trans sw.g.b) sw.g.e sw.w sw.d p2 y s' e2 _ fun u B3 H3 W3 sw3 p3 hu => ?_
  exact hr B3 H3 x y z v u sw3.g.e (Rp.mono sw3.g.b hv) hu e3 Q fun t B4 H4 g4 ht => q t B4 H4 W3 ((sw.trans sw3).trans (Sw.pure g4 sw3.w sw3.d)) (OwOk.mono g4.b p3) ht
theorem cs_un [Rp α] [Rp γ] {r : V → Hp → VK → Prop} {f : α → Option γ} {m : S → Option (α × S)} (hr : R1p K r f) [OwOk P] (ha : Cs K P ta σ B m) : Cs K P (tUn r ta) σ B (fun s => (m s).bind fun p => (f p.1).bind fun z => some (z, p.2)) := fun B1 H1 W s b e w d p z s' em Q q => by
  obtain ⟨⟨x, s1⟩, e1, em⟩ := bd_some em
  obtain ⟨z', e2, em⟩ := bd_some em
  cases em
  refine ha B1 H1 W s b e w d p x _ e1 _ fun v B2 H2 W2 sw p2 hv => ?_
  exact hr B2 H2 x z v sw.g.e hv e2 Q fun t B3 H3 g3 ht => q t B3 H3 W2 (sw.trans (Sw.pure g3 sw.w sw.d)) (OwOk.mono g3.b p2) ht
theorem cs_cb [RpL τ] [Rp γ] {r : List V → Hp → VK → Prop} {f : τ → Option γ} {m : S → Option (τ × S)} (hr : Rcp K r f) [OwOk P] (ha : Csa K P tas σ B m) : Cs K P (tCB r tas) σ B (fun s => (m s).bind fun p => (f p.1).bind fun z => some (z, p.2)) := fun B1 H1 W s b e w d p z s' em Q q => by
  obtain ⟨⟨x, s1⟩, e1, em⟩ := bd_some em
  obtain ⟨z', e2, em⟩ := bd_some em
  cases em
  refine ha B1 H1 W s b e w d p x _ e1 _ fun vs B2 H2 W2 sw p2 hv => ?_
  exact hr B2 H2 x z vs sw.g.e hv e2 Q fun t B3 H3 g3 ht => q t B3 H3 W2 (sw.trans (Sw.pure g3 sw.w sw.d)) (OwOk.mono g3.b p2) ht
theorem cs_int1 {m : S → Option (Int × S)} (h : Cs K P ta σ B m) : Cs K P (tCB RInt (tCons ta tNil)) σ B m := fun B1 H1 W s b e w d p x s' em Q q => h B1 H1 W s b e w d p x s' em _ fun v B2 H2 W2 sw p2 hv => by
  cases (show v = .int x from hv)
  exact .inl ⟨x, rfl, q _ B2 H2 W2 sw p2 rfl⟩
theorem csa_nil : Csa K P tNil σ B (fun s => some ((), s)) := fun B1 H1 W s b e w d p x s' em Q q => by
  cases em
  exact q [] B1 H1 W (Sw.refl e w d) p rfl
theorem csa_cons [Rp α] [RpL τ] {m1 : S → Option (α × S)} {m2 : S → Option (τ × S)} (ha : Cs K P ta σ B m1) (hb : Csa K P tas σ B m2) :
    Csa K P (tCons ta tas) σ B (fun s => (m1 s).bind fun p => (m2 p.2).bind fun q => some ((p.1, q.1), q.2)) := fun B1 H1 W s b e w d p z s' em Q q => by
  obtain ⟨⟨x, s1⟩, e1, em⟩ := bd_some em
  obtain ⟨⟨y, s2⟩, e2, em⟩ := bd_some em
  cases em
  refine ha B1 H1 W s b e w d p x s1 e1 _ fun v B2 H2 W2 sw p2 hv => ?_
  refine hb B2 H2 W2 s1 (b.trans sw.g.b) sw.g.e sw.w sw.d p2 y _ e2 _ fun vs B3 H3 W3 sw3 p3 hu => ?_
  exact q (v :: vs) B3 H3 W3 (sw.trans sw3) p3 ⟨v, vs, rfl, Rp.mono sw3.g.b hv, hu⟩
theorem cs_call [RpL τ] [Rp γ] {f : τ → Option γ} {m : S → Option (τ × S)} {E : XK} [OwOk P] (ha : Csa K P tas σ B m) : Cs K P (tCall (spP K f) [] E tas) σ B (fun s => (m s).bind fun p => (f p.1).bind fun z => some (z, p.2)) := fun B1 H1 W s b e w d p z s' em Q q => by
  obtain ⟨⟨x, s1⟩, e1, em⟩ := bd_some em
  obtain ⟨z', e2, em⟩ := bd_some em
  cases em
  refine ha B1 H1 W s b e w d p x _ e1 _ fun vs B2 H2 W2 sw p2 hv => ?_
  rw [List.append_nil]
  exact ⟨B2, x, z, sw.g.e, hv, e2, fun t B3 H3 g3 ht => q t B3 H3 W2 (sw.trans (Sw.pure g3 sw.w sw.d)) (OwOk.mono g3.b p2) ht⟩
/-- the promise of a def that changes the object handed in first -/
def spM {S τ γ : Type} [RpL τ] [Rp γ] (K : Fg) (Pb : Addr → Ow S) (f : S → τ → Option (γ × S)) : Sp := fun vs H Q _ => ∃ a us W B s t r s', vs = .ref a :: us ∧ Ex B H ∧ Ex W H ∧ Dj W B ∧ Pb a W B s ∧ rpl K B us t ∧ f s t = some (r, s') ∧
  ∀ v W' B' H', Sw W B H W' B' H' → Pb a W' B' s' → rp K B' v r → Q v H'
theorem cs_callM [RpL τ] [Rp γ] {Pb : Addr → Ow S} {a : Addr} {get : S' → S} {put : S' → S → S'} {f : S → τ → Option (γ × S)} {i : Nat} {m : S' → Option (τ × S')} {E : XK} (l : Ln P' (Pb a) get put) (hs : σ[i]? = some (some (.ref a))) (ha : Csa K P' tas σ B m) :
    Cs K P' (tCall (spM K Pb f) [] E (tCons (tVar i) tas)) σ B (fun s => (m s).bind fun p => (f (get p.2) p.1).bind fun q => some (q.1, put p.2 q.2)) := fun B1 H1 W s b e w d p z s' em Q q => by
  obtain ⟨⟨x, s1⟩, e1, em⟩ := bd_some em
  obtain ⟨⟨y, s2⟩, e2, em⟩ := bd_some em
  cases em
  refine ⟨.ref a, hs, ?_⟩
  refine ha B1 H1 W s b e w d p x s1 e1 _ fun vs B2 H2 W2 sw p2 hv => ?_
  obtain ⟨V1, V2, hV, dV, q1, back⟩ := l.open_ W2 B2 s1 p2
  subst hV
  refine ⟨a, vs, V1, B2, get s1, x, _, s2, (by rw [List.append_nil]), sw.g.e, fun c o h => sw.w c o (uni_l h), dj_l sw.d, q1, hv, e2, fun v W' B3 H3 y p3 hr => ?_⟩
  have w2 : Ex V2 H2 := fun c o h => sw.w c o (by rw [uni_r (dV.symm c (nn h))]; exact h)
  obtain ⟨y2, dj⟩ := y.beside w2 dV (dj_r dV sw.d)
  exact q v B3 H3 (uni W' V2) (sw.trans y2) (back W' B3 s2 y.g.b dj p3) hr
/-! tests -/
theorem cst_test {m : S → Option (Bool × S)} (h : Cs K P te σ B m) : Cst P (tTest te) σ B m := fun B1 H1 W s b e w d p x s' em Q q => h B1 H1 W s b e w d p x s' em _ fun v B2 H2 W2 sw p2 hv => ⟨x, hv, q B2 H2 W2 sw p2⟩
theorem cst_B {m : S → Option (Bool × S)} (h : Cs K P te σ B m) : Cst P (tB te) σ B m := fun B1 H1 W s b e w d p x s' em Q q => h B1 H1 W s b e w d p x s' em _ fun v B2 H2 W2 sw p2 hv => ⟨x, hv, q B2 H2 W2 sw p2⟩
theorem cst_not {m : S → Option (Bool × S)} (h : Cst P tt σ B m) : Cst P (tNot tt) σ B (fun s => (m s).bind fun p => some (!p.1, p.2)) := fun B1 H1 W s b e w d p x s' em Q q => by
  obtain ⟨⟨y, s1⟩, e1, em⟩ := bd_some em
  cases em
  exact h B1 H1 W s b e w d p y _ e1 _ fun B2 H2 W2 sw p2 => q B2 H2 W2 sw p2
theorem cst_and {m1 m2 : S → Option (Bool × S)} (h1 : Cst P tt σ B m1) (h2 : Cst P tu σ B m2) : Cst P (tAnd tt tu) σ B (fun s => (m1 s).bind fun p => if p.1 = true then m2 p.2 else some (false, p.2)) := fun B1 H1 W s b e w d p z s' em Q q => by
  obtain ⟨⟨a, s1⟩, e1, em⟩ := bd_some em
  refine h1 B1 H1 W s b e w d p a s1 e1 _ fun B2 H2 W2 sw p2 => ?_
  cases a with
  | true => exact h2 B2 H2 W2 s1 (b.trans sw.g.b) sw.g.e sw.w sw.d p2 z s' em Q fun B3 H3 W3 sw3 p3 => q B3 H3 W3 (sw.trans sw3) p3
  | false =>
    cases em
    exact q B2 H2 W2 sw p2
theorem cst_or {m1 m2 : S → Option (Bool × S)} (h1 : Cst P tt σ B m1) (h2 : Cst P tu σ B m2) : Cst P (tOr tt tu) σ B (fun s => (m1 s).bind fun p => if p.1 = true then some (true, p.2) else m2 p.2) := fun B1 H1 W s b e w d p z s' em Q q => by
  obtain ⟨⟨a, s1⟩, e1, em⟩ := bd_some em
  refine h1 B1 H1 W s b e w d p a s1 e1 _ fun B2 H2 W2 sw p2 => ?_
  cases a with
  | false => exact h2 B2 H2 W2 s1 (b.trans sw.g.b) sw.g.e sw.w sw.d p2 z s' em Q fun B3 H3 W3 sw3 p3 => q B3 H3 W3 (sw.trans sw3) p3
  | true =>
    cases em
    exact q B2 H2 W2 sw p2
/-! ### one's own lists -/
/-- a list at p that is one's own -/
def OwL {α : Type} [Rp α] (K : Fg) (p : Addr) : Ow (List α) := fun W B xs => ∃ vs, W = sing p (.lst vs) ∧ Paired (rp K B) vs xs
instance {α : Type} [Rp α] {K : Fg} {p : Addr} : OwOk (OwL (α := α) K p) := ⟨fun e ⟨vs, h, r⟩ => ⟨vs, h, pr_mono e r⟩, fun {W B s a o} ⟨vs, h, r⟩ e => by
  subst h
  have := sing_dom (nn e)
  subst this
  rw [sing_at] at e
  cases e
  rfl⟩
theorem upd_sing {p : Addr} {o o' : HO} : upd (sing p o) p o' = sing p o' := upd_upd
theorem sw_sing {p : Addr} {o o' : HO} (e : Ex B H) (w : Ex (sing p o) H) (d : Dj (sing p o) B) : Sw (sing p o) B H (sing p o') B (upd H p o') :=
  have hp : sing p o p ≠ none := by rw [sing_at]; exact fun z => nomatch z
  ⟨Gr.mut e hp (d p hp) (w.nn hp), fun a u h => by
    have := sing_dom (nn h)
    subst this
    rw [sing_at] at h
    rw [upd_same]
    exact h, fun a h => by
    have := sing_dom h
    subst this
    exact d a hp, fun a h => by
    have := sing_dom h
    subst this
    exact .inl hp⟩
/-- xs.append(e): the list's room is part of the mirror -/
def papp {α : Type} (xs : List α) (x : α) : Option (List α) := if xs.length < 1000000 then some (xs ++ [x]) else none
theorem cs_append [Rp α] {a : Addr} {get : S' → List α} {put : S' → List α → S'} {i : Nat} {m : S' → Option (α × S')} (l : Ln P' (OwL K a) get put) (hs : σ[i]? = some (some (.ref a))) (he : Cs K P' te σ B m) :
    Cs K P' (tBM K "list" rAppend (tVar i) (tCons te tNil)) σ B (fun s => (m s).bind fun p => (papp (get p.2) p.1).bind fun q => some ((), put p.2 q)) := fun B1 H1 W s b e w d p z s' em Q q => by
  obtain ⟨⟨x, s1⟩, e1, em⟩ := bd_some em
  obtain ⟨ys, e2, em⟩ := bd_some em
  cases em
  obtain ⟨hl, e2⟩ := if_some e2
  subst e2
  replace hl : (get s1).length < 1000000 := hl
  refine ⟨.ref a, hs, ?_, ?_⟩
  · obtain ⟨V1, V2, hV, dV, ⟨vs, hv, _⟩, _⟩ := l.open_ W B1 s p
    subst hV hv
    exact .inl ⟨rfl, vs, .inl (.inl (w a _ (uni_l sing_at)))⟩
  refine he B1 H1 W s b e w d p x s1 e1 _ fun v B2 H2 W2 sw p2 hv => ?_
  obtain ⟨V1, V2, hV, dV, ⟨vs, hvs, pr⟩, back⟩ := l.open_ W2 B2 s1 p2
  subst hV hvs
  have w2 : Ex V2 H2 := fun c o h => sw.w c o (by rw [uni_r (dV.symm c (nn h))]; exact h)
  have y := sw_sing (o' := .lst (vs ++ [v])) sw.g.e (fun c o h => sw.w c o (uni_l h)) (dj_l sw.d)
  obtain ⟨y2, dj⟩ := y.beside w2 dV (dj_r dV sw.d)
  have hlen := pr_len pr
  refine ⟨a, vs, v, rfl, rfl, sw.w a _ (uni_l sing_at), Nat.lt_of_lt_of_le (show vs.length < 1000000 by omega) (by decide), ?_⟩
  exact q .non B2 (upd H2 a (.lst (vs ++ [v]))) _ (sw.trans y2) (back _ B2 _ (Ex.refl B2) dj ⟨vs ++ [v], rfl, pr_app pr (.cons hv .nil)⟩) rfl
/-! ### the law's box of digits -/
/-- a list of a list of ints and a place in it: what is left of the ints -/
def OwBox (K : Fg) (b : Addr) : Ow (List Int) := fun W B rest => ∃ (u : V) (ds : List Int) (k : Nat), W = sing b (.lst [u, .int k]) ∧ rp K B u ds ∧ rest = ds.drop k
instance {K : Fg} {p : Addr} : OwOk (OwBox K p) := ⟨fun e ⟨u, ds, k, h, r, z⟩ => ⟨u, ds, k, h, Rp.mono e r, z⟩, fun {W B s a o} ⟨u, ds, k, h, r, z⟩ e => by
  subst h
  have := sing_dom (nn e)
  subst this
  rw [sing_at] at e
  cases e
  rfl⟩
/-- a draw -/
def draw : List Int → Int × Unit → Option (Int × List Int)
  | [], _ => some (0, [])
  | d :: r, n => (pmod d n.1).bind fun x => some (x, r)
end
/-! ### statements that change one's own -/
section
variable {K : Fg} {M : Ms} {Bs Hs W : Hp} {σ : L2.St} {B H B' H' : Hp} {te ta tb tc : TE} {tt tu : TT} {tas : TA} {α β γ τ ρ S S' S1 S2 Z R : Type} {P : Ow S} {s : S} {D : Ends} {t u ts : TS} {g : TG}
theorem st_asgS [Rp α] {m : S → Option (α × S)} {m' : Option (α × S)} {k : α × S → Option ρ} {r : ρ} {i : Nat} (hm : m'.bind k = some r) (N : Now M Bs Hs P W B H s) (hc : Cs K P te σ B m) (he : m s = m')
    (q : ∀ x s1 v W1 B1 H1, k (x, s1) = some r → Now M Bs Hs P W1 B1 H1 s1 → Ex B B1 → rp K B1 v x → D.nx (σ.set i (some v)) H1) : tAsg te (gName i) D σ H := by
  subst he
  obtain ⟨⟨x, s1⟩, e1, e2⟩ := bd_some hm
  exact hc B H W s (Ex.refl B) N.ex N.w N.d N.p x s1 e1 _ fun v B1 H1 W1 sw p hv => q x s1 v W1 B1 H1 e2 (N.step sw p) sw.g.b hv
theorem st_dropS [Rp α] {m : S → Option (α × S)} {m' : Option (α × S)} {k : α × S → Option ρ} {r : ρ} (hm : m'.bind k = some r) (N : Now M Bs Hs P W B H s) (hc : Cs K P te σ B m) (he : m s = m')
    (q : ∀ x s1 W1 B1 H1, k (x, s1) = some r → Now M Bs Hs P W1 B1 H1 s1 → Ex B B1 → D.nx σ H1) : tDrop te D σ H := by
  subst he
  obtain ⟨⟨x, s1⟩, e1, e2⟩ := bd_some hm
  exact hc B H W s (Ex.refl B) N.ex N.w N.d N.p x s1 e1 _ fun v B1 H1 W1 sw p hv => q x s1 W1 B1 H1 e2 (N.step sw p) sw.g.b
theorem st_retS [Rp α] {m : S → Option (α × S)} {m' : Option (α × S)} {k : α × S → Option ρ} {r : ρ} (hm : m'.bind k = some r) (N : Now M Bs Hs P W B H s) (hc : Cs K P te σ B m) (he : m s = m')
    (q : ∀ x s1 v W1 B1 H1, k (x, s1) = some r → Now M Bs Hs P W1 B1 H1 s1 → Ex B B1 → rp K B1 v x → D.rt v H1) : tRet te D σ H := by
  subst he
  obtain ⟨⟨x, s1⟩, e1, e2⟩ := bd_some hm
  exact hc B H W s (Ex.refl B) N.ex N.w N.d N.p x s1 e1 _ fun v B1 H1 W1 sw p hv => q x s1 v W1 B1 H1 e2 (N.step sw p) sw.g.b hv
theorem st_ifS {m : S → Option (Bool × S)} {m' : Option (Bool × S)} {A A' : Bool × S → Option ρ} {r : ρ} (hm : (m'.bind fun b => if b.1 = true then A b else A' b) = some r) (N : Now M Bs Hs P W B H s) (hc : Cst P tt σ B m) (he : m s = m')
    (h1 : ∀ s1 W1 B1 H1, m' = some (true, s1) → A (true, s1) = some r → Now M Bs Hs P W1 B1 H1 s1 → Ex B B1 → t D σ H1) (h2 : ∀ s1 W1 B1 H1, m' = some (false, s1) → A' (false, s1) = some r → Now M Bs Hs P W1 B1 H1 s1 → Ex B B1 → u D σ H1) : tIfS tt t u D σ H := by
  subst he
  obtain ⟨⟨b, s1⟩, e1, e2⟩ := bd_some hm
  refine hc B H W s (Ex.refl B) N.ex N.w N.d N.p b s1 e1 _ fun B1 H1 W1 sw p => ?_
  cases b with
  | true => exact h1 s1 W1 B1 H1 e1 e2 (N.step sw p) sw.g.b
  | false => exact h2 s1 W1 B1 H1 e1 e2 (N.step sw p) sw.g.b
theorem st_ifJS {m : S → Option (Bool × S)} {m' : Option (Bool × S)} {A A' : Bool × S → Option Z} {k : Z → Option ρ} {r : ρ} (hm : ((m'.bind fun b => if b.1 = true then A b else A' b).bind k) = some r) (J : Z → L2.St → Hp → Prop) (N : Now M Bs Hs P W B H s) (hc : Cst P tt σ B m) (he : m s = m')
    (h1 : ∀ z s1 W1 B1 H1 (Nx : L2.St → Hp → Prop), m' = some (true, s1) → A (true, s1) = some z → Now M Bs Hs P W1 B1 H1 s1 → Ex B B1 → (∀ σ' H', J z σ' H' → Nx σ' H') → t { D with nx := Nx } σ H1)
    (h2 : ∀ z s1 W1 B1 H1 (Nx : L2.St → Hp → Prop), m' = some (false, s1) → A' (false, s1) = some z → Now M Bs Hs P W1 B1 H1 s1 → Ex B B1 → (∀ σ' H', J z σ' H' → Nx σ' H') → u { D with nx := Nx } σ H1)
    (q : ∀ z σ' H', k z = some r → J z σ' H' → D.nx σ' H') : tIfS tt t u D σ H := by
  subst he
  obtain ⟨z, e0, e3⟩ := bd_some hm
  obtain ⟨⟨b, s1⟩, e1, e2⟩ := bd_some e0
  refine hc B H W s (Ex.refl B) N.ex N.w N.d N.p b s1 e1 _ fun B1 H1 W1 sw p => ?_
  cases b with
  | true => exact h1 z s1 W1 B1 H1 D.nx e1 e2 (N.step sw p) sw.g.b fun σ' H' j => q z σ' H' e3 j
  | false => exact h2 z s1 W1 B1 H1 D.nx e1 e2 (N.step sw p) sw.g.b fun σ' H' j => q z σ' H' e3 j
/-- a new list of one's own: x = [..] -/
theorem st_asgL [Rp α] {m : S → Option (List α × S)} {m' : Option (List α × S)} {k : List α × S → Option ρ} {r : ρ} {i : Nat} (hm : m'.bind k = some r) (N : Now M Bs Hs P W B H s) (hc : Cso K P te σ B m) (he : m s = m')
    (q : ∀ xs s1 p W1 B1 H1, k (xs, s1) = some r → Now M Bs Hs (star P (OwL K p)) W1 B1 H1 (s1, xs) → Ex B B1 → Hs p = none → D.nx (σ.set i (some (.ref p))) H1) : tAsg te (gName i) D σ H := by
  subst he
  obtain ⟨⟨xs, s1⟩, e1, e2⟩ := bd_some hm
  refine hc B H W s (Ex.refl B) N.ex N.w N.d N.p xs s1 e1 _ fun p vs B1 H1 W1 sw p1 f n nw hp pr => ?_
  have N1 := N.step sw p1
  have fp : Hs p = none := N.g.fresh f
  refine q xs s1 p (uni W1 (sing p (.lst vs))) B1 H1 e2 ⟨N1.g, ex_uni N1.w fun a o h => ?_, fun a h => ?_, ⟨W1, sing p (.lst vs), rfl, fun a h => ?_, p1, ⟨vs, rfl, pr⟩⟩, fun a h => ?_⟩ sw.g.b fp
  · have := sing_dom (nn h)
    subst this
    rw [sing_at] at h
    cases h
    exact hp
  · rcases uni_dom h with z | z
    · exact N1.d a z
    · have := sing_dom z
      subst this
      exact n
  · by_cases ea : a = p
    · subst ea
      exact absurd nw h
    · exact sing_ne ea
  · rcases uni_dom h with z | z
    · exact N1.f a z
    · have := sing_dom z
      subst this
      exact .inr fp
/-- what is no longer needed is dropped -/
theorem Now.drop {S' : Type} {R : Ow S'} {x : S × S'} (N : Now M Bs Hs (star P R) W B H x) : ∃ W1, Now M Bs Hs P W1 B H x.1 := by
  obtain ⟨W1, W2, h, d, p, r⟩ := N.p
  subst h
  exact ⟨W1, N.g, fun a o h => N.w a o (uni_l h), dj_l N.d, p, fun a h => N.f a (uni_dom_l h)⟩
/-- a list of one's own is known from now on -/
theorem Now.freeze [Rp α] {p : Addr} {x : S × List α} [OwOk P] (N : Now M Bs Hs (star P (OwL K p)) W B H x) (fp : Hs p = none) : ∃ W1 B1, Now M Bs Hs P W1 B1 H x.1 ∧ Ex B B1 ∧ rp K B1 (.ref p) x.2 := by
  obtain ⟨W1, W2, h, d, p1, ⟨vs, hv, pr⟩⟩ := N.p
  subst h hv
  have hp : H p = some (.lst vs) := N.w p _ (by rw [uni_r (d.symm p (nn sing_at))]; exact sing_at)
  have nb : B p = none := dj_r d N.d p (nn sing_at)
  refine ⟨W1, upd B p (.lst vs), ⟨N.g.freeze hp fp nb, fun a o h => N.w a o (uni_l h), fun a h => ?_, OwOk.mono (Ex.new nb) p1, fun a h => N.f a (uni_dom_l h)⟩, Ex.new nb, p, vs, rfl, upd_same, pr_mono (Ex.new nb) pr⟩
  have : a ≠ p := fun z => by
    subst z
    exact h (d.symm a (nn sing_at))
  rw [upd_ne this]
  exact dj_l N.d a h
end
end Cf

set_option Elab.async false
set_option linter.all false
set_option maxRecDepth 100000
set_option maxHeartbeats 4000000
namespace Cf
open PySem L2
open Rp (rp)
open RpL (rpl)
open Enc (enc)
/-! ### values without lists or objects in them -/
/-- B' holds the tuples of B -/
def ExT (B B' : Hp) : Prop := ∀ a o, B a = some o → plainO o = false → B' a = some o
class Flat (α : Type) [Rp α] : Prop where
  flat : ∀ {K : Fg} {B B' : Hp} {v : V} {x : α}, ExT B B' → rp K B v x → rp K B' v x
theorem sqt_flat {K : Fg} {B B' : Hp} {a : Addr} {xs : List V} (e : ExT B B') (h : SqT K B a xs) : SqT K B' a xs := by
  rcases h with (h | ⟨o, h⟩) | h
  · exact .inl (.inl (e _ _ h rfl))
  · exact .inl (.inr ⟨o, e _ _ h rfl⟩)
  · exact .inr h
instance : Flat Int := ⟨fun _ h => h⟩
instance : Flat Bool := ⟨fun _ h => h⟩
instance : Flat Str := ⟨fun _ h => h⟩
instance : Flat Unit := ⟨fun _ h => h⟩
instance {α : Type} [Rp α] [Flat α] : Flat (Option α) := ⟨fun {K B B' v x} e h => by
  cases x with
  | none => exact h
  | some y => exact Flat.flat (α := α) e h⟩
instance {α β : Type} [Rp α] [Rp β] [Flat α] [Flat β] : Flat (α × β) := ⟨fun e ⟨a, u, w, h, s, p, q⟩ => ⟨a, u, w, h, sqt_flat e s, Flat.flat e p, Flat.flat e q⟩⟩
instance {α β γ : Type} [Rp α] [Rp β] [Rp γ] [Flat α] [Flat β] [Flat γ] : Flat (T3 α β γ) := ⟨fun e ⟨a, u1, u2, u3, h, s, p1, p2, p3⟩ => ⟨a, u1, u2, u3, h, sqt_flat e s, Flat.flat e p1, Flat.flat e p2, Flat.flat e p3⟩⟩
instance {α β γ δ : Type} [Rp α] [Rp β] [Rp γ] [Rp δ] [Flat α] [Flat β] [Flat γ] [Flat δ] : Flat (T4 α β γ δ) := ⟨fun e ⟨a, u1, u2, u3, u4, h, s, p1, p2, p3, p4⟩ => ⟨a, u1, u2, u3, u4, h, sqt_flat e s, Flat.flat e p1, Flat.flat e p2, Flat.flat e p3, Flat.flat e p4⟩⟩
theorem pr_flat {α : Type} [Rp α] [Flat α] {K : Fg} {B B' : Hp} (e : ExT B B') : ∀ {vs : List V} {xs : List α}, Paired (rp K B) vs xs → Paired (rp K B') vs xs
  | _, _, .nil => .nil
  | _, _, .cons r t => .cons (Flat.flat e r) (pr_flat e t)
/-- B without W's places -/
def less (B W : Hp) : Hp := fun a => match W a with
  | some _ => none
  | none => B a
theorem less_ex {B W : Hp} : Ex (less B W) B := fun a o h => by
  unfold less at h
  split at h
  · cases h
  · exact h
theorem less_in {B W : Hp} {a : Addr} (h : W a = none) : less B W a = B a := by
  unfold less
  rw [h]
theorem less_out {B W : Hp} {a : Addr} (h : W a ≠ none) : less B W a = none := by
  obtain ⟨o, q⟩ := nn_ex h
  unfold less
  rw [q]
section
variable {K : Fg} {σ : L2.St} {B H B' H' : Hp} {te ta tb tc : TE} {tt tu : TT} {tas : TA} {α β γ τ ρ S S' S1 S2 : Type} {P : Ow S} {P' : Ow S'} {R : Ow S1}
theorem view_back {W B1 H1 B2 H2 : Hp} {s : S} [OwOk P] (e : Ex B1 H1) (w : Ex W H1) (d : Dj W B1) (p : P W B1 s) (g : Gr noM (uni W B1) H1 B2 H2) : Sw W B1 H1 W (less B2 W) H2 ∧ P W (less B2 W) s ∧ ExT B2 (less B2 W) := by
  have eb : Ex B1 (less B2 W) := fun a o h => by
    have n : W a = none := by
      cases q : W a with
      | none => rfl
      | some o' =>
        have := d a (nn q)
        rw [h] at this
        cases this
    rw [less_in n]
    exact g.b a o (by rw [uni_r n]; exact h)
  refine ⟨⟨⟨e, eb, fun a o m h => g.exH a o h, less_ex.trans g.e, fun a h n => ?_, g.k⟩, w.trans g.exH, fun a h => less_out h, fun a h => .inl h⟩, OwOk.mono eb p, fun a o h hp => ?_⟩
  · cases q : W a with
    | some o => exact less_out (nn q)
    | none =>
      rw [less_in q]
      exact g.n a h (by rw [uni_r q]; exact n)
  · cases q : W a with
    | none =>
      rw [less_in q]
      exact h
    | some o' =>
      have := OwOk.nt p q
      have h2 : B2 a = some o' := g.b a o' (uni_l q)
      rw [h] at h2
      cases h2
      rw [hp] at this
      cases this
/-- what reads one's own and changes nothing -/
theorem cs_view [Rp α] [Flat α] [OwOk P] {m : S → Option α} (h : ∀ W1 B1 s, Ex B B1 → Dj W1 B1 → P W1 B1 s → Cp K te σ (uni W1 B1) (m s)) : Cs K P te σ B (fun s => (m s).bind fun x => some (x, s)) := fun B1 H1 W s b e w d p x s' em Q q => by
  obtain ⟨y, e1, e2⟩ := bd_some em
  cases e2
  refine h W B1 s b d p _ H1 (Ex.refl _) (ex_uni w e) x e1 Q fun v B2 H2 g hv => ?_
  obtain ⟨sw, p2, et⟩ := view_back e w d p g
  exact q v _ H2 W sw p2 (Flat.flat et hv)
theorem cst_view [OwOk P] {m : S → Option Bool} (h : ∀ W1 B1 s, Ex B B1 → Dj W1 B1 → P W1 B1 s → Ct tt σ (uni W1 B1) (m s)) : Cst P tt σ B (fun s => (m s).bind fun x => some (x, s)) := fun B1 H1 W s b e w d p x s' em Q q => by
  obtain ⟨y, e1, e2⟩ := bd_some em
  cases e2
  refine h W B1 s b d p _ H1 (Ex.refl _) (ex_uni w e) x e1 Q fun B2 H2 g => ?_
  obtain ⟨sw, p2, et⟩ := view_back e w d p g
  exact q _ H2 W sw p2
theorem cso_view [Rp α] [Flat α] [OwOk P] {m : S → Option (List α)} (h : ∀ W1 B1 s, Ex B B1 → Dj W1 B1 → P W1 B1 s → Co K te σ (uni W1 B1) (m s)) : Cso K P te σ B (fun s => (m s).bind fun x => some (x, s)) := fun B1 H1 W s b e w d p x s' em Q q => by
  obtain ⟨y, e1, e2⟩ := bd_some em
  cases e2
  refine h W B1 s b d p _ H1 (Ex.refl _) (ex_uni w e) x e1 Q fun a vs B2 H2 g f n hp pr => ?_
  obtain ⟨sw, p2, et⟩ := view_back e w d p g
  have hw : W a = none := by
    cases hh : W a with
    | none => rfl
    | some o =>
      rw [w a o hh] at f
      cases f
  exact q a vs _ H2 W sw p2 f (by rw [less_in hw]; exact n) hw hp (pr_flat et pr)
/-- a list of one's own, seen as known -/
theorem ol_rp [Rp α] {a : Addr} {get : S → List α} {put : S → List α → S} {W : Hp} {s : S} (l : Ln P (OwL K a) get put) (p : P W B s) (d : Dj W B) : rp K (uni W B) (.ref a) (get s) := by
  obtain ⟨V1, V2, hV, dV, ⟨vs, hv, pr⟩, _⟩ := l.open_ W B s p
  subst hV hv
  exact ⟨a, vs, rfl, uni_l (uni_l sing_at), pr_mono (ex_uni_r d) pr⟩
/-! ### new lists -/
theorem co_nil [Rp α] : Co K (tLst tNil) σ B (some ([] : List α)) := fun B1 H1 b e xs em Q q => by
  cases em
  refine ⟨by show 0 ≤ sizeLine; decide, fun p hp => ?_⟩
  exact q p [] B1 _ (Gr.newM e hp) hp (e.none hp) upd_same .nil
/-- items of one kind -/
inductive Cl {α : Type} [Rp α] (K : Fg) (σ : L2.St) (B : Hp) : TA → Option (List α) → Prop where
  | nil : Cl K σ B tNil (some [])
  | cons {ta : TE} {tas : TA} {m1 : Option α} {m2 : Option (List α)} : Cp K ta σ B m1 → Cl K σ B tas m2 → Cl K σ B (tCons ta tas) (o2 m1 m2 fun x y => some (x :: y))
theorem Cl.run [Rp α] {ta : TA} {m : Option (List α)} (h : Cl K σ B ta m) : ∀ B1 H1, Ex B B1 → Ex B1 H1 → ∀ xs, m = some xs → ∀ Q : List V → Hp → Prop, (∀ vs B2 H2, Gr noM B1 H1 B2 H2 → Paired (rp K B2) vs xs → Q vs H2) → ta σ H1 Q := by
  induction h with
  | nil =>
    intro B1 H1 b e xs em Q q
    cases em
    exact q [] B1 H1 (Gr.refl e) .nil
  | cons h1 h2 ih =>
    intro B1 H1 b e xs em Q q
    obtain ⟨x, y, e1, e2, e3⟩ := o2_some em
    cases e3
    refine h1 B1 H1 b e x e1 _ fun v B2 H2 g2 hv => ?_
    refine ih B2 H2 (b.trans g2.b) g2.e y e2 _ fun vs B3 H3 g3 hp => ?_
    exact q (v :: vs) B3 H3 (g2.trans g3) (.cons (Rp.mono g3.b hv) hp)
def plst {α : Type} (xs : List α) : Option (List α) := if xs.length < 1000000 then some xs else none
theorem co_lst [Rp α] {ta : TA} {m : Option (List α)} (h : Cl K σ B ta m) : Co K (tLst ta) σ B (m.bind plst) := fun B1 H1 b e xs em Q q => by
  obtain ⟨ys, e1, e2⟩ := bd_some em
  obtain ⟨hl, e2⟩ := if_some e2
  subst e2
  refine h.run B1 H1 b e ys e1 _ fun vs B2 H2 g2 hp => ⟨?_, fun p np => ?_⟩
  · have := pr_len hp
    exact Nat.le_trans (show vs.length ≤ 1000000 by omega) (by decide)
  · exact q p vs B2 _ (g2.trans (Gr.newM g2.e np)) (g2.fresh np) (g2.e.none np) upd_same hp
/-- slices -/
def cut {α : Type} (xs : List α) (lo hi : Option Int) : List α := (xs.drop (HT.sIx xs.length 0 lo)).take (HT.sIx xs.length xs.length hi - HT.sIx xs.length 0 lo)
def Cpo (to : TO) (σ : L2.St) (B : Hp) (m : Option (Option Int)) : Prop := ∀ B1 H1, Ex B B1 → Ex B1 H1 → ∀ x, m = some x → ∀ Q : Option Int → Hp → Prop, (∀ B2 H2, Gr noM B1 H1 B2 H2 → Q x H2) → to σ H1 Q
theorem cpo_none : Cpo tNoPart σ B (some none) := fun B1 H1 b e x em Q q => by
  cases em
  exact q B1 H1 (Gr.refl e)
theorem cpo_some {m : Option Int} (h : Cp K te σ B m) : Cpo (tPart te) σ B (m.bind fun x => some (some x)) := fun B1 H1 b e x em Q q => by
  obtain ⟨y, e1, e2⟩ := bd_some em
  cases e2
  refine h B1 H1 b e y e1 _ fun v B2 H2 g2 hv => ⟨y, hv, q B2 H2 g2⟩
theorem co_slice [Rp α] {tl th : TO} {m : Option (List α)} {m1 m2 : Option (Option Int)} (h : Cp K te σ B m) (h1 : Cpo tl σ B m1) (h2 : Cpo th σ B m2) : Co K (tSl (rSlL K) te tl th) σ B (m.bind fun xs => m1.bind fun lo => m2.bind fun hi => some (cut xs lo hi)) := fun B1 H1 b e ys em Q q => by
  obtain ⟨xs, e1, em⟩ := bd_some em
  obtain ⟨lo, e2, em⟩ := bd_some em
  obtain ⟨hi, e3, em⟩ := bd_some em
  cases em
  refine h B1 H1 b e xs e1 _ fun v B2 H2 g2 hv => ?_
  refine h1 B2 H2 (b.trans g2.b) g2.e lo e2 _ fun B3 H3 g3 => ?_
  refine h2 B3 H3 (b.trans (g2.trans g3).b) g3.e hi e3 _ fun B4 H4 g4 => ?_
  obtain ⟨a, vs, rfl, hs, hp⟩ := hv
  refine ⟨a, vs, rfl, sq_lst (g4.e _ _ ((g3.trans g4).b _ _ hs)), fun p np => ?_⟩
  have G := (g2.trans g3).trans g4
  refine q p _ B4 _ (G.trans (Gr.newM g4.e np)) (G.fresh np) (g4.e.none np) upd_same ?_
  unfold cutV cut
  rw [pr_len hp]
  exact pr_mono (g3.trans g4).b (pr_take _ (pr_drop _ hp))
theorem co_cat [Rp α] {m1 m2 : Option (List α)} (h1 : Cp K ta σ B m1) (h2 : Cp K tb σ B m2) : Co K (tOp rCat ta tb) σ B (m1.bind fun x => m2.bind fun y => plst (x ++ y)) := fun B1 H1 b e zs em Q q => by
  obtain ⟨xs, e1, em⟩ := bd_some em
  obtain ⟨ys, e2, em⟩ := bd_some em
  obtain ⟨hl, em⟩ := if_some em
  subst em
  refine h1 B1 H1 b e xs e1 _ fun v B2 H2 g2 hv => ?_
  refine h2 B2 H2 (b.trans g2.b) g2.e ys e2 _ fun u B3 H3 g3 hu => ?_
  obtain ⟨a, vs, rfl, ha, pa⟩ := hv
  obtain ⟨c, us, rfl, hc, pc⟩ := hu
  have l1 := pr_len pa
  have l2 := pr_len pc
  rw [List.length_append] at hl
  refine ⟨a, c, vs, us, rfl, rfl, g3.e _ _ (g3.b _ _ ha), g3.e _ _ hc, Nat.le_trans (show vs.length + us.length ≤ 1000000 by omega) (by decide), fun p np => ?_⟩
  have G := g2.trans g3
  exact q p _ B3 _ (G.trans (Gr.newM g3.e np)) (G.fresh np) (g3.e.none np) upd_same (pr_app (pr_mono g3.b pa) pc)
/-! ### comprehensions -/
def lcF {α β : Type} (t : α → Option Bool) (f : α → Option β) : List α → Option (List β)
  | [] => some []
  | x :: xs => (t x).bind fun b => if b = true then (f x).bind fun y => (lcF t f xs).bind fun ys => some (y :: ys) else lcF t f xs
def pbig {α : Type} (xs : List α) : Option (List α) := if xs.length < 1000000 then some xs else none
theorem lcF_len {t : α → Option Bool} {f : α → Option β} : ∀ {xs : List α} {ys : List β}, lcF t f xs = some ys → ys.length ≤ xs.length
  | [], ys, h => by cases h; exact Nat.le_refl _
  | x :: xs, ys, h => by
    obtain ⟨b, e1, h⟩ := bd_some (show ((t x).bind fun b => if b = true then (f x).bind fun y => (lcF t f xs).bind fun ys => some (y :: ys) else lcF t f xs) = some ys from h)
    cases b with
    | true =>
      obtain ⟨y, e2, h⟩ := bd_some h
      obtain ⟨zs, e3, h⟩ := bd_some h
      cases h
      have := lcF_len e3
      simp only [List.length_cons]
      omega
    | false =>
      have := lcF_len h
      simp only [List.length_cons]
      omega
/-- the loop of a comprehension, whatever it walks -/
theorem lc_run {J : It} {xs : List α} [Rp α] [Rp β] {t : α → Option Bool} {f : α → Option β} {ys : List β} {g : TG} {vs : List Nat} {B1 H1 : Hp} {Q : VK} (hl : xs.length < 1000000)
    (hgo : ∀ i B H, Ex B1 B → Ex B H → i < xs.length → J.go i H) (hst : ∀ i B H, Ex B1 B → Ex B H → xs.length ≤ i → J.stop i H)
    (hy : ∀ i x B H v H', Ex B1 B → Ex B H → xs[i]? = some x → J.yld i H v H' → ∃ B', Gr noM B H B' H' ∧ rp K B' v x)
    (hm : lcF t f xs = some ys) (e : Ex B1 H1)
    (hs : ∀ x B H v, Ex B1 B → Ex B H → rp K B v x → ∀ b, t x = some b → (b = true → ∃ y, f x = some y) →
      ∀ (Qy : VK) (Qn : Hp → Prop), (b = true → ∀ y, f x = some y → ∀ v2 B2 H2, Gr noM B H B2 H2 → rp K B2 v2 y → Qy v2 H2) → (b = false → ∀ B2 H2, Gr noM B H B2 H2 → Qn H2) →
      g v (wipe σ vs) H fun σ2 H2 => wipe σ2 vs = wipe σ vs ∧ tt σ2 H2 fun b H3 => if b = true then te σ2 H3 Qy else Qn H3)
    (hq : ∀ D us B2 H2, Gr noM B1 H1 B2 H2 → H1 D = none → B2 D = none → H2 D = some (.lst us) → Paired (rp K B2) us ys → Q (.ref D) H2) :
    ∀ D, H1 D = none → ∃ W : Nat → Nat → Hp → Prop, (∃ m, W 0 m (upd H1 D (.lst []))) ∧ ∀ i m H, W i m H → (J.stop i H ∧ Q (.ref D) H) ∨ (J.go i H ∧ ∃ Nx : Hp → Prop, (∀ H', Nx H' → ∃ m', m' < m ∧ W (i + 1) m' H') ∧
      ∀ x H', J.yld i H x H' → g x (wipe σ vs) H' fun σ2 H2 => wipe σ2 vs = wipe σ vs ∧ tt σ2 H2 fun b H3 => if b = true then te σ2 H3 fun y H4 => ∃ acc, H4 D = some (.lst acc) ∧ acc.length < sizeLine ∧ Nx (upd H4 D (.lst (acc ++ [y]))) else Nx H3) := by
  intro D nD
  refine ⟨fun i m H => m = xs.length - i ∧ i ≤ xs.length ∧ ∃ B us zs rs, Gr noM B1 H1 B H ∧ B D = none ∧ H D = some (.lst us) ∧ Paired (rp K B) us zs ∧ zs.length ≤ i ∧ lcF t f (xs.drop i) = some rs ∧ ys = zs ++ rs, ⟨_, rfl, Nat.zero_le _, B1, [], [], ys, Gr.newM e nD, e.none nD, upd_same, .nil, Nat.le_refl _, hm, rfl⟩, ?_⟩
  rintro i m H ⟨rfl, hi, B, us, zs, rs, G, nb, hD, pr, hz, hr, hys⟩
  by_cases hlt : i < xs.length
  · refine .inr ⟨hgo i B H G.b G.e hlt, fun H' => i + 1 ≤ xs.length ∧ ∃ B us zs rs, Gr noM B1 H1 B H' ∧ B D = none ∧ H' D = some (.lst us) ∧ Paired (rp K B) us zs ∧ zs.length ≤ i + 1 ∧ lcF t f (xs.drop (i + 1)) = some rs ∧ ys = zs ++ rs, fun H' h => ⟨xs.length - (i + 1), by omega, rfl, h.1, h.2⟩, fun v H' y => ?_⟩
    have hx : xs[i]? = some xs[i] := List.getElem?_eq_getElem hlt
    obtain ⟨B', g1, hv⟩ := hy i xs[i] B H v H' G.b G.e hx y
    have ed : xs.drop i = xs[i] :: xs.drop (i + 1) := List.drop_eq_getElem_cons hlt
    rw [ed] at hr
    obtain ⟨b, e1, hr⟩ := bd_some (show ((t xs[i]).bind fun b => if b = true then (f xs[i]).bind fun y => (lcF t f (xs.drop (i + 1))).bind fun ys => some (y :: ys) else lcF t f (xs.drop (i + 1))) = some rs from hr)
    have hex : b = true → ∃ y, f xs[i] = some y := fun eb => by
      subst eb
      obtain ⟨y1, e2, _⟩ := bd_some (show ((f xs[i]).bind fun y => (lcF t f (xs.drop (i + 1))).bind fun ys => some (y :: ys)) = some rs from hr)
      exact ⟨y1, e2⟩
    refine hs xs[i] B' H' v (G.b.trans g1.b) g1.e hv b e1 hex _ _ (fun eb y0 ey v2 B2 H2 g2 h2 => ?_) (fun eb B2 H2 g2 => ?_)
    · subst eb
      obtain ⟨y1, e2, hr⟩ := bd_some hr
      obtain ⟨rs', e3, hr⟩ := bd_some hr
      cases hr
      rw [ey] at e2
      cases e2
      have G2 := G.trans (g1.trans g2)
      have hD2 : H2 D = some (.lst us) := (g1.trans g2).exH D _ hD
      have nb2 : B2 D = none := (g1.trans g2).n D (nn hD) nb
      have hul := pr_len pr
      refine ⟨us, hD2, Nat.lt_of_lt_of_le (show us.length < 1000000 by omega) (by decide), hlt, B2, us ++ [v2], zs ++ [y0], rs', ?_, nb2, upd_same, pr_app (pr_mono (g1.trans g2).b pr) (.cons h2 .nil), ?_, e3, ?_⟩
      · refine ⟨G2.s, G2.b, fun a o m h => ?_, G2.e.mut nb2, G2.n, fun a h => ?_⟩
        · rw [upd_ne (ne_of_none h nD)]
          exact G2.h a o m h
        · by_cases ea : a = D
          · subst ea
            exact absurd nD h
          · rw [upd_ne ea]
            exact G2.k a h
      · simp only [List.length_append, List.length_cons, List.length_nil]
        omega
      · rw [hys, List.append_assoc]
        rfl
    · subst eb
      have G2 := G.trans (g1.trans g2)
      exact ⟨hlt, B2, us, zs, rs, G2, (g1.trans g2).n D (nn hD) nb, (g1.trans g2).exH D _ hD, pr_mono (g1.trans g2).b pr, Nat.le_trans hz (Nat.le_succ _), hr, hys⟩
  · have ed : xs.drop i = [] := List.drop_eq_nil_of_le (by omega)
    rw [ed] at hr
    cases hr
    rw [List.append_nil] at hys
    subst hys
    exact .inl ⟨hst i B H G.b G.e (by omega), hq D us B H G nD nb hD pr⟩
theorem tyes_ok {x : L2.St} {H : Hp} {Q : Bool → Hp → Prop} (h : Q true H) : tYes x H Q := h
/-- [f for x in a list if t] -/
theorem co_lcL [Rp α] [Rp β] {g : TG} {vs : List Nat} {mi : Option (List α)} {t : α → Option Bool} {f : α → Option β} (hc : Cp K ta σ B mi)
    (hs : ∀ x B1 v, Ex B B1 → rp K B1 v x → ∃ σ2, (∀ H (Q : L2.St → Hp → Prop), Ex B1 H → Q σ2 H → g v (wipe σ vs) H Q) ∧ wipe σ2 vs = wipe σ vs ∧ Ct tt σ2 B1 (t x) ∧ Cp K te σ2 B1 (f x)) :
    Co K (tLc (iList K ta) g tt te vs) σ B (mi.bind fun xs => (pbig xs).bind fun xs => lcF t f xs) := fun B1 H1 b e ys em Q q => by
  obtain ⟨xs, e1, em⟩ := bd_some em
  obtain ⟨xs', e2, em⟩ := bd_some em
  obtain ⟨hl, e2⟩ := if_some e2
  subst e2
  refine hc B1 H1 b e xs e1 _ fun v B2 H2 g2 hv => ?_
  obtain ⟨a, ws, rfl, hS, hp⟩ := hv
  have hlw := pr_len hp
  refine ⟨a, rfl, ⟨ws, sq_lst (g2.e _ _ hS)⟩, lc_run (K := K) (xs := xs) (B1 := B2) hl (fun i B H x1 x2 hi => itl_go (sq_lst ((x1.trans x2) _ _ hS)) (by omega)) (fun i B H x1 x2 hi => itl_stop (sq_lst ((x1.trans x2) _ _ hS)) (by omega))
    (fun i x B H v H' x1 x2 hxi y => ?_) em g2.e (fun x B H v x1 x2 hv bb tb hex Qy Qn hy hn => ?_) fun D us B3 H3 g3 f n hD pr => q D us B3 H3 (g2.trans g3) (g2.fresh f) n hD pr⟩
  · obtain ⟨eH, y⟩ := y
    subst eH
    obtain ⟨w, hw, hr⟩ := pr_get hp hxi
    have ew := y ws (sq_lst ((x1.trans x2) _ _ hS))
    rw [hw] at ew
    cases ew
    exact ⟨B, Gr.refl x2, Rp.mono x1 hr⟩
  · obtain ⟨σ2, hg, hw, ht, hf⟩ := hs x B v ((b.trans g2.b).trans x1) hv
    refine hg H _ x2 ⟨hw, ht B H (Ex.refl B) x2 _ tb _ fun B3 H3 g3 => ?_⟩
    cases bb with
    | true =>
      rw [if_pos rfl]
      obtain ⟨y, hfx⟩ := hex rfl
      exact hf B3 H3 g3.b g3.e y hfx _ fun v2 B4 H4 g4 h4 => hy rfl y hfx v2 B4 H4 (g3.trans g4) h4
    | false =>
      rw [if_neg Bool.false_ne_true]
      exact hn rfl B3 H3 g3
theorem ct_yes : Ct tYes σ B (some true) := fun B1 H1 b e x em Q q => by
  cases em
  exact q B1 H1 (Gr.refl e)
theorem co_lcR [Rp β] {g : TG} {vs : List Nat} {mi : Option Int} {t : Int → Option Bool} {f : Int → Option β} (hc : Cp K ta σ B mi)
    (hs : ∀ x B1 v, Ex B B1 → rp K B1 v x → ∃ σ2, (∀ H (Q : L2.St → Hp → Prop), Ex B1 H → Q σ2 H → g v (wipe σ vs) H Q) ∧ wipe σ2 vs = wipe σ vs ∧ Ct tt σ2 B1 (t x) ∧ Cp K te σ2 B1 (f x)) :
    Co K (tLc (iRng1 (tCons ta tNil)) g tt te vs) σ B (mi.bind fun n => (prange1 n).bind fun xs => (pbig xs).bind fun xs => lcF t f xs) := fun B1 H1 b e ys em Q q => by
  obtain ⟨n, e1, em⟩ := bd_some em
  obtain ⟨xs, e2, em⟩ := bd_some em
  obtain ⟨hb, e2⟩ := if_some e2
  subst e2
  obtain ⟨xs', e2, em⟩ := bd_some em
  obtain ⟨hl, e2⟩ := if_some e2
  subst e2
  refine hc B1 H1 b e n e1 _ fun v B2 H2 g2 hv => ?_
  cases (show v = .int n from hv)
  have hn := rangeL_len 0 n
  rw [Int.sub_zero] at hn
  refine ⟨n, rfl, (by omega), (by omega), lc_run (K := K) (xs := rangeL 0 n) (B1 := B2) hl (fun i B H x1 x2 hi => (by rw [hn] at hi; exact hi)) (fun i B H x1 x2 hi => (by rw [hn] at hi; exact hi))
    (fun i x B H v H' x1 x2 hxi y => ?_) em g2.e (fun x B H v x1 x2 hv bb tb hex Qy Qn hy hn => ?_) fun D us B3 H3 g3 f n hD pr => q D us B3 H3 (g2.trans g3) (g2.fresh f) n hD pr⟩
  · obtain ⟨eH, ev⟩ := itr_yld _ hxi y
    subst eH
    exact ⟨B, Gr.refl x2, ev⟩
  · obtain ⟨σ2, hg, hw, ht, hf⟩ := hs x B v ((b.trans g2.b).trans x1) hv
    refine hg H _ x2 ⟨hw, ht B H (Ex.refl B) x2 _ tb _ fun B3 H3 g3 => ?_⟩
    cases bb with
    | true =>
      rw [if_pos rfl]
      obtain ⟨y, hfx⟩ := hex rfl
      exact hf B3 H3 g3.b g3.e y hfx _ fun v2 B4 H4 g4 h4 => hy rfl y hfx v2 B4 H4 (g3.trans g4) h4
    | false =>
      rw [if_neg Bool.false_ne_true]
      exact hn rfl B3 H3 g3
end
end Cf

set_option Elab.async false
set_option linter.all false
set_option maxRecDepth 100000
set_option maxHeartbeats 4000000
namespace Cf
open PySem L2
open Rp (rp)
open RpL (rpl)
open Enc (enc)
/-! ### a part of one's own that becomes another -/
structure Lr {S' S : Type} (P' P'' : Ow S') (P Q : Ow S) (get : S' → S) (put : S' → S → S') : Prop where
  open_ : ∀ W B s', P' W B s' → ∃ W1 W2, W = uni W1 W2 ∧ Dj W1 W2 ∧ P W1 B (get s') ∧ ∀ W1' B' x, Ex B B' → Dj W1' W2 → Q W1' B' x → P'' (uni W1' W2) B' (put s' x)
section
variable {K : Fg} {σ : L2.St} {B H B' H' : Hp} {te ta tb tc : TE} {tt tu : TT} {tas : TA} {α β γ τ ρ S S' S1 S2 : Type} {P : Ow S} {P' : Ow S'} {R : Ow S1}
theorem lr_id {P Q : Ow S} : Lr P Q P Q (fun s => s) (fun _ x => x) := ⟨fun W B s p => ⟨W, emp, uni_emp.symm, fun a _ => rfl, p, fun W1' B' x _ _ q => by rw [uni_emp]; exact q⟩⟩
theorem lr_l {P Q : Ow S} [OwOk R] : Lr (star P R) (star Q R) P Q (fun s => s.1) (fun s x => (x, s.2)) := ⟨fun W B s ⟨W1, W2, h, d, p, r⟩ => ⟨W1, W2, h, d, p, fun W1' B' x e dj q => ⟨W1', W2, rfl, dj, q, OwOk.mono e r⟩⟩⟩
theorem lr_r {R Q : Ow S1} [OwOk P] : Lr (star P R) (star P Q) R Q (fun s => s.2) (fun s x => (s.1, x)) := ⟨fun W B s ⟨W1, W2, h, d, p, r⟩ => ⟨W2, W1, h.trans (uni_comm d), d.symm, r, fun W1' B' x e dj q => ⟨W1, W1', uni_comm dj, dj.symm, OwOk.mono e p, q⟩⟩⟩
theorem Lr.comp {P P3 : Ow S} {P1 P4 : Ow S1} {P2 P5 : Ow S2} {g1 : S → S1} {p1 : S → S1 → S} {g2 : S1 → S2} {p2 : S1 → S2 → S1} (l : Lr P P3 P1 P4 g1 p1) (m : Lr P1 P4 P2 P5 g2 p2) : Lr P P3 P2 P5 (fun s => g2 (g1 s)) (fun s x => p1 s (p2 (g1 s) x)) := ⟨fun W B s p => by
  obtain ⟨W1, W2, h, d, q, put⟩ := l.open_ W B s p
  obtain ⟨W3, W4, h', d', q', put'⟩ := m.open_ W1 B _ q
  subst h'
  refine ⟨W3, uni W4 W2, by rw [h, uni_assoc], fun a z => ?_, q', fun W1' B' x e dj px => ?_⟩
  · cases hh : uni W4 W2 a with
    | none => rfl
    | some o =>
      rcases uni_dom (nn hh) with y | y
      · exact absurd (d' a z) y
      · exact absurd (d a (uni_dom_l z)) y
  · have dj4 : Dj W1' W4 := fun a z => by
      cases hh : W4 a with
      | none => rfl
      | some o => exact absurd (dj a z) (uni_dom_l (nn hh))
    have dj2 : Dj W1' W2 := fun a z => by
      cases hh : W2 a with
      | none => rfl
      | some o =>
        have dw : Dj W4 W2 := dj_r d' d
        exact absurd (dj a z) (uni_dom_r dw (nn hh))
    rw [← uni_assoc]
    exact put _ _ _ e (dj_uni dj2 (dj_r d' d)) (put' _ _ _ e dj4 px)⟩
end
/-! ### == of data -/
class Eqv (α : Type) extends Enc α where
  deep : Nat
  dep : ∀ x : α, (enc x).depth ≤ deep
  dec : DecidableEq α
  eqv : ∀ x y : α, PyData.eqv (enc x) (enc y) = true ↔ x = y
  pl : ∀ x : α, (enc x).plain = true
class Eqn (α : Type) extends Eqv α where
  nn : ∀ y : α, PyData.eqv .none (enc y) = false ∧ PyData.eqv (enc y) .none = false
instance : Eqn Int where
  pl := fun _ => rfl
  deep := 0
  dep := fun _ => Nat.le_refl _
  dec := inferInstance
  eqv := fun x y => by show (x == y) = true ↔ _; simp
  nn := fun _ => ⟨rfl, rfl⟩
instance : Eqn Bool where
  pl := fun _ => rfl
  deep := 0
  dep := fun _ => Nat.le_refl _
  dec := inferInstance
  eqv := fun x y => by show (x == y) = true ↔ _; simp
  nn := fun _ => ⟨rfl, rfl⟩
instance : Eqn Str where
  pl := fun _ => rfl
  deep := 0
  dep := fun _ => Nat.le_refl _
  dec := inferInstance
  eqv := fun x y => by show (x == y) = true ↔ _; simp
  nn := fun _ => ⟨rfl, rfl⟩
instance : Eqv Unit where
  pl := fun _ => rfl
  deep := 0
  dep := fun _ => Nat.le_refl _
  dec := inferInstance
  eqv := fun x y => ⟨fun _ => rfl, fun _ => rfl⟩
instance {α : Type} [Eqn α] : Eqv (Option α) where
  pl := fun x => by
    cases x with
    | none => rfl
    | some y => exact Eqv.pl y
  deep := Eqv.deep α
  dep := fun x => by
    cases x with
    | none => exact Nat.zero_le _
    | some y => exact Eqv.dep y
  dec := by
    have : DecidableEq α := Eqv.dec
    infer_instance
  eqv := fun x y => by
    cases x with
    | none => cases y with
      | none => exact ⟨fun _ => rfl, fun _ => rfl⟩
      | some j =>
        constructor
        · intro h
          rw [show PyData.eqv (enc (none : Option α)) (enc (some j)) = PyData.eqv .none (enc j) from rfl, (Eqn.nn j).1] at h
          cases h
        · intro h
          cases h
    | some i => cases y with
      | none =>
        constructor
        · intro h
          rw [show PyData.eqv (enc (some i)) (enc (none : Option α)) = PyData.eqv (enc i) .none from rfl, (Eqn.nn i).2] at h
          cases h
        · intro h
          cases h
      | some j => exact (Eqv.eqv i j).trans ⟨fun h => by rw [h], fun h => Option.some.inj h⟩
theorem eqvAll_iff {α : Type} [Eqv α] : ∀ xs ys : List α, PyData.eqvAll (xs.map enc) (ys.map enc) = true ↔ xs = ys
  | [], [] => ⟨fun _ => rfl, fun _ => rfl⟩
  | [], _ :: _ => ⟨(fun h => nomatch h), (fun h => nomatch h)⟩
  | _ :: _, [] => ⟨(fun h => nomatch h), (fun h => nomatch h)⟩
  | x :: xs, y :: ys => by
    show (PyData.eqv (enc x) (enc y) && PyData.eqvAll (xs.map enc) (ys.map enc)) = true ↔ _
    rw [Bool.and_eq_true, Eqv.eqv, eqvAll_iff xs ys, List.cons.injEq]
theorem depthAll_le {α : Type} [Eqv α] : ∀ xs : List α, PyData.depthAll (xs.map enc) ≤ Eqv.deep α
  | [] => Nat.zero_le _
  | x :: xs => Nat.max_le.mpr ⟨Eqv.dep x, depthAll_le xs⟩
theorem plainAll_map {α : Type} [Eqv α] : ∀ xs : List α, PyData.plainAll (xs.map enc) = true
  | [] => rfl
  | x :: xs => by
    show ((enc x).plain && PyData.plainAll (xs.map enc)) = true
    rw [Eqv.pl x, plainAll_map xs]
    rfl
instance {α : Type} [Eqv α] : Eqn (List α) where
  pl := plainAll_map
  deep := Eqv.deep α + 1
  dep := fun xs => Nat.succ_le_succ (depthAll_le xs)
  dec := by
    have : DecidableEq α := Eqv.dec
    infer_instance
  eqv := eqvAll_iff
  nn := fun _ => ⟨rfl, rfl⟩
theorem and3 {a b : Bool} : (a && (b && true)) = true ↔ a = true ∧ b = true := by simp
instance {α β : Type} [Eqv α] [Eqv β] : Eqn (α × β) where
  pl := fun x => by
    show ((enc x.1).plain && ((enc x.2).plain && true)) = true
    rw [Eqv.pl, Eqv.pl]
    rfl
  deep := max (Eqv.deep α) (Eqv.deep β) + 1
  dep := fun x => Nat.succ_le_succ (by
    show max (enc x.1).depth (max (enc x.2).depth 0) ≤ _
    have h1 := Eqv.dep x.1
    have h2 := Eqv.dep x.2
    omega)
  dec := by
    have : DecidableEq α := Eqv.dec
    have : DecidableEq β := Eqv.dec
    infer_instance
  eqv := fun x y => by
    show (PyData.eqv (enc x.1) (enc y.1) && (PyData.eqv (enc x.2) (enc y.2) && true)) = true ↔ _
    rw [and3, Eqv.eqv, Eqv.eqv]
    exact ⟨fun ⟨a, b⟩ => Prod.ext a b, fun h => by rw [h]; exact ⟨rfl, rfl⟩⟩
  nn := fun _ => ⟨rfl, rfl⟩
instance {α β γ : Type} [Eqv α] [Eqv β] [Eqv γ] : Eqn (T3 α β γ) where
  pl := fun x => by
    show ((enc x.a).plain && ((enc x.b).plain && ((enc x.c).plain && true))) = true
    rw [Eqv.pl, Eqv.pl, Eqv.pl]
    rfl
  deep := max (Eqv.deep α) (max (Eqv.deep β) (Eqv.deep γ)) + 1
  dep := fun x => Nat.succ_le_succ (by
    show max (enc x.a).depth (max (enc x.b).depth (max (enc x.c).depth 0)) ≤ _
    have h1 := Eqv.dep x.a
    have h2 := Eqv.dep x.b
    have h3 := Eqv.dep x.c
    omega)
  dec := by
    have : DecidableEq α := Eqv.dec
    have : DecidableEq β := Eqv.dec
    have : DecidableEq γ := Eqv.dec
    infer_instance
  eqv := fun x y => by
    show (PyData.eqv (enc x.a) (enc y.a) && (PyData.eqv (enc x.b) (enc y.b) && (PyData.eqv (enc x.c) (enc y.c) && true))) = true ↔ _
    rw [Bool.and_eq_true, and3, Eqv.eqv, Eqv.eqv, Eqv.eqv]
    cases x
    cases y
    simp
  nn := fun _ => ⟨rfl, rfl⟩
instance {α β γ δ : Type} [Eqv α] [Eqv β] [Eqv γ] [Eqv δ] : Eqn (T4 α β γ δ) where
  pl := fun x => by
    show ((enc x.a).plain && ((enc x.b).plain && ((enc x.c).plain && ((enc x.d).plain && true)))) = true
    rw [Eqv.pl, Eqv.pl, Eqv.pl, Eqv.pl]
    rfl
  deep := max (Eqv.deep α) (max (Eqv.deep β) (max (Eqv.deep γ) (Eqv.deep δ))) + 1
  dep := fun x => Nat.succ_le_succ (by
    show max (enc x.a).depth (max (enc x.b).depth (max (enc x.c).depth (max (enc x.d).depth 0))) ≤ _
    have h1 := Eqv.dep x.a
    have h2 := Eqv.dep x.b
    have h3 := Eqv.dep x.c
    have h4 := Eqv.dep x.d
    omega)
  dec := by
    have : DecidableEq α := Eqv.dec
    have : DecidableEq β := Eqv.dec
    have : DecidableEq γ := Eqv.dec
    have : DecidableEq δ := Eqv.dec
    infer_instance
  eqv := fun x y => by
    show (PyData.eqv (enc x.a) (enc y.a) && (PyData.eqv (enc x.b) (enc y.b) && (PyData.eqv (enc x.c) (enc y.c) && (PyData.eqv (enc x.d) (enc y.d) && true)))) = true ↔ _
    rw [Bool.and_eq_true, Bool.and_eq_true, and3, Eqv.eqv, Eqv.eqv, Eqv.eqv, Eqv.eqv]
    cases x
    cases y
    simp
  nn := fun _ => ⟨rfl, rfl⟩
/-! a data == b -/
def rEqP (K : Fg) : R2 := fun x y H Q => ∃ d e, Dp K H x d ∧ Dp K H y e ∧ d.plain = true ∧ e.plain = true ∧ d.depth ≤ 60 ∧ Q (.bl (PyData.eqv d e)) H
def rNeP (K : Fg) : R2 := fun x y H Q => ∃ d e, Dp K H x d ∧ Dp K H y e ∧ d.plain = true ∧ e.plain = true ∧ d.depth ≤ 60 ∧ Q (.bl (!PyData.eqv d e)) H
theorem op_eqP {X : Cx} (hu : X.A.units + 64 < cLine) : OpR X (compareOp .Eq) (rEqP X.K) := by
  intro pins s σ H x y v u Q I rx ry h
  obtain ⟨d, e, hd, he, sd, se, hl, q⟩ := h
  obtain ⟨as, r1⟩ := Dp.reads I d x v hd rx
  obtain ⟨bs, r2⟩ := Dp.reads I e y u he ry
  exact SeqAt.eq_plain r1 r2 sd se (by omega) ⟨.bl _, H, I, rfl, q⟩
theorem op_neP {X : Cx} (hu : X.A.units + 64 < cLine) : OpR X (compareOp .NotEq) (rNeP X.K) := by
  intro pins s σ H x y v u Q I rx ry h
  obtain ⟨d, e, hd, he, sd, se, hl, q⟩ := h
  obtain ⟨as, r1⟩ := Dp.reads I d x v hd rx
  obtain ⟨bs, r2⟩ := Dp.reads I e y u he ry
  exact SeqAt.ne_plain r1 r2 sd se (by omega) ⟨.bl _, H, I, rfl, q⟩
theorem eqvD {α : Type} [Eqv α] [DecidableEq α] (x y : α) : PyData.eqv (enc x) (enc y) = decide (x = y) := by
  rw [Bool.eq_iff_iff, decide_eq_true_eq]
  exact Eqv.eqv x y
theorem r2_eqD {α : Type} {K : Fg} [i : Eqv α] [d : DecidableEq α] (hd : Eqv.deep α ≤ 60) : R2p K (rEqP K) (fun x y : α => some (decide (x = y))) := fun B H x y z vx vy e hx hy ez Q q => by
  cases ez
  refine ⟨enc x, enc y, dp_mono e _ _ (Enc.to hx), dp_mono e _ _ (Enc.to hy), Eqv.pl x, Eqv.pl y, Nat.le_trans (Eqv.dep x) hd, q _ B H (Gr.refl e) ?_⟩
  exact congrArg V.bl (eqvD x y)
theorem r2_neD {α : Type} {K : Fg} [i : Eqv α] [d : DecidableEq α] (hd : Eqv.deep α ≤ 60) : R2p K (rNeP K) (fun x y : α => some (!decide (x = y))) := fun B H x y z vx vy e hx hy ez Q q => by
  cases ez
  refine ⟨enc x, enc y, dp_mono e _ _ (Enc.to hx), dp_mono e _ _ (Enc.to hy), Eqv.pl x, Eqv.pl y, Nat.le_trans (Eqv.dep x) hd, q _ B H (Gr.refl e) ?_⟩
  exact congrArg (fun b => V.bl (!b)) (eqvD x y)
/-! x in a list of data -/
def rInP (K : Fg) : R2 := fun x c H Q => ∃ d ds, Dp K H x d ∧ Dp K H c (.list ds) ∧ d.plain = true ∧ PyData.plainAll ds = true ∧ d.depth ≤ 60 ∧ Q (.bl (ds.any fun y => PyData.eqv y d)) H
def rNinP (K : Fg) : R2 := fun x c H Q => ∃ d ds, Dp K H x d ∧ Dp K H c (.list ds) ∧ d.plain = true ∧ PyData.plainAll ds = true ∧ d.depth ≤ 60 ∧ Q (.bl (!ds.any fun y => PyData.eqv y d)) H
theorem op_inP {X : Cx} (hu : X.A.units + 64 < cLine) : OpR X (compareOp .In) (rInP X.K) := by
  intro pins s σ H x y v u Q I rx ry h
  obtain ⟨d, ds, hd, he, sd, se, hl, q⟩ := h
  obtain ⟨as, r1⟩ := Dp.reads I d x v hd rx
  obtain ⟨bs, r2⟩ := Dp.reads I _ y u he ry
  exact SeqAt.in_list_data r2 r1 se sd (by omega) ⟨.bl _, H, I, rfl, q⟩
theorem op_ninP {X : Cx} (hu : X.A.units + 64 < cLine) : OpR X (compareOp .NotIn) (rNinP X.K) := by
  intro pins s σ H x y v u Q I rx ry h
  obtain ⟨d, ds, hd, he, sd, se, hl, q⟩ := h
  obtain ⟨as, r1⟩ := Dp.reads I d x v hd rx
  obtain ⟨bs, r2⟩ := Dp.reads I _ y u he ry
  exact SeqAt.notIn_list_data r2 r1 se sd (by omega) ⟨.bl _, H, I, rfl, q⟩
theorem any_eqv {α : Type} [Eqv α] [DecidableEq α] (x : α) : ∀ xs : List α, ((xs.map enc).any fun y => PyData.eqv y (enc x)) = decide (x ∈ xs)
  | [] => rfl
  | y :: ys => by
    rw [List.map_cons, List.any_cons, any_eqv x ys, eqvD y x, Bool.eq_iff_iff]
    simp only [Bool.or_eq_true, decide_eq_true_eq, List.mem_cons]
    exact ⟨fun h => h.elim (fun h => .inl h.symm) .inr, fun h => h.elim (fun h => .inl h.symm) .inr⟩
theorem r2_inD {α : Type} {K : Fg} [i : Eqv α] [d : DecidableEq α] (hd : Eqv.deep α ≤ 60) : R2p K (rInP K) (fun (x : α) (xs : List α) => some (decide (x ∈ xs))) := fun B H x y z vx vy e hx hy ez Q q => by
  cases ez
  refine ⟨enc x, y.map enc, dp_mono e _ _ (Enc.to hx), dp_mono e _ _ (Enc.to hy), Eqv.pl x, plainAll_map y, Nat.le_trans (Eqv.dep x) hd, q _ B H (Gr.refl e) ?_⟩
  exact congrArg V.bl (any_eqv x y)
theorem r2_ninD {α : Type} {K : Fg} [i : Eqv α] [d : DecidableEq α] (hd : Eqv.deep α ≤ 60) : R2p K (rNinP K) (fun (x : α) (xs : List α) => some (!decide (x ∈ xs))) := fun B H x y z vx vy e hx hy ez Q q => by
  cases ez
  refine ⟨enc x, y.map enc, dp_mono e _ _ (Enc.to hx), dp_mono e _ _ (Enc.to hy), Eqv.pl x, plainAll_map y, Nat.le_trans (Eqv.dep x) hd, q _ B H (Gr.refl e) ?_⟩
  exact congrArg (fun b => V.bl (!b)) (any_eqv x y)
end Cf

set_option Elab.async false
set_option linter.all false
set_option maxRecDepth 100000
set_option maxHeartbeats 4000000
namespace Cf
open PySem L2
open Rp (rp)
open RpL (rpl)
open Enc (enc)
section
variable {K : Fg} {σ : L2.St} {B H B' H' : Hp} {te ta tb tc : TE} {tt tu : TT} {tas : TA} {α β γ δ τ ρ S S' S1 S2 : Type} {P : Ow S} {P' : Ow S'} {R : Ow S1}
/-! ### more expressions -/
theorem Cs.opt [Rp α] {m : S → Option (α × S)} (h : Cs K P te σ B m) : Cs K P te σ B (fun s => (m s).bind fun p => some (some p.1, p.2)) := fun B1 H1 W s b e w d p x s' em Q q => by
  obtain ⟨⟨y, s1⟩, e1, em⟩ := bd_some em
  cases em
  exact h B1 H1 W s b e w d p y _ e1 Q q
theorem cs_notV {m : S → Option (Bool × S)} (h : Cs K P ta σ B m) : Cs K P (tNotV ta) σ B (fun s => (m s).bind fun p => some (!p.1, p.2)) := fun B1 H1 W s b e w d p x s' em Q q => by
  obtain ⟨⟨y, s1⟩, e1, em⟩ := bd_some em
  cases em
  exact h B1 H1 W s b e w d p y _ e1 _ fun v B2 H2 W2 sw p2 hv => ⟨y, hv, q _ B2 H2 W2 sw p2 rfl⟩
theorem cs_andV {m1 m2 : S → Option (Bool × S)} (h1 : Cs K P ta σ B m1) (h2 : Cs K P tb σ B m2) : Cs K P (tAndV ta tb) σ B (fun s => (m1 s).bind fun p => if p.1 = true then m2 p.2 else some (false, p.2)) := fun B1 H1 W s b e w d p z s' em Q q => by
  obtain ⟨⟨a, s1⟩, e1, em⟩ := bd_some em
  refine h1 B1 H1 W s b e w d p a s1 e1 _ fun v B2 H2 W2 sw p2 hv => ⟨a, hv, ?_⟩
  cases a with
  | true => exact h2 B2 H2 W2 s1 (b.trans sw.g.b) sw.g.e sw.w sw.d p2 z s' em Q fun v B3 H3 W3 sw3 p3 h3 => q v B3 H3 W3 (sw.trans sw3) p3 h3
  | false =>
    cases em
    exact q _ B2 H2 W2 sw p2 rfl
theorem cs_orV {m1 m2 : S → Option (Bool × S)} (h1 : Cs K P ta σ B m1) (h2 : Cs K P tb σ B m2) : Cs K P (tOrV ta tb) σ B (fun s => (m1 s).bind fun p => if p.1 = true then some (true, p.2) else m2 p.2) := fun B1 H1 W s b e w d p z s' em Q q => by
  obtain ⟨⟨a, s1⟩, e1, em⟩ := bd_some em
  refine h1 B1 H1 W s b e w d p a s1 e1 _ fun v B2 H2 W2 sw p2 hv => ⟨a, hv, ?_⟩
  cases a with
  | false => exact h2 B2 H2 W2 s1 (b.trans sw.g.b) sw.g.e sw.w sw.d p2 z s' em Q fun v B3 H3 W3 sw3 p3 h3 => q v B3 H3 W3 (sw.trans sw3) p3 h3
  | true =>
    cases em
    exact q _ B2 H2 W2 sw p2 rfl
/-! None or not -/
class Nn (α : Type) [Rp α] : Prop where
  nn : ∀ {K : Fg} {B : Hp} {v : V} {x : α}, rp K B v x → v ≠ .non
instance : Nn Int := ⟨fun h z => by rw [z] at h; exact nomatch h⟩
instance : Nn Bool := ⟨fun h z => by rw [z] at h; exact nomatch h⟩
instance : Nn Str := ⟨fun h z => by rw [z] at h; exact nomatch h⟩
instance [Rp α] : Nn (List α) := ⟨fun ⟨a, vs, h, _⟩ z => by rw [z] at h; exact nomatch h⟩
instance [Rp α] [Rp β] : Nn (α × β) := ⟨fun ⟨a, u, w, h, _⟩ z => by rw [z] at h; exact nomatch h⟩
instance [Rp α] [Rp β] [Rp γ] : Nn (T3 α β γ) := ⟨fun ⟨a, u1, u2, u3, h, _⟩ z => by rw [z] at h; exact nomatch h⟩
instance [Rp α] [Rp β] [Rp γ] [Rp δ] : Nn (T4 α β γ δ) := ⟨fun ⟨a, u1, u2, u3, u4, h, _⟩ z => by rw [z] at h; exact nomatch h⟩
theorem isN_of [Rp α] [Nn α] {v : V} {x : Option α} (h : rp K B v x) : decide (v = .non) = x.isNone := by
  cases x with
  | none => exact decide_eq_true h
  | some y => exact decide_eq_false (Nn.nn (α := α) h)
theorem cp_isN [Rp α] [Nn α] {m : Option (Option α)} (h : Cp K ta σ B m) : Cp K (tIsN ta) σ B (m.bind fun x => some x.isNone) := fun B1 H1 b e z em Q q => by
  obtain ⟨x, e1, em⟩ := bd_some em
  cases em
  exact h B1 H1 b e x e1 _ fun v B2 H2 g2 hv => q _ B2 H2 g2 (congrArg V.bl (isN_of hv))
theorem cp_notN [Rp α] [Nn α] {m : Option (Option α)} (h : Cp K ta σ B m) : Cp K (tNotN ta) σ B (m.bind fun x => some x.isSome) := fun B1 H1 b e z em Q q => by
  obtain ⟨x, e1, em⟩ := bd_some em
  cases em
  refine h B1 H1 b e x e1 _ fun v B2 H2 g2 hv => q _ B2 H2 g2 ?_
  show V.bl _ = V.bl _
  rw [isN_of hv]
  cases x <;> rfl
theorem cs_isN [Rp α] [Nn α] {m : S → Option (Option α × S)} (h : Cs K P ta σ B m) : Cs K P (tIsN ta) σ B (fun s => (m s).bind fun p => some (p.1.isNone, p.2)) := fun B1 H1 W s b e w d p z s' em Q q => by
  obtain ⟨⟨x, s1⟩, e1, em⟩ := bd_some em
  cases em
  exact h B1 H1 W s b e w d p x _ e1 _ fun v B2 H2 W2 sw p2 hv => q _ B2 H2 W2 sw p2 (congrArg V.bl (isN_of hv))
theorem cs_notN [Rp α] [Nn α] {m : S → Option (Option α × S)} (h : Cs K P ta σ B m) : Cs K P (tNotN ta) σ B (fun s => (m s).bind fun p => some (p.1.isSome, p.2)) := fun B1 H1 W s b e w d p z s' em Q q => by
  obtain ⟨⟨x, s1⟩, e1, em⟩ := bd_some em
  cases em
  refine h B1 H1 W s b e w d p x _ e1 _ fun v B2 H2 W2 sw p2 hv => q _ B2 H2 W2 sw p2 ?_
  show V.bl _ = V.bl _
  rw [isN_of hv]
  cases x <;> rfl
/-! tuples -/
theorem cp_tup2 [Rp α] [Rp β] {m : Option (α × β × Unit)} (h : Ca K tas σ B m) : Cp K (tTup tas) σ B (m.bind fun t => some (t.1, t.2.1)) := fun B1 H1 b e z em Q q => by
  obtain ⟨t, e1, em⟩ := bd_some em
  cases em
  refine h B1 H1 b e t e1 _ fun vs B2 H2 g2 hv => ?_
  obtain ⟨v1, _, rfl, h1, v2, _, rfl, h2, h3⟩ := hv
  cases h3
  exact ⟨by show 2 ≤ sizeLine; decide, fun p np => q _ (upd B2 p (.tup [v1, v2])) _ (g2.trans (Gr.new g2.e np)) ⟨p, v1, v2, rfl, .inl (.inl upd_same), Rp.mono (Ex.new (g2.e.none np)) h1, Rp.mono (Ex.new (g2.e.none np)) h2⟩⟩
theorem cp_tup3 [Rp α] [Rp β] [Rp γ] {m : Option (α × β × γ × Unit)} (h : Ca K tas σ B m) : Cp K (tTup tas) σ B (m.bind fun t => some (T3.mk t.1 t.2.1 t.2.2.1)) := fun B1 H1 b e z em Q q => by
  obtain ⟨t, e1, em⟩ := bd_some em
  cases em
  refine h B1 H1 b e t e1 _ fun vs B2 H2 g2 hv => ?_
  obtain ⟨v1, _, rfl, h1, v2, _, rfl, h2, v3, _, rfl, h3, h4⟩ := hv
  cases h4
  exact ⟨by show 3 ≤ sizeLine; decide, fun p np => q _ (upd B2 p (.tup [v1, v2, v3])) _ (g2.trans (Gr.new g2.e np)) ⟨p, v1, v2, v3, rfl, .inl (.inl upd_same), Rp.mono (Ex.new (g2.e.none np)) h1, Rp.mono (Ex.new (g2.e.none np)) h2, Rp.mono (Ex.new (g2.e.none np)) h3⟩⟩
theorem cs_tup2 [Rp α] [Rp β] [OwOk P] {m : S → Option ((α × β × Unit) × S)} (h : Csa K P tas σ B m) : Cs K P (tTup tas) σ B (fun s => (m s).bind fun t => some ((t.1.1, t.1.2.1), t.2)) := fun B1 H1 W s b e w d p z s' em Q q => by
  obtain ⟨⟨t, s1⟩, e1, em⟩ := bd_some em
  cases em
  refine h B1 H1 W s b e w d p t _ e1 _ fun vs B2 H2 W2 sw p2 hv => ?_
  obtain ⟨v1, _, rfl, h1, v2, _, rfl, h2, h3⟩ := hv
  cases h3
  refine ⟨by show 2 ≤ sizeLine; decide, fun c np => q _ (upd B2 c (.tup [v1, v2])) _ W2 (sw.trans (Sw.pure (Gr.new sw.g.e np) sw.w sw.d)) (OwOk.mono (Ex.new (sw.g.e.none np)) p2) ⟨c, v1, v2, rfl, .inl (.inl upd_same), Rp.mono (Ex.new (sw.g.e.none np)) h1, Rp.mono (Ex.new (sw.g.e.none np)) h2⟩⟩
theorem cs_tup3 [Rp α] [Rp β] [Rp γ] [OwOk P] {m : S → Option ((α × β × γ × Unit) × S)} (h : Csa K P tas σ B m) : Cs K P (tTup tas) σ B (fun s => (m s).bind fun t => some (T3.mk t.1.1 t.1.2.1 t.1.2.2.1, t.2)) := fun B1 H1 W s b e w d p z s' em Q q => by
  obtain ⟨⟨t, s1⟩, e1, em⟩ := bd_some em
  cases em
  refine h B1 H1 W s b e w d p t _ e1 _ fun vs B2 H2 W2 sw p2 hv => ?_
  obtain ⟨v1, _, rfl, h1, v2, _, rfl, h2, v3, _, rfl, h3, h4⟩ := hv
  cases h4
  refine ⟨by show 3 ≤ sizeLine; decide, fun c np => q _ (upd B2 c (.tup [v1, v2, v3])) _ W2 (sw.trans (Sw.pure (Gr.new sw.g.e np) sw.w sw.d)) (OwOk.mono (Ex.new (sw.g.e.none np)) p2) ⟨c, v1, v2, v3, rfl, .inl (.inl upd_same), Rp.mono (Ex.new (sw.g.e.none np)) h1, Rp.mono (Ex.new (sw.g.e.none np)) h2, Rp.mono (Ex.new (sw.g.e.none np)) h3⟩⟩
/-- an item of a tuple at a written place -/
theorem cp_ixT [Rp α] [Rp γ] {i : Int} {f : α → γ} (hf : ∀ {B : Hp} {v : V} {x : α}, rp K B v x → ∃ a vs u, v = .ref a ∧ SqT K B a vs ∧ atI vs i = some u ∧ rp K B u (f x)) {m : Option α} (h : Cp K ta σ B m) : Cp K (tOp (rIxT K) ta (tC (.int i))) σ B (m.bind fun x => some (f x)) := fun B1 H1 b e z em Q q => by
  obtain ⟨x, e1, em⟩ := bd_some em
  cases em
  refine h B1 H1 b e x e1 _ fun v B2 H2 g2 hv => ?_
  obtain ⟨a, vs, u, rfl, s, ha, hu⟩ := hf hv
  exact ⟨a, vs, i, u, rfl, rfl, sqt_mono g2.e s, ha, q u B2 H2 g2 hu⟩
theorem cp_item2_0 [Rp α] [Rp β] {m : Option (α × β)} (h : Cp K ta σ B m) : Cp K (tOp (rIxT K) ta (tC (.int 0))) σ B (m.bind fun x => some x.1) := cp_ixT (fun h => by obtain ⟨a, u, w, h, s, p, q⟩ := h; exact ⟨a, _, u, h, s, rfl, p⟩) h
theorem cp_item2_1 [Rp α] [Rp β] {m : Option (α × β)} (h : Cp K ta σ B m) : Cp K (tOp (rIxT K) ta (tC (.int 1))) σ B (m.bind fun x => some x.2) := cp_ixT (fun h => by obtain ⟨a, u, w, h, s, p, q⟩ := h; exact ⟨a, _, w, h, s, rfl, q⟩) h
/-! lists -/
theorem ct_truL [Rp α] {m : Option (List α)} (h : Cp K ta σ B m) : Ct (fun σ H Q => ta σ H fun x H' => ∃ k, TruV K x H' k ∧ Q k H') σ B (m.bind fun x => some (!x.isEmpty)) := fun B1 H1 b e z em Q q => by
  obtain ⟨x, e1, em⟩ := bd_some em
  cases em
  refine h B1 H1 b e x e1 _ fun v B2 H2 g2 hv => ?_
  obtain ⟨a, vs, rfl, s, p⟩ := hv
  refine ⟨!x.isEmpty, .inl ⟨vs, sq_lst (g2.e _ _ s), ?_⟩, q B2 H2 g2⟩
  cases p <;> rfl
def RListOf (K : Fg) : List V → Hp → VK → Prop := fun xs H Q => ∃ p ys, xs = [.ref p] ∧ (SqL K H p ys ∨ SqT K H p ys) ∧ ∀ l, H l = none → Q (.ref l) (upd H l (.lst ys))
theorem co_listof [Rp α] {m : Option (List α)} (h : Cp K ta σ B m) : Co K (tCB (RListOf K) (tCons ta tNil)) σ B m := fun B1 H1 b e xs em Q q => by
  refine h B1 H1 b e xs em _ fun v B2 H2 g2 hv => ?_
  obtain ⟨a, vs, rfl, s, p⟩ := hv
  exact ⟨a, vs, rfl, .inl (sq_lst (g2.e _ _ s)), fun l nl => q l vs B2 _ (g2.trans (Gr.newM g2.e nl)) (g2.fresh nl) (g2.e.none nl) upd_same p⟩
theorem inV_ints {x : Int} : ∀ {vs : List V} {xs : List Int}, Paired (rp K B) vs xs → inV (.int x) vs = decide (x ∈ xs)
  | _, _, .nil => rfl
  | _, _, .cons (b := y) r t => by
    cases (show _ = V.int _ from r)
    show (eqV (.int y) (.int x) || inV (.int x) _) = _
    rw [inV_ints t]
    rw [Bool.eq_iff_iff, Bool.or_eq_true, decide_eq_true_eq, decide_eq_true_eq, List.mem_cons]
    have : eqV (.int y) (.int x) = true ↔ x = y := by
      show (y == x) = true ↔ _
      rw [beq_iff_eq]
      exact eq_comm
    rw [this]
theorem flat_ints : ∀ {vs : List V} {xs : List Int}, Paired (rp K B) vs xs → vs.all flatV = true
  | _, _, .nil => rfl
  | _, _, .cons r t => by
    cases (show _ = V.int _ from r)
    show (true && _) = true
    rw [flat_ints t]
    rfl
theorem r2_inL : R2p K (rIn K false) (fun (x : Int) (xs : List Int) => some (decide (x ∈ xs))) := fun B H x xs z vx vy e hx hy ez Q q => by
  cases ez
  cases (show vx = .int x from hx)
  obtain ⟨a, vs, rfl, s, p⟩ := hy
  refine ⟨a, vs, rfl, .inl (sq_lst (e _ _ s)), rfl, flat_ints p, q _ B H (Gr.refl e) ?_⟩
  show V.bl _ = V.bl _
  rw [if_neg Bool.false_ne_true, inV_ints p]
theorem r2_ninL : R2p K (rIn K true) (fun (x : Int) (xs : List Int) => some (!decide (x ∈ xs))) := fun B H x xs z vx vy e hx hy ez Q q => by
  cases ez
  cases (show vx = .int x from hx)
  obtain ⟨a, vs, rfl, s, p⟩ := hy
  refine ⟨a, vs, rfl, .inl (sq_lst (e _ _ s)), rfl, flat_ints p, q _ B H (Gr.refl e) ?_⟩
  show V.bl _ = V.bl _
  rw [if_pos rfl, inV_ints p]
/-! min, max of two -/
def pmin2 (i j : Int) : Int := if j < i then j else i
def pmax2 (i j : Int) : Int := if j > i then j else i
theorem rc_min2 : Rcp K (fun xs H Q => ∃ i j, xs = [.int i, .int j] ∧ Q (.int (if j < i then j else i)) H) (fun t : Int × Int × Unit => some (pmin2 t.1 t.2.1)) := fun B H t z vs e h ez Q q => by
  cases ez
  obtain ⟨v1, _, rfl, h1, v2, _, rfl, h2, h3⟩ := h
  cases h3
  cases (show v1 = .int _ from h1)
  cases (show v2 = .int _ from h2)
  exact ⟨_, _, rfl, q _ B H (Gr.refl e) rfl⟩
theorem rc_max2 : Rcp K (fun xs H Q => ∃ i j, xs = [.int i, .int j] ∧ Q (.int (if j > i then j else i)) H) (fun t : Int × Int × Unit => some (pmax2 t.1 t.2.1)) := fun B H t z vs e h ez Q q => by
  cases ez
  obtain ⟨v1, _, rfl, h1, v2, _, rfl, h2, h3⟩ := h
  cases h3
  cases (show v1 = .int _ from h1)
  cases (show v2 = .int _ from h2)
  exact ⟨_, _, rfl, q _ B H (Gr.refl e) rfl⟩
/-! isinstance -/
theorem kit_int_int {K : Fg} : PySem.W.kitOne K (.type "int") (.type "int") = some true := kit_ty (by decide +kernel)
theorem kit_bool_int {K : Fg} : PySem.W.kitOne K (.type "bool") (.type "int") = some true := kit_ty (by decide +kernel)
theorem kit_int_bool {K : Fg} : PySem.W.kitOne K (.type "int") (.type "bool") = some false := kit_ty (by decide +kernel)
theorem kit_str_str {K : Fg} : PySem.W.kitOne K (.type "str") (.type "str") = some true := kit_ty (by decide +kernel)
theorem kit_list_list {K : Fg} : PySem.W.kitOne K (.type "list") (.type "list") = some true := kit_ty (by decide +kernel)
theorem kit_tuple_tuple {K : Fg} : PySem.W.kitOne K (.type "tuple") (.type "tuple") = some true := kit_ty (by decide +kernel)
theorem kit_NoneType_tuple {K : Fg} : PySem.W.kitOne K (.type "NoneType") (.type "tuple") = some false := kit_ty (by decide +kernel)

def Isi (α : Type) [Rp α] (K : Fg) (c : String) (f : α → Bool) : Prop := ∀ {B : Hp} {v : V} {x : α}, rp K B v x → ∃ t, TyX K B v t ∧ PySem.W.kitOne K t (.type c) = some (f x)
theorem tyx_mono {v : V} {t : Value} (e : Ex B H) (h : TyX K B v t) : TyX K H v t := by
  cases h with
  | base b =>
    cases b with
    | non => exact .base .non
    | bl x => exact .base (.bl x)
    | int x => exact .base (.int x)
    | str x => exact .base (.str x)
    | flt x => exact .base (.flt x)
    | lst h => exact .base (.lst (e _ _ h))
    | frz h => exact .base (.frz (e _ _ h))
    | tup h => exact .base (.tup (e _ _ h))
    | dK h => exact .base (.dK (e _ _ h))
    | dT h => exact .base (.dT (e _ _ h))
    | ins h a b c d f => exact .base (.ins (e _ _ h) a b c d f)
  | byt b => exact .byt b
  | set h => exact .set (e _ _ h)
  | kList h c => exact .kList h c
  | kTuple h c => exact .kTuple h c
  | kDict h c => exact .kDict h c
  | fTuple h => exact .fTuple (e _ _ h)
  | fDict h => exact .fDict (e _ _ h)
theorem cp_isi [Rp α] {c : String} {f : α → Bool} (hi : Isi α K c f) {m : Option α} (h : Cp K ta σ B m) : Cp K (tCB (rIsi K) (tCons ta (tCons (tC (.ty c)) tNil))) σ B (m.bind fun x => some (f x)) := fun B1 H1 b e z em Q q => by
  obtain ⟨x, e1, em⟩ := bd_some em
  cases em
  refine h B1 H1 b e x e1 _ fun v B2 H2 g2 hv => ?_
  obtain ⟨t, ht, hk⟩ := hi hv
  exact ⟨v, .ty c, t, .type c, f x, rfl, ClsV.ty c, tyx_mono g2.e ht, hk, q _ B2 H2 g2 rfl⟩
theorem isi_int : Isi Int K "int" (fun _ => true) := fun h => by
  cases (show _ = V.int _ from h)
  exact ⟨_, .base (.int _), kit_int_int⟩
theorem isi_bool_int : Isi Bool K "int" (fun _ => true) := fun h => by
  cases (show _ = V.bl _ from h)
  exact ⟨_, .base (.bl _), kit_bool_int⟩
theorem isi_int_bool : Isi Int K "bool" (fun _ => false) := fun h => by
  cases (show _ = V.int _ from h)
  exact ⟨_, .base (.int _), kit_int_bool⟩
theorem isi_str : Isi Str K "str" (fun _ => true) := fun h => by
  cases (show _ = V.str _ from h)
  exact ⟨_, .base (.str _), kit_str_str⟩
theorem isi_list [Rp α] : Isi (List α) K "list" (fun _ => true) := fun h => by
  obtain ⟨a, vs, rfl, s, p⟩ := h
  exact ⟨_, .base (.lst s), kit_list_list⟩
theorem tyx_sqt {a : Addr} {xs : List V} (s : SqT K B a xs) : TyX K B (.ref a) (.type "tuple") := by
  rcases s with (h | ⟨o, h⟩) | ⟨o, its, n, h, c, _⟩
  · exact .base (.tup h)
  · exact .fTuple h
  · exact .kTuple h c
theorem isi_tuple2 [Rp α] [Rp β] : Isi (α × β) K "tuple" (fun _ => true) := fun h => by
  obtain ⟨a, u, w, rfl, s, p, q⟩ := h
  exact ⟨_, tyx_sqt s, kit_tuple_tuple⟩
theorem isi_otuple2 [Rp α] [Rp β] : Isi (Option (α × β)) K "tuple" (fun x => x.isSome) := fun {B v x} h => by
  cases x with
  | none =>
    cases (show v = V.non from h)
    exact ⟨_, .base .non, kit_NoneType_tuple⟩
  | some y =>
    obtain ⟨a, u, w, rfl, s, p, q⟩ := (show rp K B v y from h)
    exact ⟨_, tyx_sqt s, kit_tuple_tuple⟩
end
/-! ### objects -/
structure Mc (P : Program) (w : World) (K : Fg) (mg : Str → Option Value) (base : Heap) (k : Nat) (C m : Str) (ps : List Str) (sp : Sp) : Prop where
  ex : ∃ f fd, FnOk P w K mg base CX0 k f fd ps sp ∧ Meth K (He.ga K C) m f ∧ Binds K fd ps []
theorem pe_mfc {X : Cx} {k j : Nat} {C m : Str} {ps : List Str} {sp : Sp} {apos pos : Pos} {o e : Expr} {es : List Expr} {ta : TE} {t : TA} {pl : Sem Bool} (he : PE X o ta) (c : Cls X.K (He.ga X.K C)) (M : Mc X.prog X.w X.K X.mg X.base k C m ps sp) (hr : Room j X.A) (hk : k ≤ j) (ha : PA X (e :: es) t)
    (hst : starEach (e :: es) X.env = (false, eval e X.env) :: starEach es X.env := by rfl) (hpl : (backTo pos (starEach es X.env)).any (·.1) = false := by rfl)
    (ht : eval (.Call (.Attribute o m apos) (e :: es) [] pos) X.env = (do
      let ov ← eval o X.env
      standAt apos.atName
      let (f, first) ← holding [ov] (getMethod ov m pl)
      callWith pos f first (backTo pos (starEach (e :: es) X.env)) (backToKw pos (keywordEach [] X.env))) := by rfl) :
    PE X (.Call (.Attribute o m apos) (e :: es) [] pos) (tMeth (He.ga X.K C) m sp [] E0 ta t) := by
  obtain ⟨f, fd, F, hm, hb⟩ := M.ex
  exact pe_meth he c hm F (hr.mono hk) hb .nil pass0 ha hst hpl ht
theorem pe_mfc0 {X : Cx} {k j : Nat} {C m : Str} {ps : List Str} {sp : Sp} {apos pos : Pos} {o : Expr} {ta : TE} {pl : Sem Bool} (he : PE X o ta) (c : Cls X.K (He.ga X.K C)) (M : Mc X.prog X.w X.K X.mg X.base k C m ps sp) (hr : Room j X.A) (hk : k ≤ j)
    (ht : eval (.Call (.Attribute o m apos) [] [] pos) X.env = (do
      let ov ← eval o X.env
      standAt apos.atName
      let (f, first) ← holding [ov] (getMethod ov m pl)
      callWith pos f first (backTo pos (starEach [] X.env)) (backToKw pos (keywordEach [] X.env))) := by rfl) :
    PE X (.Call (.Attribute o m apos) [] [] pos) (tMeth (He.ga X.K C) m sp [] E0 ta tNil) := by
  obtain ⟨f, fd, F, hm, hb⟩ := M.ex
  exact pe_meth0 he c hm F (hr.mono hk) hb .nil pass0 ht
theorem pe_mkc {X : Cx} {k j : Nat} {C : Str} {ps : List Str} {sp : Sp} {p pos : Pos} {e : Expr} {es : List Expr} {t : TA} (M : Mk X.K (He.ga X.K C) (He.ma X.K (He.ga X.K C) "__init__")) (c : Mc X.prog X.w X.K X.mg X.base k C "__init__" ps sp) (hr : Room j X.A) (hk : k + 1 ≤ j) (hg : Gl X C) (hm : X.mg C = some (.ref (He.ga X.K C))) (ha : PA X (e :: es) t)
    (hdb : (C == ("__debug__" : Str)) = false := by decide) (he : starEach (e :: es) X.env = (false, eval e X.env) :: starEach es X.env := by rfl) (hpl : (backTo pos (starEach es X.env)).any (·.1) = false := by rfl) :
    PE X (.Call (.Name C p) (e :: es) [] pos) (tMake (He.ga X.K C) sp [] E0 t) := by
  obtain ⟨f, fd, F, hmt, hb⟩ := c.ex
  have e1 : f = He.ma X.K (He.ga X.K C) "__init__" := by
    have := hmt.at_.symm.trans M.init
    cases this
    rfl
  subst e1
  exact pe_make M F (hr.mono hk) hg hm hb .nil pass0 ha hdb he hpl
theorem pe_mkc0 {X : Cx} {k j : Nat} {C : Str} {ps : List Str} {sp : Sp} {p pos : Pos} (M : Mk X.K (He.ga X.K C) (He.ma X.K (He.ga X.K C) "__init__")) (c : Mc X.prog X.w X.K X.mg X.base k C "__init__" ps sp) (hr : Room j X.A) (hk : k + 1 ≤ j) (hg : Gl X C) (hm : X.mg C = some (.ref (He.ga X.K C)))
    (hdb : (C == ("__debug__" : Str)) = false := by decide) :
    PE X (.Call (.Name C p) [] [] pos) (tMake (He.ga X.K C) sp [] E0 tNil) := by
  obtain ⟨f, fd, F, hmt, hb⟩ := c.ex
  have e1 : f = He.ma X.K (He.ga X.K C) "__init__" := by
    have := hmt.at_.symm.trans M.init
    cases this
    rfl
  subst e1
  exact pe_make0 M F (hr.mono hk) hg hm hb .nil pass0 hdb
theorem mc_of {P : Program} {w : World} {K : Fg} {mg : Str → Option Value} {base : Heap} {k : Nat} {C m qual : Str} {pa : Arguments} {bd : List Stmt} {sc : Scope} {ps : List Str} {sp : Sp} {f : Addr} {fd : FuncData} (F : FunD K m qual pa bd sc [] [] f fd) (ok : FnOk P w K mg base CX0 k f fd ps sp) (g : Meth K (He.ga K C) m f)
    (h : ∀ (kV doc pm : Value) (an : Option Addr) (cdv ct : Value) (us : List Value), us.length = ps.length → bindArgs (PySem.W.fnOf m qual pa bd sc .none kV doc pm an cdv ct) ⟨us, []⟩ = pure (ps.zip us)) : Mc P w K mg base k C m ps sp :=
  ⟨f, fd, ok, g, F.bindsN h⟩
section
variable {K : Fg} {σ : L2.St} {B H B' H' : Hp} {te ta tb tc : TE} {tt tu : TT} {tas : TA} {α β γ δ τ ρ S S' S1 S2 : Type} {P : Ow S} {P' : Ow S'} {R : Ow S1}
/-- the object at a is an instance of the class C, and m is no attribute of it -/
def IsObj (Pb : Addr → Ow S) (K : Fg) (C m : Str) : Prop := ∀ {a : Addr} {W B : Hp} {s : S}, Pb a W B s → ∃ dx fs, W a = some (.ins (He.ga K C) dx fs) ∧ fs.lookup m = none
theorem cs_methM [RpL τ] [Rp γ] {Pb : Addr → Ow S} {C mt : Str} {a : Addr} {get : S' → S} {put : S' → S → S'} {f : S → τ → Option (γ × S)} {i : Nat} {m : S' → Option (τ × S')} {E : XK} [OwOk P'] (l : Ln P' (Pb a) get put) (hs : σ[i]? = some (some (.ref a))) (ho : IsObj Pb K C mt) (ha : Csa K P' tas σ B m) :
    Cs K P' (tMeth (He.ga K C) mt (spM K Pb f) [] E (tVar i) tas) σ B (fun s => (m s).bind fun p => (f (get p.2) p.1).bind fun q => some (q.1, put p.2 q.2)) := fun B1 H1 W s b e w d p z s' em Q q => by
  obtain ⟨⟨x, s1⟩, e1, em⟩ := bd_some em
  obtain ⟨⟨y, s2⟩, e2, em⟩ := bd_some em
  cases em
  refine ⟨.ref a, hs, ?_⟩
  obtain ⟨V1, V2, hV, dV, q1, back⟩ := l.open_ W B1 s p
  obtain ⟨dx, fs, hw, hn⟩ := ho q1
  refine ⟨a, dx, fs, rfl, w a _ (by rw [hV]; exact uni_l hw), hn, ?_⟩
  refine ha B1 H1 W s b e w d p x s1 e1 _ fun vs B2 H2 W2 sw p2 hv => ?_
  obtain ⟨V1, V2, hV, dV, q1, back⟩ := l.open_ W2 B2 s1 p2
  subst hV
  refine ⟨a, vs, V1, B2, get s1, x, _, s2, (by rw [List.append_nil]), sw.g.e, fun c o h => sw.w c o (uni_l h), dj_l sw.d, q1, hv, e2, fun v W' B3 H3 y p3 hr => ?_⟩
  have w2 : Ex V2 H2 := fun c o h => sw.w c o (by rw [uni_r (dV.symm c (nn h))]; exact h)
  obtain ⟨y2, dj⟩ := y.beside w2 dV (dj_r dV sw.d)
  exact q v B3 H3 (uni W' V2) (sw.trans y2) (back W' B3 s2 y.g.b dj p3) hr
/-- the promise of an __init__ -/
def spI {S τ : Type} [RpL τ] (K : Fg) (C : Str) (Pb : Addr → Ow S) (f : τ → Option S) : Sp := fun vs H Q _ => ∃ a us dx B t s, vs = .ref a :: us ∧ H a = some (.ins (He.ga K C) dx []) ∧ H dx = some (.own a) ∧ dx ≠ a ∧ Ex B H ∧ B a = none ∧ B dx = none ∧ rpl K B us t ∧ f t = some s ∧
  ∀ W' B' H', Sw (sing a (.ins (He.ga K C) dx [])) B H W' B' H' → Pb a W' B' s → Q .non H'
theorem st_mk {M : Ms} {Bs Hs W : Hp} {s : S} {D : Ends} [RpL τ] {Pb : Addr → Ow S'} {C : Str} {f : τ → Option S'} {m : Option τ} {m' : Option S'} {k : S' → Option ρ} {r : ρ} {i : Nat} {E : XK} [OwOk P] (hm : m'.bind k = some r) (N : Now M Bs Hs P W B H s) (ha : Ca K tas σ B m) (he : m.bind f = m')
    (q : ∀ x p W1 B1 H1, k x = some r → Now M Bs Hs (star P (Pb p)) W1 B1 H1 (s, x) → Ex B B1 → Hs p = none → D.nx (σ.set i (some (.ref p))) H1) : tAsg (tMake (He.ga K C) (spI K C Pb f) [] E tas) (gName i) D σ H := by
  subst he
  obtain ⟨x, e0, e3⟩ := bd_some hm
  obtain ⟨t, e1, e2⟩ := bd_some e0
  refine ha B H (Ex.refl B) N.ex t e1 _ fun vs B1 H1 g1 hv => fun p dx np ndx ne => ?_
  have N1 := N.pure g1
  have g2 : Gr noM B1 H1 B1 (upd H1 dx (.own p)) := Gr.newM g1.e ndx
  have np2 : (upd H1 dx (.own p)) p = none := by rw [upd_ne ne.symm]; exact np
  have g3 : Gr noM B1 (upd H1 dx (.own p)) B1 (upd (upd H1 dx (.own p)) p (.ins (He.ga K C) dx [])) := Gr.newM g2.e np2
  have N3 := (N1.pure g2).pure g3
  have fp : Hs p = none := N1.g.fresh np
  refine ⟨p, vs, dx, B1, t, x, (by rw [List.append_nil]), upd_same, (by rw [upd_ne ne, upd_same]), ne, g3.e, g1.e.none np, g1.e.none ndx, hv, e2, fun W' B' H' sw pp => ⟨rfl, ?_⟩⟩
  have hWp : W p = none := by
    cases hh : W p with
    | none => rfl
    | some o =>
      rw [N1.w p o hh] at np
      cases np
  have dj : Dj (sing p (.ins (He.ga K C) dx [])) W := fun a h => by
    have := sing_dom h
    subst this
    exact hWp
  obtain ⟨sw2, dj2⟩ := sw.beside N3.w dj N3.d
  have hs2 : star P (Pb p) (uni W' W) B' (s, x) := ⟨W, W', uni_comm dj2, dj2.symm, OwOk.mono sw.g.b N3.p, pp⟩
  have f2 : ∀ a, uni (sing p (.ins (He.ga K C) dx [])) W a ≠ none → M a ∨ Hs a = none := fun a h => by
    rcases uni_dom h with z | z
    · have := sing_dom z
      subst this
      exact .inr fp
    · exact N3.f a z
  have N4 : Now M Bs Hs (star oE P) (uni (sing p (.ins (He.ga K C) dx [])) W) B1 (upd (upd H1 dx (.own p)) p (.ins (He.ga K C) dx [])) ((), s) → True := fun _ => trivial
  refine q x p (uni W' W) B' H' e3 ⟨⟨N3.g.s, N3.g.b.trans sw2.g.b, fun a o m h => ?_, sw2.g.e, fun a h n => sw2.g.n a (N3.g.k a h) (N3.g.n a h n), fun a h => sw2.g.k a (N3.g.k a h)⟩, sw2.w, sw2.d, hs2, fun a h => ?_⟩ (g1.b.trans sw.g.b) fp
  · refine sw2.g.h a o (fun z => ?_) (N3.g.h a o m h)
    rcases f2 a z with y | y
    · exact m y
    · rw [y] at h
      cases h
  · rcases sw2.f a h with z | z
    · exact f2 a z
    · exact .inr (N3.g.fresh z)
/-- an attribute of an object of one's own, read -/
theorem cp_ownfld [Rp γ] {C f : Str} {a dx : Addr} {i : Nat} {fs : List (Str × V)} {W : Hp} {u : V} {x : γ} (hs : σ[i]? = some (some (.ref a))) (ho : uni W B a = some (.ins (He.ga K C) dx fs)) (c : Cls K (He.ga K C)) (n : NoAttr K (He.ga K C) f) (hf : fs.lookup f = some u) (hr : rp K (uni W B) u x) : Cp K (tFld K (tVar i) f) σ (uni W B) (some x) := fun B1 H1 b e z em Q q => by
  cases em
  exact ⟨.ref a, hs, a, _, dx, fs, u, rfl, e _ _ (b _ _ ho), c, n, hf, q u B1 H1 (Gr.refl e) (Rp.mono b hr)⟩
/-- an attribute of an object that is known -/
theorem cp_fld [Rp α] [Rp γ] {C f : Str} {g : α → γ} {m : Option α} (hf : ∀ {B : Hp} {v : V} {x : α}, rp K B v x → ∃ a dx fs u, v = .ref a ∧ B a = some (.ins (He.ga K C) dx fs) ∧ fs.lookup f = some u ∧ rp K B u (g x)) (c : Cls K (He.ga K C)) (n : NoAttr K (He.ga K C) f) (h : Cp K ta σ B m) :
    Cp K (tFld K ta f) σ B (m.bind fun x => some (g x)) := fun B1 H1 b e z em Q q => by
  obtain ⟨x, e1, em⟩ := bd_some em
  cases em
  refine h B1 H1 b e x e1 _ fun v B2 H2 g2 hv => ?_
  obtain ⟨a, dx, fs, u, rfl, ho, hl, hu⟩ := hf hv
  exact ⟨a, _, dx, fs, u, rfl, g2.e _ _ ho, c, n, hl, q u B2 H2 g2 hu⟩
/-! ### more statements -/
theorem st_box {M : Ms} {Bs Hs W : Hp} {D : Ends} {m m' : Option (List Int)} {k : List Int → Option ρ} {r : ρ} {i : Nat} (hm : m'.bind k = some r) (N : Now M Bs Hs oE W B H ()) (hc : Cp K te σ B m) (he : m = m')
    (q : ∀ ds p W1 B1 H1, k ds = some r → Now M Bs Hs (OwBox K p) W1 B1 H1 ds → Ex B B1 → Hs p = none → D.nx (σ.set i (some (.ref p))) H1) : tAsg (tLst (tCons te (tCons (tC (.int 0)) tNil))) (gName i) D σ H := by
  subst he
  obtain ⟨x, e1, e2⟩ := bd_some hm
  refine hc B H (Ex.refl B) N.ex x e1 _ fun v B1 H1 g hv => ⟨by show 2 ≤ sizeLine; decide, fun p np => ?_⟩
  have N1 := N.pure g
  have fp : Hs p = none := N1.g.fresh np
  refine q x p (sing p (.lst [v, .int 0])) B1 _ e2 ⟨N1.g.trans (Gr.newM g.e np), fun a o h => ?_, fun a h => ?_, ⟨v, x, 0, rfl, hv, rfl⟩, fun a h => ?_⟩ g.b fp
  · have := sing_dom (nn h)
    subst this
    rw [sing_at] at h
    rw [upd_same]
    exact h
  · have := sing_dom h
    subst this
    exact g.e.none np
  · have := sing_dom h
    subst this
    exact .inr fp
/-- x = [..] again, where x is one's own -/
theorem st_reL {M : Ms} {Bs Hs W : Hp} {D : Ends} [Rp α] {s : S} {a : Addr} {P2 : Addr → Ow S} {get : S → List α} {put : S → List α → S} {m : S → Option (List α × S)} {m' : Option (List α × S)} {k : List α × S → Option ρ} {r : ρ} {i : Nat} (l : ∀ p, Lr P (P2 p) (OwL K a) (OwL K p) get put)
    (hm : m'.bind k = some r) (N : Now M Bs Hs P W B H s) (hc : Cso K P te σ B m) (he : m s = m')
    (q : ∀ xs s1 p W1 B1 H1, k (xs, s1) = some r → Now M Bs Hs (P2 p) W1 B1 H1 (put s1 xs) → Ex B B1 → Hs p = none → D.nx (σ.set i (some (.ref p))) H1) : tAsg te (gName i) D σ H := by
  subst he
  obtain ⟨⟨xs, s1⟩, e1, e2⟩ := bd_some hm
  refine hc B H W s (Ex.refl B) N.ex N.w N.d N.p xs s1 e1 _ fun p vs B1 H1 W1 sw p1 f n nw hp pr => ?_
  have N1 := N.step sw p1
  have fp : Hs p = none := N.g.fresh f
  obtain ⟨V1, V2, hV, dV, ⟨us, hv, pu⟩, back⟩ := (l p).open_ W1 B1 s1 p1
  subst hV hv
  have hV2 : V2 p = none := by
    cases hh : V2 p with
    | none => rfl
    | some o => exact absurd nw (uni_dom_r dV (nn hh))
  have dj : Dj (sing p (.lst vs)) V2 := fun c h => by
    have := sing_dom h
    subst this
    exact hV2
  refine q xs s1 p (uni (sing p (.lst vs)) V2) B1 H1 e2 ⟨N1.g, fun c o h => ?_, fun c h => ?_, back _ B1 xs (Ex.refl B1) dj ⟨vs, rfl, pr⟩, fun c h => ?_⟩ sw.g.b fp
  · by_cases ec : c = p
    · subst ec
      rw [uni_l sing_at] at h
      cases h
      exact hp
    · rw [uni_r (sing_ne ec)] at h
      exact N1.w c o (by rw [uni_r (dV.symm c (nn h))]; exact h)
  · rcases uni_dom h with z | z
    · have := sing_dom z
      subst this
      exact n
    · exact N1.d c (uni_dom_r dV z)
  · rcases uni_dom h with z | z
    · have := sing_dom z
      subst this
      exact .inr fp
    · exact N1.f c (uni_dom_r dV z)
end
end Cf

set_option Elab.async false
set_option linter.all false
set_option maxRecDepth 100000
set_option maxHeartbeats 4000000
namespace Cf
open PySem L2
open Rp (rp)
open RpL (rpl)
open Enc (enc)
section
variable {K : Fg} {M : Ms} {Bs Hs W : Hp} {σ : L2.St} {B H B' H' : Hp} {te ta tb tc : TE} {tt tu : TT} {tas : TA} {α β γ δ τ ρ S S' S1 S2 Z R : Type} {P : Ow S} {s : S} {D : Ends} {t u ts : TS} {g : TG}
/-! ### loops whose source changes one's own -/
theorem st_forF_r1S [OwOk P] {m : S → Option (Int × S)} {m' : Option (Int × S)} {b : Int → Z → Option (Fl Z R)} {z0 : Int × S → Z} {k : Fl Z R → Option ρ} {r : ρ} (I : Hp → Z → Hp → L2.St → Hp → Prop)
    (hm : (m'.bind fun p => ((some p.1).bind fun n => prange1 n).bind fun xs => (forF b xs (z0 p)).bind k) = some r) (N : Now M Bs Hs P W B H s) (hc : Cs K P ta σ B m) (he : m s = m')
    (h0 : ∀ Be H1 W1 x s1, Now M Bs Hs P W1 Be H1 s1 → Ex B Be → I Be (z0 (x, s1)) Be σ H1)
    (hs : ∀ Be x z B σ H v c (N : L2.St → Hp → Prop), I Be z B σ H → rp K B v x → b x z = some c → (∀ s2 B2 σ2 H2, c = .nx s2 → I Be s2 B2 σ2 H2 → N σ2 H2) → (∀ s2 B2 σ2 H2, c = .bk s2 → I Be s2 B2 σ2 H2 → D.nx σ2 H2) →
      (∀ r', c = .rt r' → k (.rt r') = some r) → g v σ H fun σ2 H2 => ts { D with nx := N, ct := N, bk := D.nx } σ2 H2)
    (hd : ∀ Be z B σ H, k (.nx z) = some r → I Be z B σ H → D.nx σ H) : tFor (iRng1 (tCons ta tNil)) g ts D σ H := by
  subst he
  obtain ⟨⟨n, s1⟩, e1, hm⟩ := bd_some hm
  obtain ⟨xs, e2, hm⟩ := bd_some hm
  obtain ⟨hb, ex⟩ := if_some (show (if n.natAbs < 4611686018427387904 then some (rangeL 0 n) else none) = some xs from e2)
  subst ex
  refine hc B H W s (Ex.refl B) N.ex N.w N.d N.p n s1 e1 _ fun v Be H1 W1 sw p1 hv => ?_
  cases (show v = .int n from hv)
  have hl := rangeL_len 0 n
  rw [Int.sub_zero] at hl
  refine ⟨n, rfl, (by omega), (by omega), forF_run (K := K) (xs := rangeL 0 n) (B := Be) (I Be) (fun i z B σ H hI hi => (by rw [hl] at hi; exact hi)) (fun i z B σ H hI hi => (by rw [hl] at hi; exact hi)) (fun i x z B σ H v H' hI hxi y => ?_) hm (h0 Be H1 W1 n s1 (N.step sw p1) sw.g.b) (fun x z B σ H v c N => hs Be x z B σ H v c N) (fun z B σ H => hd Be z B σ H)⟩
  obtain ⟨eH, ev⟩ := itr_yld _ hxi y
  subst eH
  exact ⟨B, hI, ev⟩
theorem st_forN_r1S [OwOk P] {m : S → Option (Int × S)} {m' : Option (Int × S)} {b : Int → Z → Option Z} {z0 : Int × S → Z} {k : Z → Option ρ} {r : ρ} (I : Hp → Z → Hp → L2.St → Hp → Prop)
    (hm : (m'.bind fun p => ((some p.1).bind fun n => prange1 n).bind fun xs => (forN b xs (z0 p)).bind k) = some r) (N : Now M Bs Hs P W B H s) (hc : Cs K P ta σ B m) (he : m s = m')
    (h0 : ∀ Be H1 W1 x s1, Now M Bs Hs P W1 Be H1 s1 → Ex B Be → I Be (z0 (x, s1)) Be σ H1)
    (hs : ∀ Be x z B σ H v z' (N : L2.St → Hp → Prop), I Be z B σ H → rp K B v x → b x z = some z' → (∀ B2 σ2 H2, I Be z' B2 σ2 H2 → N σ2 H2) → g v σ H fun σ2 H2 => ts { D with nx := N, ct := N, bk := D.nx } σ2 H2)
    (hd : ∀ Be z B σ H, k z = some r → I Be z B σ H → D.nx σ H) : tFor (iRng1 (tCons ta tNil)) g ts D σ H := by
  subst he
  obtain ⟨⟨n, s1⟩, e1, hm⟩ := bd_some hm
  obtain ⟨xs, e2, hm⟩ := bd_some hm
  obtain ⟨hb, ex⟩ := if_some (show (if n.natAbs < 4611686018427387904 then some (rangeL 0 n) else none) = some xs from e2)
  subst ex
  refine hc B H W s (Ex.refl B) N.ex N.w N.d N.p n s1 e1 _ fun v Be H1 W1 sw p1 hv => ?_
  cases (show v = .int n from hv)
  have hl := rangeL_len 0 n
  rw [Int.sub_zero] at hl
  refine ⟨n, rfl, (by omega), (by omega), forN_run (K := K) (xs := rangeL 0 n) (B := Be) (I Be) (fun i z B σ H hI hi => (by rw [hl] at hi; exact hi)) (fun i z B σ H hI hi => (by rw [hl] at hi; exact hi)) (fun i x z B σ H v H' hI hxi y => ?_) hm (h0 Be H1 W1 n s1 (N.step sw p1) sw.g.b) (fun x z B σ H v z' N => hs Be x z B σ H v z' N) (fun z B σ H => hd Be z B σ H)⟩
  obtain ⟨eH, ev⟩ := itr_yld _ hxi y
  subst eH
  exact ⟨B, hI, ev⟩
/-! ### range(a, b) -/
theorem st_forF_r2 {mi mi' : Option (Int × Int)} {b : Int → S → Option (Fl S R)} {s0 : S} {k : Fl S R → Option ρ} {r : ρ} (I : Hp → S → Hp → L2.St → Hp → Prop) (hm : ((mi'.bind fun n => prange2 n.1 n.2).bind fun xs => (forF b xs s0).bind k) = some r) (e : Ex B H) (hc : Ca K tas σ B (mi.bind fun n => some (n.1, n.2, ()))) (he : mi = mi')
    (h0 : ∀ Be H1, Gr noM B H Be H1 → I Be s0 Be σ H1)
    (hs : ∀ Be x s B σ H v c (N : L2.St → Hp → Prop), I Be s B σ H → rp K B v x → b x s = some c → (∀ s2 B2 σ2 H2, c = .nx s2 → I Be s2 B2 σ2 H2 → N σ2 H2) → (∀ s2 B2 σ2 H2, c = .bk s2 → I Be s2 B2 σ2 H2 → D.nx σ2 H2) →
      (∀ r', c = .rt r' → k (.rt r') = some r) → g v σ H fun σ2 H2 => ts { D with nx := N, ct := N, bk := D.nx } σ2 H2)
    (hd : ∀ Be s B σ H, k (.nx s) = some r → I Be s B σ H → D.nx σ H) : tFor (iRng2 tas) g ts D σ H := by
  subst he
  obtain ⟨xs, e1, e2⟩ := bd_some hm
  obtain ⟨⟨lo, hi⟩, e3, e4⟩ := bd_some e1
  obtain ⟨hb, ex⟩ := if_some (show (if lo.natAbs < 4611686018427387904 ∧ hi.natAbs < 4611686018427387904 then some (rangeL lo hi) else none) = some xs from e4)
  subst ex
  subst e3
  refine hc B H (Ex.refl B) e (lo, hi, ()) rfl _ fun vs Be H1 g1 hv => ?_
  obtain ⟨v1, _, rfl, h1, v2, _, rfl, h2, h3⟩ := hv
  cases h3
  cases (show v1 = .int lo from h1)
  cases (show v2 = .int hi from h2)
  have hl := rangeL_len lo hi
  refine ⟨lo, hi, rfl, (by omega), forF_run (K := K) (xs := rangeL lo hi) (B := Be) (I Be) (fun i s B σ H hI hi => (by rw [hl] at hi; exact hi)) (fun i s B σ H hI hi => (by rw [hl] at hi; exact hi)) (fun i x s B σ H v H' hI hxi y => ?_) e2 (h0 Be H1 g1) (fun x s B σ H v c N => hs Be x s B σ H v c N) (fun s B σ H => hd Be s B σ H)⟩
  obtain ⟨eH, ev⟩ := itr_yld _ hxi y
  subst eH
  exact ⟨B, hI, ev⟩
theorem st_forN_r2 {mi mi' : Option (Int × Int)} {b : Int → S → Option S} {s0 : S} {k : S → Option ρ} {r : ρ} (I : Hp → S → Hp → L2.St → Hp → Prop) (hm : ((mi'.bind fun n => prange2 n.1 n.2).bind fun xs => (forN b xs s0).bind k) = some r) (e : Ex B H) (hc : Ca K tas σ B (mi.bind fun n => some (n.1, n.2, ()))) (he : mi = mi')
    (h0 : ∀ Be H1, Gr noM B H Be H1 → I Be s0 Be σ H1)
    (hs : ∀ Be x s B σ H v s' (N : L2.St → Hp → Prop), I Be s B σ H → rp K B v x → b x s = some s' → (∀ B2 σ2 H2, I Be s' B2 σ2 H2 → N σ2 H2) → g v σ H fun σ2 H2 => ts { D with nx := N, ct := N, bk := D.nx } σ2 H2)
    (hd : ∀ Be s B σ H, k s = some r → I Be s B σ H → D.nx σ H) : tFor (iRng2 tas) g ts D σ H := by
  subst he
  obtain ⟨xs, e1, e2⟩ := bd_some hm
  obtain ⟨⟨lo, hi⟩, e3, e4⟩ := bd_some e1
  obtain ⟨hb, ex⟩ := if_some (show (if lo.natAbs < 4611686018427387904 ∧ hi.natAbs < 4611686018427387904 then some (rangeL lo hi) else none) = some xs from e4)
  subst ex
  subst e3
  refine hc B H (Ex.refl B) e (lo, hi, ()) rfl _ fun vs Be H1 g1 hv => ?_
  obtain ⟨v1, _, rfl, h1, v2, _, rfl, h2, h3⟩ := hv
  cases h3
  cases (show v1 = .int lo from h1)
  cases (show v2 = .int hi from h2)
  have hl := rangeL_len lo hi
  refine ⟨lo, hi, rfl, (by omega), forN_run (K := K) (xs := rangeL lo hi) (B := Be) (I Be) (fun i s B σ H hI hi => (by rw [hl] at hi; exact hi)) (fun i s B σ H hI hi => (by rw [hl] at hi; exact hi)) (fun i x s B σ H v H' hI hxi y => ?_) e2 (h0 Be H1 g1) (fun x s B σ H v s' N => hs Be x s B σ H v s' N) (fun s B σ H => hd Be s B σ H)⟩
  obtain ⟨eH, ev⟩ := itr_yld _ hxi y
  subst eH
  exact ⟨B, hI, ev⟩
/-! ### x += e -/
def Ipp (K : Fg) {α β γ : Type} [Rp α] [Rp β] [Rp γ] (ti : TIp) (f : α → β → Option γ) : Prop := ∀ B H x y z vx vy, Ex B H → rp K B vx x → rp K B vy y → f x y = some z → ∀ Q : VK, (∀ v, rp K B v z → Q v H) → ti vx vy H Q
theorem r2_ipadd : Ipp K (ipI fun i j => i + j) (fun i j : Int => some (i + j)) := fun B H x y z vx vy e hx hy ez Q q => by
  cases ez
  exact ⟨x, y, hx, hy, q _ rfl⟩
theorem r2_ipsub : Ipp K (ipI fun i j => i - j) (fun i j : Int => some (i - j)) := fun B H x y z vx vy e hx hy ez Q q => by
  cases ez
  exact ⟨x, y, hx, hy, q _ rfl⟩
theorem st_aug [Rp α] [Rp β] [Rp γ] {i : Nat} {v0 : V} {x0 : α} {ti : TIp} {f : α → β → Option γ} {m : Option β} {m' : Option γ} {k : γ → Option ρ} {r : ρ} (hm : m'.bind k = some r) (e : Ex B H) (hs : σ[i]? = some (some v0)) (h0 : rp K B v0 x0) (hf : Ipp K ti f) (hc : Cp K te σ B m) (he : (m.bind fun y => f x0 y) = m')
    (q : ∀ x v B1 H1, k x = some r → Gr noM B H B1 H1 → rp K B1 v x → D.nx (σ.set i (some v)) H1) : tAug i te ti D σ H := by
  subst he
  obtain ⟨z, e0, e3⟩ := bd_some hm
  obtain ⟨y, e1, e2⟩ := bd_some e0
  refine ⟨v0, hs, hc B H (Ex.refl B) e y e1 _ fun v B1 H1 g hv => ?_⟩
  exact hf B1 H1 x0 y z v0 v g.e (Rp.mono g.b h0) hv e2 _ fun w hw => q z w B1 H1 e3 g hw
end
end Cf
namespace Cf
open PySem L2
/-- an object of one's own changes -/
theorem sw_upd {W B H : Hp} {p : Addr} {o : HO} (e : Ex B H) (w : Ex W H) (d : Dj W B) (hp : W p ≠ none) : Sw W B H (upd W p o) B (upd H p o) :=
  ⟨Gr.mut e hp (d p hp) (w.nn hp), w.two, fun a h => by
    by_cases ea : a = p
    · subst ea
      exact d a hp
    · rw [upd_ne ea] at h
      exact d a h, fun a h => by
    by_cases ea : a = p
    · subst ea
      exact .inl hp
    · rw [upd_ne ea] at h
      exact .inl h⟩
/-- a new object of one's own -/
theorem sw_new {W B H : Hp} {p : Addr} {o : HO} (e : Ex B H) (w : Ex W H) (d : Dj W B) (hp : H p = none) : Sw W B H (upd W p o) B (upd H p o) :=
  ⟨Gr.newM e hp, w.two, fun a h => by
    by_cases ea : a = p
    · subst ea
      exact e.none hp
    · rw [upd_ne ea] at h
      exact d a h, fun a h => by
    by_cases ea : a = p
    · subst ea
      exact .inr hp
    · rw [upd_ne ea] at h
      exact .inl h⟩
end Cf

set_option Elab.async false
set_option linter.all false
set_option maxRecDepth 100000
set_option maxHeartbeats 4000000
namespace Cf
open PySem L2
open Rp (rp)
open RpL (rpl)
open Enc (enc)
structure T6 (α β γ δ ε ζ : Type) where
  a : α
  b : β
  c : γ
  d : δ
  e : ε
  f : ζ
  deriving DecidableEq
instance {α β γ δ ε ζ : Type} [Rp α] [Rp β] [Rp γ] [Rp δ] [Rp ε] [Rp ζ] : Rp (T6 α β γ δ ε ζ) := ⟨fun K B v x => ∃ a u0 u1 u2 u3 u4 u5, v = .ref a ∧ SqT K B a [u0, u1, u2, u3, u4, u5] ∧ rp K B u0 x.a ∧ rp K B u1 x.b ∧ rp K B u2 x.c ∧ rp K B u3 x.d ∧ rp K B u4 x.e ∧ rp K B u5 x.f, fun e ⟨a, u0, u1, u2, u3, u4, u5, h, s, p0, p1, p2, p3, p4, p5⟩ => ⟨a, u0, u1, u2, u3, u4, u5, h, sqt_mono e s, Rp.mono e p0, Rp.mono e p1, Rp.mono e p2, Rp.mono e p3, Rp.mono e p4, Rp.mono e p5⟩⟩
instance {α β γ δ ε ζ : Type} [Enc α] [Enc β] [Enc γ] [Enc δ] [Enc ε] [Enc ζ] : Enc (T6 α β γ δ ε ζ) where
  enc := fun x => PyData.tuple [enc x.a, enc x.b, enc x.c, enc x.d, enc x.e, enc x.f]
  to := fun h => by
    obtain ⟨a, u0, u1, u2, u3, u4, u5, rfl, s, p0, p1, p2, p3, p4, p5⟩ := h
    exact .tup s (.cons (Enc.to p0) (.cons (Enc.to p1) (.cons (Enc.to p2) (.cons (Enc.to p3) (.cons (Enc.to p4) (.cons (Enc.to p5) .nil))))))
instance {α β γ δ ε : Type} [Rp α] [Rp β] [Rp γ] [Rp δ] [Rp ε] [Flat α] [Flat β] [Flat γ] [Flat δ] [Flat ε] : Flat (T5 α β γ δ ε) := ⟨fun e ⟨a, u0, u1, u2, u3, u4, h, s, p0, p1, p2, p3, p4⟩ => ⟨a, u0, u1, u2, u3, u4, h, sqt_flat e s, Flat.flat e p0, Flat.flat e p1, Flat.flat e p2, Flat.flat e p3, Flat.flat e p4⟩⟩
instance {α β γ δ ε : Type} [Rp α] [Rp β] [Rp γ] [Rp δ] [Rp ε] : Nn (T5 α β γ δ ε) := ⟨fun ⟨a, u0, u1, u2, u3, u4, h, _⟩ z => by rw [z] at h; exact nomatch h⟩
instance {α β γ δ ε : Type} [Eqv α] [Eqv β] [Eqv γ] [Eqv δ] [Eqv ε] : Eqn (T5 α β γ δ ε) where
  pl := fun x => by
    show ((enc x.a).plain && ((enc x.b).plain && ((enc x.c).plain && ((enc x.d).plain && ((enc x.e).plain && true))))) = true
    rw [Eqv.pl, Eqv.pl, Eqv.pl, Eqv.pl, Eqv.pl]
    rfl
  deep := max (Eqv.deep α) (max (Eqv.deep β) (max (Eqv.deep γ) (max (Eqv.deep δ) (Eqv.deep ε)))) + 1
  dep := fun x => Nat.succ_le_succ (by
    show max (enc x.a).depth (max (enc x.b).depth (max (enc x.c).depth (max (enc x.d).depth (max (enc x.e).depth (0))))) ≤ _
    have h0 := Eqv.dep x.a
    have h1 := Eqv.dep x.b
    have h2 := Eqv.dep x.c
    have h3 := Eqv.dep x.d
    have h4 := Eqv.dep x.e
    omega)
  dec := by
    have : DecidableEq α := Eqv.dec
    have : DecidableEq β := Eqv.dec
    have : DecidableEq γ := Eqv.dec
    have : DecidableEq δ := Eqv.dec
    have : DecidableEq ε := Eqv.dec
    infer_instance
  eqv := fun x y => by
    show (PyData.eqv (enc x.a) (enc y.a) && (PyData.eqv (enc x.b) (enc y.b) && (PyData.eqv (enc x.c) (enc y.c) && (PyData.eqv (enc x.d) (enc y.d) && (PyData.eqv (enc x.e) (enc y.e) && true))))) = true ↔ _
    rw [Bool.and_eq_true, Bool.and_eq_true, Bool.and_eq_true,  and3, Eqv.eqv, Eqv.eqv, Eqv.eqv, Eqv.eqv, Eqv.eqv]
    cases x
    cases y
    simp
  nn := fun _ => ⟨rfl, rfl⟩
instance {α β γ δ ε ζ : Type} [Rp α] [Rp β] [Rp γ] [Rp δ] [Rp ε] [Rp ζ] [Flat α] [Flat β] [Flat γ] [Flat δ] [Flat ε] [Flat ζ] : Flat (T6 α β γ δ ε ζ) := ⟨fun e ⟨a, u0, u1, u2, u3, u4, u5, h, s, p0, p1, p2, p3, p4, p5⟩ => ⟨a, u0, u1, u2, u3, u4, u5, h, sqt_flat e s, Flat.flat e p0, Flat.flat e p1, Flat.flat e p2, Flat.flat e p3, Flat.flat e p4, Flat.flat e p5⟩⟩
instance {α β γ δ ε ζ : Type} [Rp α] [Rp β] [Rp γ] [Rp δ] [Rp ε] [Rp ζ] : Nn (T6 α β γ δ ε ζ) := ⟨fun ⟨a, u0, u1, u2, u3, u4, u5, h, _⟩ z => by rw [z] at h; exact nomatch h⟩
instance {α β γ δ ε ζ : Type} [Eqv α] [Eqv β] [Eqv γ] [Eqv δ] [Eqv ε] [Eqv ζ] : Eqn (T6 α β γ δ ε ζ) where
  pl := fun x => by
    show ((enc x.a).plain && ((enc x.b).plain && ((enc x.c).plain && ((enc x.d).plain && ((enc x.e).plain && ((enc x.f).plain && true)))))) = true
    rw [Eqv.pl, Eqv.pl, Eqv.pl, Eqv.pl, Eqv.pl, Eqv.pl]
    rfl
  deep := max (Eqv.deep α) (max (Eqv.deep β) (max (Eqv.deep γ) (max (Eqv.deep δ) (max (Eqv.deep ε) (Eqv.deep ζ))))) + 1
  dep := fun x => Nat.succ_le_succ (by
    show max (enc x.a).depth (max (enc x.b).depth (max (enc x.c).depth (max (enc x.d).depth (max (enc x.e).depth (max (enc x.f).depth (0)))))) ≤ _
    have h0 := Eqv.dep x.a
    have h1 := Eqv.dep x.b
    have h2 := Eqv.dep x.c
    have h3 := Eqv.dep x.d
    have h4 := Eqv.dep x.e
    have h5 := Eqv.dep x.f
    omega)
  dec := by
    have : DecidableEq α := Eqv.dec
    have : DecidableEq β := Eqv.dec
    have : DecidableEq γ := Eqv.dec
    have : DecidableEq δ := Eqv.dec
    have : DecidableEq ε := Eqv.dec
    have : DecidableEq ζ := Eqv.dec
    infer_instance
  eqv := fun x y => by
    show (PyData.eqv (enc x.a) (enc y.a) && (PyData.eqv (enc x.b) (enc y.b) && (PyData.eqv (enc x.c) (enc y.c) && (PyData.eqv (enc x.d) (enc y.d) && (PyData.eqv (enc x.e) (enc y.e) && (PyData.eqv (enc x.f) (enc y.f) && true)))))) = true ↔ _
    rw [Bool.and_eq_true, Bool.and_eq_true, Bool.and_eq_true, Bool.and_eq_true,  and3, Eqv.eqv, Eqv.eqv, Eqv.eqv, Eqv.eqv, Eqv.eqv, Eqv.eqv]
    cases x
    cases y
    simp
  nn := fun _ => ⟨rfl, rfl⟩
section
variable {K : Fg} {σ : L2.St} {B H B' H' : Hp} {te ta tb tc : TE} {tt tu : TT} {tas : TA} {α β γ δ ε ζ τ ρ S : Type} {P : Ow S}
theorem cp_tup4 [Rp α] [Rp β] [Rp γ] [Rp δ] {m : Option (α × β × γ × δ × Unit)} (h : Ca K tas σ B m) : Cp K (tTup tas) σ B (m.bind fun t => some (T4.mk t.1 t.2.1 t.2.2.1 t.2.2.2.1)) := fun B1 H1 b e z em Q q => by
  obtain ⟨t, e1, em⟩ := bd_some em
  cases em
  refine h B1 H1 b e t e1 _ fun vs B2 H2 g2 hv => ?_
  obtain ⟨v0, _, rfl, h0, v1, _, rfl, h1, v2, _, rfl, h2, v3, _, rfl, h3, hz⟩ := hv
  cases hz
  exact ⟨by show 4 ≤ sizeLine; decide, fun p np => q _ (upd B2 p (.tup [v0, v1, v2, v3])) _ (g2.trans (Gr.new g2.e np)) ⟨p, v0, v1, v2, v3, rfl, .inl (.inl upd_same), Rp.mono (Ex.new (g2.e.none np)) h0, Rp.mono (Ex.new (g2.e.none np)) h1, Rp.mono (Ex.new (g2.e.none np)) h2, Rp.mono (Ex.new (g2.e.none np)) h3⟩⟩
theorem cs_tup4 [Rp α] [Rp β] [Rp γ] [Rp δ] [OwOk P] {m : S → Option ((α × β × γ × δ × Unit) × S)} (h : Csa K P tas σ B m) : Cs K P (tTup tas) σ B (fun s => (m s).bind fun t => some (T4.mk t.1.1 t.1.2.1 t.1.2.2.1 t.1.2.2.2.1, t.2)) := fun B1 H1 W s b e w d p z s' em Q q => by
  obtain ⟨⟨t, s1⟩, e1, em⟩ := bd_some em
  cases em
  refine h B1 H1 W s b e w d p t _ e1 _ fun vs B2 H2 W2 sw p2 hv => ?_
  obtain ⟨v0, _, rfl, h0, v1, _, rfl, h1, v2, _, rfl, h2, v3, _, rfl, h3, hz⟩ := hv
  cases hz
  exact ⟨by show 4 ≤ sizeLine; decide, fun c np => q _ (upd B2 c (.tup [v0, v1, v2, v3])) _ W2 (sw.trans (Sw.pure (Gr.new sw.g.e np) sw.w sw.d)) (OwOk.mono (Ex.new (sw.g.e.none np)) p2) ⟨c, v0, v1, v2, v3, rfl, .inl (.inl upd_same), Rp.mono (Ex.new (sw.g.e.none np)) h0, Rp.mono (Ex.new (sw.g.e.none np)) h1, Rp.mono (Ex.new (sw.g.e.none np)) h2, Rp.mono (Ex.new (sw.g.e.none np)) h3⟩⟩
theorem cp_tup5 [Rp α] [Rp β] [Rp γ] [Rp δ] [Rp ε] {m : Option (α × β × γ × δ × ε × Unit)} (h : Ca K tas σ B m) : Cp K (tTup tas) σ B (m.bind fun t => some (T5.mk t.1 t.2.1 t.2.2.1 t.2.2.2.1 t.2.2.2.2.1)) := fun B1 H1 b e z em Q q => by
  obtain ⟨t, e1, em⟩ := bd_some em
  cases em
  refine h B1 H1 b e t e1 _ fun vs B2 H2 g2 hv => ?_
  obtain ⟨v0, _, rfl, h0, v1, _, rfl, h1, v2, _, rfl, h2, v3, _, rfl, h3, v4, _, rfl, h4, hz⟩ := hv
  cases hz
  exact ⟨by show 5 ≤ sizeLine; decide, fun p np => q _ (upd B2 p (.tup [v0, v1, v2, v3, v4])) _ (g2.trans (Gr.new g2.e np)) ⟨p, v0, v1, v2, v3, v4, rfl, .inl (.inl upd_same), Rp.mono (Ex.new (g2.e.none np)) h0, Rp.mono (Ex.new (g2.e.none np)) h1, Rp.mono (Ex.new (g2.e.none np)) h2, Rp.mono (Ex.new (g2.e.none np)) h3, Rp.mono (Ex.new (g2.e.none np)) h4⟩⟩
theorem cs_tup5 [Rp α] [Rp β] [Rp γ] [Rp δ] [Rp ε] [OwOk P] {m : S → Option ((α × β × γ × δ × ε × Unit) × S)} (h : Csa K P tas σ B m) : Cs K P (tTup tas) σ B (fun s => (m s).bind fun t => some (T5.mk t.1.1 t.1.2.1 t.1.2.2.1 t.1.2.2.2.1 t.1.2.2.2.2.1, t.2)) := fun B1 H1 W s b e w d p z s' em Q q => by
  obtain ⟨⟨t, s1⟩, e1, em⟩ := bd_some em
  cases em
  refine h B1 H1 W s b e w d p t _ e1 _ fun vs B2 H2 W2 sw p2 hv => ?_
  obtain ⟨v0, _, rfl, h0, v1, _, rfl, h1, v2, _, rfl, h2, v3, _, rfl, h3, v4, _, rfl, h4, hz⟩ := hv
  cases hz
  exact ⟨by show 5 ≤ sizeLine; decide, fun c np => q _ (upd B2 c (.tup [v0, v1, v2, v3, v4])) _ W2 (sw.trans (Sw.pure (Gr.new sw.g.e np) sw.w sw.d)) (OwOk.mono (Ex.new (sw.g.e.none np)) p2) ⟨c, v0, v1, v2, v3, v4, rfl, .inl (.inl upd_same), Rp.mono (Ex.new (sw.g.e.none np)) h0, Rp.mono (Ex.new (sw.g.e.none np)) h1, Rp.mono (Ex.new (sw.g.e.none np)) h2, Rp.mono (Ex.new (sw.g.e.none np)) h3, Rp.mono (Ex.new (sw.g.e.none np)) h4⟩⟩
theorem cp_tup6 [Rp α] [Rp β] [Rp γ] [Rp δ] [Rp ε] [Rp ζ] {m : Option (α × β × γ × δ × ε × ζ × Unit)} (h : Ca K tas σ B m) : Cp K (tTup tas) σ B (m.bind fun t => some (T6.mk t.1 t.2.1 t.2.2.1 t.2.2.2.1 t.2.2.2.2.1 t.2.2.2.2.2.1)) := fun B1 H1 b e z em Q q => by
  obtain ⟨t, e1, em⟩ := bd_some em
  cases em
  refine h B1 H1 b e t e1 _ fun vs B2 H2 g2 hv => ?_
  obtain ⟨v0, _, rfl, h0, v1, _, rfl, h1, v2, _, rfl, h2, v3, _, rfl, h3, v4, _, rfl, h4, v5, _, rfl, h5, hz⟩ := hv
  cases hz
  exact ⟨by show 6 ≤ sizeLine; decide, fun p np => q _ (upd B2 p (.tup [v0, v1, v2, v3, v4, v5])) _ (g2.trans (Gr.new g2.e np)) ⟨p, v0, v1, v2, v3, v4, v5, rfl, .inl (.inl upd_same), Rp.mono (Ex.new (g2.e.none np)) h0, Rp.mono (Ex.new (g2.e.none np)) h1, Rp.mono (Ex.new (g2.e.none np)) h2, Rp.mono (Ex.new (g2.e.none np)) h3, Rp.mono (Ex.new (g2.e.none np)) h4, Rp.mono (Ex.new (g2.e.none np)) h5⟩⟩
theorem cs_tup6 [Rp α] [Rp β] [Rp γ] [Rp δ] [Rp ε] [Rp ζ] [OwOk P] {m : S → Option ((α × β × γ × δ × ε × ζ × Unit) × S)} (h : Csa K P tas σ B m) : Cs K P (tTup tas) σ B (fun s => (m s).bind fun t => some (T6.mk t.1.1 t.1.2.1 t.1.2.2.1 t.1.2.2.2.1 t.1.2.2.2.2.1 t.1.2.2.2.2.2.1, t.2)) := fun B1 H1 W s b e w d p z s' em Q q => by
  obtain ⟨⟨t, s1⟩, e1, em⟩ := bd_some em
  cases em
  refine h B1 H1 W s b e w d p t _ e1 _ fun vs B2 H2 W2 sw p2 hv => ?_
  obtain ⟨v0, _, rfl, h0, v1, _, rfl, h1, v2, _, rfl, h2, v3, _, rfl, h3, v4, _, rfl, h4, v5, _, rfl, h5, hz⟩ := hv
  cases hz
  exact ⟨by show 6 ≤ sizeLine; decide, fun c np => q _ (upd B2 c (.tup [v0, v1, v2, v3, v4, v5])) _ W2 (sw.trans (Sw.pure (Gr.new sw.g.e np) sw.w sw.d)) (OwOk.mono (Ex.new (sw.g.e.none np)) p2) ⟨c, v0, v1, v2, v3, v4, v5, rfl, .inl (.inl upd_same), Rp.mono (Ex.new (sw.g.e.none np)) h0, Rp.mono (Ex.new (sw.g.e.none np)) h1, Rp.mono (Ex.new (sw.g.e.none np)) h2, Rp.mono (Ex.new (sw.g.e.none np)) h3, Rp.mono (Ex.new (sw.g.e.none np)) h4, Rp.mono (Ex.new (sw.g.e.none np)) h5⟩⟩
theorem cp_item3_0 [Rp α] [Rp β] [Rp γ] {m : Option (T3 α β γ)} (h : Cp K ta σ B m) : Cp K (tOp (rIxT K) ta (tC (.int 0))) σ B (m.bind fun x => some x.a) := cp_ixT (fun h => by obtain ⟨a, u0, u1, u2, h, s, p0, p1, p2⟩ := h; exact ⟨a, _, u0, h, s, rfl, p0⟩) h
theorem cp_item3_1 [Rp α] [Rp β] [Rp γ] {m : Option (T3 α β γ)} (h : Cp K ta σ B m) : Cp K (tOp (rIxT K) ta (tC (.int 1))) σ B (m.bind fun x => some x.b) := cp_ixT (fun h => by obtain ⟨a, u0, u1, u2, h, s, p0, p1, p2⟩ := h; exact ⟨a, _, u1, h, s, rfl, p1⟩) h
theorem cp_item3_2 [Rp α] [Rp β] [Rp γ] {m : Option (T3 α β γ)} (h : Cp K ta σ B m) : Cp K (tOp (rIxT K) ta (tC (.int 2))) σ B (m.bind fun x => some x.c) := cp_ixT (fun h => by obtain ⟨a, u0, u1, u2, h, s, p0, p1, p2⟩ := h; exact ⟨a, _, u2, h, s, rfl, p2⟩) h
theorem isi_tuple3 [Rp α] [Rp β] [Rp γ] : Isi (T3 α β γ) K "tuple" (fun _ => true) := fun h => by
  obtain ⟨a, u0, u1, u2, rfl, s, _⟩ := h
  exact ⟨_, tyx_sqt s, kit_tuple_tuple⟩
theorem isi_otuple3 [Rp α] [Rp β] [Rp γ] : Isi (Option (T3 α β γ)) K "tuple" (fun x => x.isSome) := fun {B v x} h => by
  cases x with
  | none =>
    cases (show v = V.non from h)
    exact ⟨_, .base .non, kit_NoneType_tuple⟩
  | some y =>
    obtain ⟨a, u0, u1, u2, rfl, s, _⟩ := (show rp K B v y from h)
    exact ⟨_, tyx_sqt s, kit_tuple_tuple⟩
theorem cp_item4_0 [Rp α] [Rp β] [Rp γ] [Rp δ] {m : Option (T4 α β γ δ)} (h : Cp K ta σ B m) : Cp K (tOp (rIxT K) ta (tC (.int 0))) σ B (m.bind fun x => some x.a) := cp_ixT (fun h => by obtain ⟨a, u0, u1, u2, u3, h, s, p0, p1, p2, p3⟩ := h; exact ⟨a, _, u0, h, s, rfl, p0⟩) h
theorem cp_item4_1 [Rp α] [Rp β] [Rp γ] [Rp δ] {m : Option (T4 α β γ δ)} (h : Cp K ta σ B m) : Cp K (tOp (rIxT K) ta (tC (.int 1))) σ B (m.bind fun x => some x.b) := cp_ixT (fun h => by obtain ⟨a, u0, u1, u2, u3, h, s, p0, p1, p2, p3⟩ := h; exact ⟨a, _, u1, h, s, rfl, p1⟩) h
theorem cp_item4_2 [Rp α] [Rp β] [Rp γ] [Rp δ] {m : Option (T4 α β γ δ)} (h : Cp K ta σ B m) : Cp K (tOp (rIxT K) ta (tC (.int 2))) σ B (m.bind fun x => some x.c) := cp_ixT (fun h => by obtain ⟨a, u0, u1, u2, u3, h, s, p0, p1, p2, p3⟩ := h; exact ⟨a, _, u2, h, s, rfl, p2⟩) h
theorem cp_item4_3 [Rp α] [Rp β] [Rp γ] [Rp δ] {m : Option (T4 α β γ δ)} (h : Cp K ta σ B m) : Cp K (tOp (rIxT K) ta (tC (.int 3))) σ B (m.bind fun x => some x.d) := cp_ixT (fun h => by obtain ⟨a, u0, u1, u2, u3, h, s, p0, p1, p2, p3⟩ := h; exact ⟨a, _, u3, h, s, rfl, p3⟩) h
theorem isi_tuple4 [Rp α] [Rp β] [Rp γ] [Rp δ] : Isi (T4 α β γ δ) K "tuple" (fun _ => true) := fun h => by
  obtain ⟨a, u0, u1, u2, u3, rfl, s, _⟩ := h
  exact ⟨_, tyx_sqt s, kit_tuple_tuple⟩
theorem isi_otuple4 [Rp α] [Rp β] [Rp γ] [Rp δ] : Isi (Option (T4 α β γ δ)) K "tuple" (fun x => x.isSome) := fun {B v x} h => by
  cases x with
  | none =>
    cases (show v = V.non from h)
    exact ⟨_, .base .non, kit_NoneType_tuple⟩
  | some y =>
    obtain ⟨a, u0, u1, u2, u3, rfl, s, _⟩ := (show rp K B v y from h)
    exact ⟨_, tyx_sqt s, kit_tuple_tuple⟩
theorem cp_item5_0 [Rp α] [Rp β] [Rp γ] [Rp δ] [Rp ε] {m : Option (T5 α β γ δ ε)} (h : Cp K ta σ B m) : Cp K (tOp (rIxT K) ta (tC (.int 0))) σ B (m.bind fun x => some x.a) := cp_ixT (fun h => by obtain ⟨a, u0, u1, u2, u3, u4, h, s, p0, p1, p2, p3, p4⟩ := h; exact ⟨a, _, u0, h, s, rfl, p0⟩) h
theorem cp_item5_1 [Rp α] [Rp β] [Rp γ] [Rp δ] [Rp ε] {m : Option (T5 α β γ δ ε)} (h : Cp K ta σ B m) : Cp K (tOp (rIxT K) ta (tC (.int 1))) σ B (m.bind fun x => some x.b) := cp_ixT (fun h => by obtain ⟨a, u0, u1, u2, u3, u4, h, s, p0, p1, p2, p3, p4⟩ := h; exact ⟨a, _, u1, h, s, rfl, p1⟩) h
theorem cp_item5_2 [Rp α] [Rp β] [Rp γ] [Rp δ] [Rp ε] {m : Option (T5 α β γ δ ε)} (h : Cp K ta σ B m) : Cp K (tOp (rIxT K) ta (tC (.int 2))) σ B (m.bind fun x => some x.c) := cp_ixT (fun h => by obtain ⟨a, u0, u1, u2, u3, u4, h, s, p0, p1, p2, p3, p4⟩ := h; exact ⟨a, _, u2, h, s, rfl, p2⟩) h
theorem cp_item5_3 [Rp α] [Rp β] [Rp γ] [Rp δ] [Rp ε] {m : Option (T5 α β γ δ ε)} (h : Cp K ta σ B m) : Cp K (tOp (rIxT K) ta (tC (.int 3))) σ B (m.bind fun x => some x.d) := cp_ixT (fun h => by obtain ⟨a, u0, u1, u2, u3, u4, h, s, p0, p1, p2, p3, p4⟩ := h; exact ⟨a, _, u3, h, s, rfl, p3⟩) h
theorem cp_item5_4 [Rp α] [Rp β] [Rp γ] [Rp δ] [Rp ε] {m : Option (T5 α β γ δ ε)} (h : Cp K ta σ B m) : Cp K (tOp (rIxT K) ta (tC (.int 4))) σ B (m.bind fun x => some x.e) := cp_ixT (fun h => by obtain ⟨a, u0, u1, u2, u3, u4, h, s, p0, p1, p2, p3, p4⟩ := h; exact ⟨a, _, u4, h, s, rfl, p4⟩) h
theorem isi_tuple5 [Rp α] [Rp β] [Rp γ] [Rp δ] [Rp ε] : Isi (T5 α β γ δ ε) K "tuple" (fun _ => true) := fun h => by
  obtain ⟨a, u0, u1, u2, u3, u4, rfl, s, _⟩ := h
  exact ⟨_, tyx_sqt s, kit_tuple_tuple⟩
theorem isi_otuple5 [Rp α] [Rp β] [Rp γ] [Rp δ] [Rp ε] : Isi (Option (T5 α β γ δ ε)) K "tuple" (fun x => x.isSome) := fun {B v x} h => by
  cases x with
  | none =>
    cases (show v = V.non from h)
    exact ⟨_, .base .non, kit_NoneType_tuple⟩
  | some y =>
    obtain ⟨a, u0, u1, u2, u3, u4, rfl, s, _⟩ := (show rp K B v y from h)
    exact ⟨_, tyx_sqt s, kit_tuple_tuple⟩
theorem cp_item6_0 [Rp α] [Rp β] [Rp γ] [Rp δ] [Rp ε] [Rp ζ] {m : Option (T6 α β γ δ ε ζ)} (h : Cp K ta σ B m) : Cp K (tOp (rIxT K) ta (tC (.int 0))) σ B (m.bind fun x => some x.a) := cp_ixT (fun h => by obtain ⟨a, u0, u1, u2, u3, u4, u5, h, s, p0, p1, p2, p3, p4, p5⟩ := h; exact ⟨a, _, u0, h, s, rfl, p0⟩) h
theorem cp_item6_1 [Rp α] [Rp β] [Rp γ] [Rp δ] [Rp ε] [Rp ζ] {m : Option (T6 α β γ δ ε ζ)} (h : Cp K ta σ B m) : Cp K (tOp (rIxT K) ta (tC (.int 1))) σ B (m.bind fun x => some x.b) := cp_ixT (fun h => by obtain ⟨a, u0, u1, u2, u3, u4, u5, h, s, p0, p1, p2, p3, p4, p5⟩ := h; exact ⟨a, _, u1, h, s, rfl, p1⟩) h
theorem cp_item6_2 [Rp α] [Rp β] [Rp γ] [Rp δ] [Rp ε] [Rp ζ] {m : Option (T6 α β γ δ ε ζ)} (h : Cp K ta σ B m) : Cp K (tOp (rIxT K) ta (tC (.int 2))) σ B (m.bind fun x => some x.c) := cp_ixT (fun h => by obtain ⟨a, u0, u1, u2, u3, u4, u5, h, s, p0, p1, p2, p3, p4, p5⟩ := h; exact ⟨a, _, u2, h, s, rfl, p2⟩) h
theorem cp_item6_3 [Rp α] [Rp β] [Rp γ] [Rp δ] [Rp ε] [Rp ζ] {m : Option (T6 α β γ δ ε ζ)} (h : Cp K ta σ B m) : Cp K (tOp (rIxT K) ta (tC (.int 3))) σ B (m.bind fun x => some x.d) := cp_ixT (fun h => by obtain ⟨a, u0, u1, u2, u3, u4, u5, h, s, p0, p1, p2, p3, p4, p5⟩ := h; exact ⟨a, _, u3, h, s, rfl, p3⟩) h
theorem cp_item6_4 [Rp α] [Rp β] [Rp γ] [Rp δ] [Rp ε] [Rp ζ] {m : Option (T6 α β γ δ ε ζ)} (h : Cp K ta σ B m) : Cp K (tOp (rIxT K) ta (tC (.int 4))) σ B (m.bind fun x => some x.e) := cp_ixT (fun h => by obtain ⟨a, u0, u1, u2, u3, u4, u5, h, s, p0, p1, p2, p3, p4, p5⟩ := h; exact ⟨a, _, u4, h, s, rfl, p4⟩) h
theorem cp_item6_5 [Rp α] [Rp β] [Rp γ] [Rp δ] [Rp ε] [Rp ζ] {m : Option (T6 α β γ δ ε ζ)} (h : Cp K ta σ B m) : Cp K (tOp (rIxT K) ta (tC (.int 5))) σ B (m.bind fun x => some x.f) := cp_ixT (fun h => by obtain ⟨a, u0, u1, u2, u3, u4, u5, h, s, p0, p1, p2, p3, p4, p5⟩ := h; exact ⟨a, _, u5, h, s, rfl, p5⟩) h
theorem isi_tuple6 [Rp α] [Rp β] [Rp γ] [Rp δ] [Rp ε] [Rp ζ] : Isi (T6 α β γ δ ε ζ) K "tuple" (fun _ => true) := fun h => by
  obtain ⟨a, u0, u1, u2, u3, u4, u5, rfl, s, _⟩ := h
  exact ⟨_, tyx_sqt s, kit_tuple_tuple⟩
theorem isi_otuple6 [Rp α] [Rp β] [Rp γ] [Rp δ] [Rp ε] [Rp ζ] : Isi (Option (T6 α β γ δ ε ζ)) K "tuple" (fun x => x.isSome) := fun {B v x} h => by
  cases x with
  | none =>
    cases (show v = V.non from h)
    exact ⟨_, .base .non, kit_NoneType_tuple⟩
  | some y =>
    obtain ⟨a, u0, u1, u2, u3, u4, u5, rfl, s, _⟩ := (show rp K B v y from h)
    exact ⟨_, tyx_sqt s, kit_tuple_tuple⟩
end
end Cf

set_option Elab.async false
set_option linter.all false
set_option maxRecDepth 100000
set_option maxHeartbeats 4000000
namespace Cf
open PySem L2
open Rp (rp)
open RpL (rpl)
open Enc (enc)
/-! ### objects of one's own whose attributes are values -/
def OwRec {τ : Type} [RpL τ] (K : Fg) (C : Str) (nm : List Str) (a : Addr) : Ow τ := fun W B s => ∃ dx vs, W = sing a (.ins (He.ga K C) dx (nm.zip vs)) ∧ vs.length = nm.length ∧ rpl K B vs s
instance {τ : Type} [RpL τ] {K : Fg} {C : Str} {nm : List Str} {a : Addr} : OwOk (OwRec (τ := τ) K C nm a) := ⟨fun e ⟨dx, vs, h, n, r⟩ => ⟨dx, vs, h, n, RpL.mono e r⟩, fun {W B s b o} ⟨dx, vs, h, n, r⟩ e => by
  subst h
  have := sing_dom (nn e)
  subst this
  rw [sing_at] at e
  cases e
  rfl⟩
structure Fd {τ γ : Type} [RpL τ] [Rp γ] (nm : List Str) (f : Str) (get : τ → γ) (put : τ → γ → τ) : Prop where
  g : ∀ {K : Fg} {B : Hp} {vs : List V} {s : τ}, rpl K B vs s → ∃ u, (nm.zip vs).lookup f = some u ∧ rp K B u (get s)
  p : ∀ {K : Fg} {B : Hp} {vs : List V} {s : τ} {u : V} {x : γ}, rpl K B vs s → rp K B u x → ∃ ws, putF f u (nm.zip vs) = nm.zip ws ∧ ws.length = vs.length ∧ rpl K B ws (put s x)
theorem look_here {f : Str} {v : V} {r : List (Str × V)} : ((f, v) :: r).lookup f = some v := by
  show (match (f == f) with | true => some v | false => r.lookup f) = some v
  rw [beq_self_eq_true]
theorem look_there {f g : Str} {v : V} {r : List (Str × V)} (h : (f == g) = false) : ((g, v) :: r).lookup f = r.lookup f := by
  show (match (f == g) with | true => some v | false => r.lookup f) = _
  rw [h]
theorem put_here {f : Str} {u v : V} {r : List (Str × V)} : putF f u ((f, v) :: r) = (f, u) :: r := if_pos rfl
theorem put_there {f g : Str} {u v : V} {r : List (Str × V)} (h : (f == g) = false) : putF f u ((g, v) :: r) = (g, v) :: putF f u r := if_neg (fun z => by rw [z, beq_self_eq_true] at h; cases h)
theorem fd_here {γ τ : Type} [Rp γ] [RpL τ] {f : Str} {nm : List Str} : Fd (τ := γ × τ) (f :: nm) f (fun s => s.1) (fun s x => (x, s.2)) := ⟨fun ⟨v, us, h, p, q⟩ => by
  subst h
  exact ⟨v, look_here, p⟩, fun {K B vs s u x} ⟨v, us, h, p, q⟩ hu => by
  subst h
  exact ⟨u :: us, put_here, rfl, u, us, rfl, hu, q⟩⟩
theorem fd_there {γ τ δ : Type} [Rp γ] [RpL τ] [Rp δ] {f g : Str} {nm : List Str} {get : τ → γ} {put : τ → γ → τ} (h : Fd nm f get put) (ne : (f == g) = false := by decide) : Fd (τ := δ × τ) (g :: nm) f (fun s => get s.2) (fun s x => (s.1, put s.2 x)) := ⟨fun ⟨v, us, hv, p, q⟩ => by
  subst hv
  obtain ⟨u, h1, h2⟩ := h.g q
  exact ⟨u, (look_there ne).trans h1, h2⟩, fun {K B vs s u x} ⟨v, us, hv, p, q⟩ hu => by
  subst hv
  obtain ⟨ws, h1, h2, h3⟩ := h.p q hu
  exact ⟨v :: ws, (put_there ne).trans (congrArg _ h1), congrArg Nat.succ h2, v, ws, rfl, p, h3⟩⟩
/-- a new attribute -/
structure Ad {τ γ τ' : Type} [RpL τ] [Rp γ] [RpL τ'] (nm : List Str) (f : Str) (nm' : List Str) (add : τ → γ → τ') : Prop where
  a : ∀ {K : Fg} {B : Hp} {vs : List V} {s : τ} {u : V} {x : γ}, rpl K B vs s → vs.length = nm.length → rp K B u x → ∃ ws, putF f u (nm.zip vs) = nm'.zip ws ∧ ws.length = nm'.length ∧ rpl K B ws (add s x)
theorem ad_nil {γ : Type} [Rp γ] {f : Str} : Ad (τ := Unit) (τ' := γ × Unit) [] f [f] (fun _ x => (x, ())) := ⟨fun {K B vs s u x} h _ hu => by
  cases (show vs = [] from h)
  exact ⟨[u], rfl, rfl, u, [], rfl, hu, rfl⟩⟩
theorem ad_cons {γ τ τ' δ : Type} [Rp γ] [RpL τ] [RpL τ'] [Rp δ] {f g : Str} {nm nm' : List Str} {add : τ → γ → τ'} (h : Ad nm f nm' add) (ne : (f == g) = false := by decide) : Ad (τ := δ × τ) (τ' := δ × τ') (g :: nm) f (g :: nm') (fun s x => (s.1, add s.2 x)) := ⟨fun {K B vs s u x} ⟨v, us, hv, p, q⟩ hl hu => by
  subst hv
  obtain ⟨ws, h1, h2, h3⟩ := h.a q (Nat.succ.inj hl) hu
  exact ⟨v :: ws, (put_there ne).trans (congrArg _ h1), congrArg Nat.succ h2, v, ws, rfl, p, h3⟩⟩
section
variable {K : Fg} {M : Ms} {Bs Hs W : Hp} {σ : L2.St} {B H B' H' : Hp} {te ta tb tc : TE} {tt tu : TT} {tas : TA} {α β γ δ τ τ' ρ S S' S1 S2 Z R : Type} {P : Ow S} {s : S} {D : Ends} {t u ts : TS} {g : TG}
theorem zip_none {m : Str} : ∀ {nm : List Str} (vs : List V), m ∉ nm → (nm.zip vs).lookup m = none
  | [], _, _ => rfl
  | _ :: _, [], _ => rfl
  | g :: nm, v :: vs, h => by
    have hne : (m == g) = false := beq_eq_false_iff_ne.mpr fun z => h (by rw [z]; exact List.mem_cons_self)
    exact (look_there hne).trans (zip_none vs fun z => h (List.mem_cons_of_mem _ z))
theorem rec_obj [RpL τ] {C : Str} {nm : List Str} {m : Str} (h : m ∉ nm) : IsObj (OwRec (τ := τ) K C nm) K C m := fun {a W B s} ⟨dx, vs, hw, hl, r⟩ => by
  subst hw
  exact ⟨dx, _, sing_at, zip_none vs h⟩
/-- an attribute, read -/
theorem cp_recfld [RpL τ] [Rp γ] {C f : Str} {nm : List Str} {a : Addr} {i : Nat} {get : S → τ} {put : S → τ → S} {gf : τ → γ} {pf : τ → γ → τ} (l : Ln P (OwRec K C nm a) get put) (fd : Fd nm f gf pf) (hs : σ[i]? = some (some (.ref a))) (c : Cls K (He.ga K C)) (n : NoAttr K (He.ga K C) f) (p : P W B s) (d : Dj W B) :
    Cp K (tFld K (tVar i) f) σ (uni W B) (some (gf (get s))) := by
  obtain ⟨V1, V2, hV, dV, ⟨dx, vs, h1, h2, h3⟩, _⟩ := l.open_ W B s p
  subst hV h1
  obtain ⟨u, e1, e2⟩ := fd.g h3
  exact cp_ownfld hs (uni_l (uni_l sing_at)) c n e1 (Rp.mono (ex_uni_r d) e2)
theorem upd_uni {V1 V2 : Hp} {a : Addr} {o o' : HO} : upd (uni (sing a o) V2) a o' = uni (sing a o') V2 := by
  funext b
  by_cases eb : b = a
  · subst eb
    rw [upd_same, uni_l sing_at]
  · rw [upd_ne eb, uni_r (sing_ne eb), uni_r (sing_ne eb)]
/-- self.f = e -/
theorem st_setF [RpL τ] [Rp γ] {C f : Str} {nm : List Str} {a : Addr} {i : Nat} {get : S → τ} {put : S → τ → S} {gf : τ → γ} {pf : τ → γ → τ} (l : Ln P (OwRec K C nm a) get put) (fd : Fd nm f gf pf) (hl : nm.length < 1000) (hs : σ[i]? = some (some (.ref a))) (c : Cls K (He.ga K C)) (n : NoAttr K (He.ga K C) f)
    {m : S → Option (γ × S)} {m' : Option (γ × S)} {k : γ × S → Option ρ} {r : ρ} (hm : m'.bind k = some r) (N : Now M Bs Hs P W B H s) (hc : Cs K P te σ B m) (he : m s = m')
    (q : ∀ x s1 W1 B1 H1, k (x, s1) = some r → Now M Bs Hs P W1 B1 H1 (put s1 (pf (get s1) x)) → Ex B B1 → D.nx σ H1) : sFld K (tVar i) te f D σ H := by
  subst he
  obtain ⟨⟨x, s1⟩, e1, e2⟩ := bd_some hm
  refine hc B H W s (Ex.refl B) N.ex N.w N.d N.p x s1 e1 _ fun v B1 H1 W1 sw p1 hv => ?_
  obtain ⟨V1, V2, hV, dV, ⟨dx, vs, h1, h2, h3⟩, back⟩ := l.open_ W1 B1 s1 p1
  subst hV h1
  obtain ⟨ws, e3, e4, e5⟩ := fd.p h3 hv
  have hz : (nm.zip vs).length < 1000 := by rw [List.length_zip, h2, Nat.min_self]; exact hl
  refine ⟨.ref a, hs, a, _, dx, _, rfl, sw.w a _ (uni_l sing_at), c, n, hz, ?_⟩
  have N1 := N.step sw p1
  have hd : uni (sing a (.ins (He.ga K C) dx (nm.zip vs))) V2 a ≠ none := nn (uni_l sing_at)
  have y := sw_upd (o := .ins (He.ga K C) dx (putF f v (nm.zip vs))) sw.g.e sw.w sw.d hd
  rw [upd_uni (V1 := emp)] at y
  have dj : Dj (sing a (.ins (He.ga K C) dx (putF f v (nm.zip vs)))) V2 := fun b h => dV b (by rw [sing_dom h]; exact nn sing_at)
  exact q x s1 _ B1 _ e2 (N1.step y (back _ B1 _ (Ex.refl B1) dj ⟨dx, ws, by rw [e3], e4.trans h2, e5⟩)) sw.g.b
/-- self.f op= e -/
theorem st_augF [RpL τ] [Rp γ] [Rp β] {C f : Str} {nm : List Str} {a : Addr} {i : Nat} {get : S → τ} {put : S → τ → S} {gf : τ → γ} {pf : τ → γ → τ} {rd : R2} {f2 : γ → β → Option γ} (l : Ln P (OwRec K C nm a) get put) (fd : Fd nm f gf pf) (hl : nm.length < 1000) (hs : σ[i]? = some (some (.ref a))) (c : Cls K (He.ga K C)) (n : NoAttr K (He.ga K C) f) (hr : R2p K rd f2) [OwOk P]
    {m : S → Option (β × S)} {m' : Option (γ × S)} {k : γ × S → Option ρ} {r : ρ} (hm : m'.bind k = some r) (N : Now M Bs Hs P W B H s) (hc : Cs K P te σ B m) (he : ((m s).bind fun p => (f2 (gf (get s)) p.1).bind fun z => some (z, p.2)) = m')
    (q : ∀ x s1 W1 B1 H1, k (x, s1) = some r → Now M Bs Hs P W1 B1 H1 (put s1 (pf (get s1) x)) → Ex B B1 → D.nx σ H1) : sFldAug K (tVar i) te rd f D σ H := by
  subst he
  obtain ⟨⟨z0, s0⟩, e0, e2⟩ := bd_some hm
  obtain ⟨⟨x, s1⟩, e1, e0⟩ := bd_some e0
  obtain ⟨z, e3, e0⟩ := bd_some e0
  obtain ⟨rfl, rfl⟩ : z = z0 ∧ s1 = s0 := by
    cases e0
    exact ⟨rfl, rfl⟩
  obtain ⟨V1, V2, hV, dV, ⟨dx, vs, h1, h2, h3⟩, _⟩ := l.open_ W B s N.p
  obtain ⟨u, g1, g2⟩ := fd.g h3
  refine ⟨.ref a, hs, a, _, dx, _, u, rfl, N.w a _ (by rw [hV, h1]; exact uni_l sing_at), c, n, g1, ?_⟩
  refine hc B H W s (Ex.refl B) N.ex N.w N.d N.p x s1 e1 _ fun v B1 H1 W1 sw p1 hv => ?_
  refine hr B1 H1 (gf (get s)) x z u v sw.g.e (Rp.mono sw.g.b g2) hv e3 _ fun w B2 H2 g3 hw => ?_
  have N1 := (N.step sw p1).pure g3
  obtain ⟨V1, V2, hV, dV, ⟨dx, vs, h1, h2, h3⟩, back⟩ := l.open_ W1 B2 s1 N1.p
  subst hV h1
  obtain ⟨ws, e6, e4, e5⟩ := fd.p h3 hw
  have hz : (nm.zip vs).length < 1000 := by rw [List.length_zip, h2, Nat.min_self]; exact hl
  refine ⟨dx, _, N1.w a _ (uni_l sing_at), hz, ?_⟩
  have hd : uni (sing a (.ins (He.ga K C) dx (nm.zip vs))) V2 a ≠ none := nn (uni_l sing_at)
  have y := sw_upd (o := .ins (He.ga K C) dx (putF f w (nm.zip vs))) N1.ex N1.w N1.d hd
  rw [upd_uni (V1 := emp)] at y
  have dj : Dj (sing a (.ins (He.ga K C) dx (putF f w (nm.zip vs)))) V2 := fun b h => dV b (by rw [sing_dom h]; exact nn sing_at)
  exact q z s1 _ B2 _ e2 (N1.step y (back _ B2 _ (Ex.refl B2) dj ⟨dx, ws, by rw [e6], e4.trans h2, e5⟩)) (sw.g.b.trans g3.b)
/-- self.f = e, where f is new -/
theorem st_addF [RpL τ] [Rp γ] [RpL τ'] {C f : Str} {nm nm' : List Str} {a : Addr} {i : Nat} {s : τ} {add : τ → γ → τ'} (ad : Ad nm f nm' add) (hl : nm.length < 1000) (hs : σ[i]? = some (some (.ref a))) (c : Cls K (He.ga K C)) (n : NoAttr K (He.ga K C) f)
    {m m' : Option γ} {k : γ → Option ρ} {r : ρ} (hm : m'.bind k = some r) (N : Now M Bs Hs (OwRec K C nm a) W B H s) (hc : Cp K te σ B m) (he : m = m')
    (q : ∀ x W1 B1 H1, k x = some r → Now M Bs Hs (OwRec K C nm' a) W1 B1 H1 (add s x) → Ex B B1 → D.nx σ H1) : sFld K (tVar i) te f D σ H := by
  subst he
  obtain ⟨x, e1, e2⟩ := bd_some hm
  refine hc B H (Ex.refl B) N.ex x e1 _ fun v B1 H1 g hv => ?_
  have N1 := N.pure g
  obtain ⟨dx, vs, h1, h2, h3⟩ := N1.p
  subst h1
  obtain ⟨ws, e3, e4, e5⟩ := ad.a h3 h2 hv
  have hz : (nm.zip vs).length < 1000 := by rw [List.length_zip, h2, Nat.min_self]; exact hl
  refine ⟨.ref a, hs, a, _, dx, _, rfl, N1.w a _ sing_at, c, n, hz, ?_⟩
  have y := sw_upd (o := .ins (He.ga K C) dx (putF f v (nm.zip vs))) N1.ex N1.w N1.d (nn sing_at)
  rw [upd_sing] at y
  exact q x _ B1 _ e2 (N1.step y ⟨dx, ws, by rw [e3], e4, e5⟩) g.b
end
end Cf

set_option Elab.async false
set_option linter.all false
set_option maxRecDepth 100000
set_option maxHeartbeats 4000000
namespace Cf
open PySem L2
open Rp (rp)
open RpL (rpl)
open Enc (enc)
section
variable {K : Fg} {M : Ms} {Bs Hs W : Hp} {σ : L2.St} {B H B' H' : Hp} {te ta tb tc : TE} {tt tu : TT} {tas : TA} {α β γ δ τ τ' ρ S S' S1 S2 Z R : Type} {P : Ow S} {s : S} {D : Ends} {t u ts : TS} {g : TG}
/-! one kind of data as another -/
theorem cp_in [Rp α] [Rp β] {f : α → β} (hf : ∀ {K : Fg} {B : Hp} {v : V} {x : α}, rp K B v x → rp K B v (f x)) {m : Option α} (h : Cp K te σ B m) : Cp K te σ B (m.bind fun x => some (f x)) := fun B1 H1 b e z em Q q => by
  obtain ⟨x, e1, em⟩ := bd_some em
  cases em
  exact h B1 H1 b e x e1 Q fun v B2 H2 g2 hv => q v B2 H2 g2 (hf hv)
theorem cs_in [Rp α] [Rp β] {f : α → β} (hf : ∀ {K : Fg} {B : Hp} {v : V} {x : α}, rp K B v x → rp K B v (f x)) {m : S → Option (α × S)} (h : Cs K P te σ B m) : Cs K P te σ B (fun s => (m s).bind fun p => some (f p.1, p.2)) := fun B1 H1 W s b e w d p z s' em Q q => by
  obtain ⟨⟨x, s1⟩, e1, em⟩ := bd_some em
  cases em
  exact h B1 H1 W s b e w d p x _ e1 Q fun v B2 H2 W2 sw p2 hv => q v B2 H2 W2 sw p2 (hf hv)
/-- an item of a tuple of one of several kinds -/
theorem cp_ixTo [Rp α] [Rp γ] {i : Int} {f : α → Option γ} (hf : ∀ {K : Fg} {B : Hp} {v : V} {x : α} {y : γ}, rp K B v x → f x = some y → ∃ a vs u, v = .ref a ∧ SqT K B a vs ∧ atI vs i = some u ∧ rp K B u y) {m : Option α} (h : Cp K ta σ B m) : Cp K (tOp (rIxT K) ta (tC (.int i))) σ B (m.bind f) := fun B1 H1 b e z em Q q => by
  obtain ⟨x, e1, em⟩ := bd_some em
  refine h B1 H1 b e x e1 _ fun v B2 H2 g2 hv => ?_
  obtain ⟨a, vs, u, rfl, s, ha, hu⟩ := hf hv em
  exact ⟨a, vs, i, u, rfl, rfl, sqt_mono g2.e s, ha, q u B2 H2 g2 hu⟩
/-- where an __init__ begins -/
theorem now_init {C : Str} {a dx : Addr} (e : Ex B H) (ha : H a = some (.ins (He.ga K C) dx [])) (nb : B a = none) : Now (dom (sing a (.ins (He.ga K C) dx []))) B H (OwRec (τ := Unit) K C [] a) (sing a (.ins (He.ga K C) dx [])) B H () :=
  now0 e (fun b o h => by
    have := sing_dom (nn h)
    subst this
    rw [sing_at] at h
    cases h
    exact ha) (fun b h => by
    have := sing_dom h
    subst this
    exact nb) ⟨dx, [], rfl, rfl, rfl⟩
end
end Cf

set_option Elab.async false
set_option linter.all false
set_option maxRecDepth 100000
set_option maxHeartbeats 4000000
namespace Cf
open PySem L2
open Rp (rp)
open RpL (rpl)
open Enc (enc)
section
variable {K : Fg} {M : Ms} {Bs Hs W : Hp} {σ : L2.St} {B H B' H' : Hp} {te ta tb tc : TE} {tt tu : TT} {tas : TA} {α β γ δ τ τ' ρ S S' S1 S2 Z R : Type} {P : Ow S} {s : S} {D : Ends} {t u ts : TS} {g : TG}
/-! ### while -/
theorem st_whF {c : S → Option Bool} {b : S → Option (Fl S R)} {k : Fl S R → Option ρ} {r : ρ} {s0 : S} {n : Nat} (I : S → Hp → L2.St → Hp → Prop) (hm : (whF c b n s0).bind k = some r) (h0 : I s0 B σ H)
    (ht : ∀ s B σ H x (Q : Bool → Hp → Prop), I s B σ H → c s = some x → (∀ B2 H2, I s B2 σ H2 → Q x H2) → tt σ H Q)
    (hs : ∀ s B σ H fl (N : L2.St → Hp → Prop), I s B σ H → b s = some fl → (∀ s2 B2 σ2 H2, fl = .nx s2 → I s2 B2 σ2 H2 → N σ2 H2) → (∀ s2 B2 σ2 H2, fl = .bk s2 → I s2 B2 σ2 H2 → D.nx σ2 H2) →
      (∀ r', fl = .rt r' → k (.rt r') = some r) → ts { D with nx := N, ct := N, bk := D.nx } σ H)
    (hd : ∀ s B σ H, k (.nx s) = some r → I s B σ H → D.nx σ H) : tWhile tt ts D σ H := by
  refine ⟨fun m σ H => ∃ s B, I s B σ H ∧ (whF c b m s).bind k = some r, ⟨n, s0, B, h0, hm⟩, ?_⟩
  rintro m σ H ⟨s, B, hI, hk⟩
  obtain ⟨fl0, e0, e9⟩ := bd_some hk
  cases m with
  | zero => cases (show none = some fl0 from e0)
  | succ m =>
    obtain ⟨x, e1, e2⟩ := bd_some (show ((c s).bind fun t => if t = true then (b s).bind fun f => match f with
      | .nx s' => whF c b m s'
      | .bk s' => some (.nx s')
      | .rt r => some (.rt r) else some (.nx s)) = some fl0 from e0)
    refine ht s B σ H x _ hI e1 fun B2 H2 hI2 => ?_
    cases x with
    | false =>
      rw [if_neg Bool.false_ne_true]
      rw [if_neg Bool.false_ne_true] at e2
      cases e2
      exact hd s B2 σ H2 e9 hI2
    | true =>
      rw [if_pos rfl]
      rw [if_pos rfl] at e2
      obtain ⟨fl, e3, e4⟩ := bd_some e2
      refine ⟨fun σ' H' => ∃ s B, I s B σ' H' ∧ (whF c b m s).bind k = some r, fun σ' H' h => ⟨m, Nat.lt_succ_self m, h⟩, ?_⟩
      refine hs s B2 σ H2 fl _ hI2 e3 (fun s2 B3 σ3 H3 ef hI3 => ⟨s2, B3, hI3, ?_⟩) (fun s2 B3 σ3 H3 ef hI3 => ?_) (fun r' ef => ?_)
      · subst ef
        rw [show whF c b m s2 = some fl0 from e4]
        exact e9
      · subst ef
        have : (Fl.nx s2 : Fl S R) = fl0 := Option.some.inj e4
        subst this
        exact hd s2 B3 σ3 H3 e9 hI3
      · subst ef
        have : (Fl.rt r' : Fl S R) = fl0 := Option.some.inj e4
        subst this
        exact e9
theorem st_whN {c : S → Option Bool} {b : S → Option S} {k : S → Option ρ} {r : ρ} {s0 : S} {n : Nat} (I : S → Hp → L2.St → Hp → Prop) (hm : (whN c b n s0).bind k = some r) (h0 : I s0 B σ H)
    (ht : ∀ s B σ H x (Q : Bool → Hp → Prop), I s B σ H → c s = some x → (∀ B2 H2, I s B2 σ H2 → Q x H2) → tt σ H Q)
    (hs : ∀ s B σ H s' (N : L2.St → Hp → Prop), I s B σ H → b s = some s' → (∀ B2 σ2 H2, I s' B2 σ2 H2 → N σ2 H2) → ts { D with nx := N, ct := N, bk := D.nx } σ H)
    (hd : ∀ s B σ H, k s = some r → I s B σ H → D.nx σ H) : tWhile tt ts D σ H := by
  refine ⟨fun m σ H => ∃ s B, I s B σ H ∧ (whN c b m s).bind k = some r, ⟨n, s0, B, h0, hm⟩, ?_⟩
  rintro m σ H ⟨s, B, hI, hk⟩
  obtain ⟨s9, e0, e9⟩ := bd_some hk
  cases m with
  | zero => cases (show none = some s9 from e0)
  | succ m =>
    obtain ⟨x, e1, e2⟩ := bd_some (show ((c s).bind fun t => if t = true then (b s).bind fun s' => whN c b m s' else some s) = some s9 from e0)
    refine ht s B σ H x _ hI e1 fun B2 H2 hI2 => ?_
    cases x with
    | false =>
      rw [if_neg Bool.false_ne_true]
      rw [if_neg Bool.false_ne_true] at e2
      cases e2
      exact hd s B2 σ H2 e9 hI2
    | true =>
      rw [if_pos rfl]
      rw [if_pos rfl] at e2
      obtain ⟨s', e3, e4⟩ := bd_some e2
      refine ⟨fun σ' H' => ∃ s B, I s B σ' H' ∧ (whN c b m s).bind k = some r, fun σ' H' h => ⟨m, Nat.lt_succ_self m, h⟩, ?_⟩
      refine hs s B2 σ H2 s' _ hI2 e3 fun B3 σ3 H3 hI3 => ⟨s', B3, hI3, ?_⟩
      rw [show whN c b m s' = some s9 from e4]
      exact e9
/-- a test that changes nothing -/
theorem wh_testS [OwOk P] {m : S → Option (Bool × S)} {mc : Option Bool} {x : Bool} {Q : Bool → Hp → Prop} (hx : mc = some x) (N : Now M Bs Hs P W B H s) (hc : Cst P tt σ B m) (he : m s = mc.bind fun x => some (x, s)) (q : ∀ W1 B1 H1, Now M Bs Hs P W1 B1 H1 s → Ex B B1 → Q x H1) : tt σ H Q :=
  hc B H W s (Ex.refl B) N.ex N.w N.d N.p x s (by rw [he, hx]; rfl) Q fun B1 H1 W1 sw p => q W1 B1 H1 (N.step sw p) sw.g.b
theorem wh_testP [OwOk P] {m mc : Option Bool} {x : Bool} {Q : Bool → Hp → Prop} (hx : mc = some x) (N : Now M Bs Hs P W B H s) (hc : Ct tt σ B m) (he : m = mc) (q : ∀ W1 B1 H1, Now M Bs Hs P W1 B1 H1 s → Ex B B1 → Q x H1) : tt σ H Q := by
  subst he
  exact hc B H (Ex.refl B) N.ex x hx Q fun B1 H1 g => q W B1 H1 (N.pure g) g.b
/-! ### texts -/
def atS? (z : Str) (i : Int) : Option Str := (if z.length ≤ sizeLine then some z else none).bind fun z => (at? z.cps.toList i).bind fun c => some ⟨#[c]⟩
theorem at_atI {xs : List α} {i : Int} {x : α} (h : at? xs i = some x) : atI xs i = some x := by
  unfold at? at h
  unfold atI ixN
  by_cases h0 : 0 ≤ i
  · rw [if_pos h0] at h
    rw [if_pos h0, if_pos (by have := (List.getElem?_eq_some_iff.mp h).1; omega)]
    exact h
  · rw [if_neg h0] at h
    rw [if_neg h0]
    by_cases h1 : 0 ≤ i + (xs.length : Int)
    · rw [if_pos h1] at h
      rw [if_pos (by omega)]
      exact h
    · rw [if_neg h1] at h
      cases h
theorem r2_ixS : R2p K rIxS (fun (z : Str) (i : Int) => atS? z i) := fun B H z i y vx vy e hx hy ez Q q => by
  cases (show vx = .str z from hx)
  cases (show vy = .int i from hy)
  obtain ⟨z', e1, ez⟩ := bd_some ez
  obtain ⟨hl, e1⟩ := if_some e1
  subst e1
  obtain ⟨c, hc, ez⟩ := bd_some ez
  cases ez
  exact ⟨z, i, c, rfl, rfl, hl, at_atI hc, q _ B H (Gr.refl e) rfl⟩
def pcat (x y : Str) : Option Str := if x.length + y.length ≤ sizeLine then some (x ++ y) else none
theorem r2_addS : R2p K (fun x y H Q => ∃ i j, x = .str i ∧ y = .str j ∧ i.length + j.length ≤ sizeLine ∧ Q (.str (i ++ j)) H) (fun x y : Str => pcat x y) := fun B H x y z vx vy e hx hy ez Q q => by
  cases (show vx = .str x from hx)
  cases (show vy = .str y from hy)
  obtain ⟨hl, ez⟩ := if_some ez
  cases ez
  exact ⟨x, y, rfl, rfl, hl, q _ B H (Gr.refl e) rfl⟩
theorem r2_ipaddS : Ipp K (fun x y H Q => ∃ i j, x = .str i ∧ y = .str j ∧ i.length + j.length ≤ sizeLine ∧ Q (.str (i ++ j)) H) (fun x y : Str => pcat x y) := fun B H x y z vx vy e hx hy ez Q q => by
  cases (show vx = .str x from hx)
  cases (show vy = .str y from hy)
  obtain ⟨hl, ez⟩ := if_some ez
  cases ez
  exact ⟨x, y, rfl, rfl, hl, q _ rfl⟩
/-- one sign in a text -/
def inS (x z : Str) : Option Bool := match x.cps.toList with
  | [c] => some (decide (c ∈ z.cps.toList))
  | _ => none
theorem inS_some {x z : Str} {b : Bool} (h : inS x z = some b) : ∃ c, x = ⟨#[c]⟩ ∧ b = decide (c ∈ z.cps.toList) := by
  obtain ⟨⟨l⟩⟩ := x
  unfold inS at h
  match l, h with
  | [c], h => cases h; exact ⟨c, rfl, rfl⟩
theorem r2_inS : R2p K rInS (fun x z : Str => inS x z) := fun B H x z y vx vy e hx hy ez Q q => by
  obtain ⟨c, rfl, rfl⟩ := inS_some ez
  exact ⟨c, z, hx, hy, q _ B H (Gr.refl e) rfl⟩
theorem r2_ninS : R2p K rNotInS (fun x z : Str => (inS x z).bind fun b => some (!b)) := fun B H x z y vx vy e hx hy ez Q q => by
  obtain ⟨b, e1, ez⟩ := bd_some ez
  cases ez
  obtain ⟨c, rfl, rfl⟩ := inS_some e1
  exact ⟨c, z, hx, hy, q _ B H (Gr.refl e) rfl⟩
def sgns (z : Str) : List Str := z.cps.toList.map fun c => ⟨#[c]⟩
theorem sgns_len (z : Str) : (sgns z).length = z.cps.size := by
  unfold sgns
  rw [List.length_map, Array.length_toList]
theorem sgns_yld {z x : Str} {i : Nat} {H H' : Hp} {v : V} (h : (sgns z)[i]? = some x) (y : (Its z).yld i H v H') : H' = H ∧ v = .str x := by
  obtain ⟨e, c, hc, ev⟩ := y
  refine ⟨e, ?_⟩
  unfold sgns at h
  rw [List.getElem?_map, Array.getElem?_toList, hc] at h
  cases h
  exact ev
theorem st_forF_str {mi mi' : Option Str} {b : Str → S → Option (Fl S R)} {s0 : S} {k : Fl S R → Option ρ} {r : ρ} (I : Hp → S → Hp → L2.St → Hp → Prop) (hm : ((mi'.bind fun z => some (sgns z)).bind fun xs => (forF b xs s0).bind k) = some r) (e : Ex B H) (hc : Cp K te σ B mi) (he : mi = mi')
    (h0 : ∀ Be H1, Gr noM B H Be H1 → I Be s0 Be σ H1)
    (hs : ∀ Be x s B σ H v c (N : L2.St → Hp → Prop), I Be s B σ H → rp K B v x → b x s = some c → (∀ s2 B2 σ2 H2, c = .nx s2 → I Be s2 B2 σ2 H2 → N σ2 H2) → (∀ s2 B2 σ2 H2, c = .bk s2 → I Be s2 B2 σ2 H2 → D.nx σ2 H2) →
      (∀ r', c = .rt r' → k (.rt r') = some r) → g v σ H fun σ2 H2 => ts { D with nx := N, ct := N, bk := D.nx } σ2 H2)
    (hd : ∀ Be s B σ H, k (.nx s) = some r → I Be s B σ H → D.nx σ H) : tFor (iStr te) g ts D σ H := by
  subst he
  obtain ⟨xs, e1, e2⟩ := bd_some hm
  obtain ⟨z, e3, e4⟩ := bd_some e1
  cases e4
  refine hc B H (Ex.refl B) e z e3 _ fun v Be H1 g1 hv => ?_
  cases (show v = .str z from hv)
  have hl := sgns_len z
  refine ⟨z, rfl, forF_run (K := K) (xs := sgns z) (B := Be) (I Be) (fun i s B σ H hI hi => (by show i < z.cps.size; omega)) (fun i s B σ H hI hi => (by show z.cps.size ≤ i; omega)) (fun i x s B σ H v H' hI hxi y => ?_) e2 (h0 Be H1 g1) (fun x s B σ H v c N => hs Be x s B σ H v c N) (fun s B σ H => hd Be s B σ H)⟩
  obtain ⟨eH, ev⟩ := sgns_yld hxi y
  subst eH
  exact ⟨B, hI, ev⟩
theorem st_forN_str {mi mi' : Option Str} {b : Str → S → Option S} {s0 : S} {k : S → Option ρ} {r : ρ} (I : Hp → S → Hp → L2.St → Hp → Prop) (hm : ((mi'.bind fun z => some (sgns z)).bind fun xs => (forN b xs s0).bind k) = some r) (e : Ex B H) (hc : Cp K te σ B mi) (he : mi = mi')
    (h0 : ∀ Be H1, Gr noM B H Be H1 → I Be s0 Be σ H1)
    (hs : ∀ Be x s B σ H v s' (N : L2.St → Hp → Prop), I Be s B σ H → rp K B v x → b x s = some s' → (∀ B2 σ2 H2, I Be s' B2 σ2 H2 → N σ2 H2) → g v σ H fun σ2 H2 => ts { D with nx := N, ct := N, bk := D.nx } σ2 H2)
    (hd : ∀ Be s B σ H, k s = some r → I Be s B σ H → D.nx σ H) : tFor (iStr te) g ts D σ H := by
  subst he
  obtain ⟨xs, e1, e2⟩ := bd_some hm
  obtain ⟨z, e3, e4⟩ := bd_some e1
  cases e4
  refine hc B H (Ex.refl B) e z e3 _ fun v Be H1 g1 hv => ?_
  cases (show v = .str z from hv)
  have hl := sgns_len z
  refine ⟨z, rfl, forN_run (K := K) (xs := sgns z) (B := Be) (I Be) (fun i s B σ H hI hi => (by show i < z.cps.size; omega)) (fun i s B σ H hI hi => (by show z.cps.size ≤ i; omega)) (fun i x s B σ H v H' hI hxi y => ?_) e2 (h0 Be H1 g1) (fun x s B σ H v s' N => hs Be x s B σ H v s' N) (fun s B σ H => hd Be s B σ H)⟩
  obtain ⟨eH, ev⟩ := sgns_yld hxi y
  subst eH
  exact ⟨B, hI, ev⟩
def pcutS (z : Str) (lo hi : Option Int) : Option Str := if z.length ≤ sizeLine then some (cutS z lo hi) else none
theorem cp_sliceS {tl th : TO} {m : Option Str} {m1 m2 : Option (Option Int)} (h : Cp K te σ B m) (h1 : Cpo tl σ B m1) (h2 : Cpo th σ B m2) : Cp K (tSl rSlS te tl th) σ B (m.bind fun z => m1.bind fun lo => m2.bind fun hi => pcutS z lo hi) := fun B1 H1 b e y em Q q => by
  obtain ⟨z, e1, em⟩ := bd_some em
  obtain ⟨lo, e2, em⟩ := bd_some em
  obtain ⟨hi, e3, em⟩ := bd_some em
  obtain ⟨hl, em⟩ := if_some em
  cases em
  refine h B1 H1 b e z e1 _ fun v B2 H2 g2 hv => ?_
  refine h1 B2 H2 (b.trans g2.b) g2.e lo e2 _ fun B3 H3 g3 => ?_
  refine h2 B3 H3 (b.trans (g2.trans g3).b) g3.e hi e3 _ fun B4 H4 g4 => ?_
  cases (show v = .str z from hv)
  exact ⟨z, rfl, hl, q _ B4 H4 ((g2.trans g3).trans g4) rfl⟩
def ptruS (x : Str) : Option Bool := if x.length ≤ sizeLine then some ((x.length : Int) != 0) else none
theorem ct_truS {m : Option Str} (h : Cp K ta σ B m) : Ct (fun σ H Q => ta σ H fun x H' => ∃ k, TruV K x H' k ∧ Q k H') σ B (m.bind ptruS) := fun B1 H1 b e z em Q q => by
  obtain ⟨x, e1, em⟩ := bd_some em
  obtain ⟨hl, em⟩ := if_some em
  cases em
  refine h B1 H1 b e x e1 _ fun v B2 H2 g2 hv => ?_
  cases (show v = .str x from hv)
  exact ⟨_, ⟨hl, rfl⟩, q B2 H2 g2⟩
/-! ### ints -/
def pabs (i : Int) : Int := if i < 0 then -i else i
theorem rc_abs : Rcp K (fun xs H Q => ∃ i, xs = [.int i] ∧ Q (.int (if i < 0 then -i else i)) H) (fun t : Int × Unit => some (pabs t.1)) := fun B H t z vs e h ez Q q => by
  obtain ⟨v, us, rfl, h1, h2⟩ := h
  cases (show us = [] from h2)
  cases (show v = .int _ from h1)
  cases ez
  exact ⟨_, rfl, q _ B H (Gr.refl e) rfl⟩
theorem pr_ints_eq {B : Hp} : ∀ {vs : List V} {xs : List Int}, Paired (rp K B) vs xs → vs = xs.map V.int
  | _, _, .nil => rfl
  | _, _, .cons r t => by
    rw [List.map_cons, ← pr_ints_eq t]
    exact congrArg (· :: _) r
def pminL (xs : List Int) : Option Int := xs.min?
theorem rc_minL : Rcp K (rMin K) (fun t : List Int × Unit => pminL t.1) := fun B H t z vs e h ez Q q => by
  obtain ⟨v, us, rfl, h1, h2⟩ := h
  cases (show us = [] from h2)
  obtain ⟨a, ws, rfl, s, p⟩ := h1
  have hm := List.min?_eq_some_iff.mp (show t.1.min? = some z from ez)
  refine ⟨a, t.1, rfl, sq_lst (by rw [← pr_ints_eq p]; exact e _ _ s), ?_, fun m hm1 hm2 => ?_⟩
  · exact List.length_pos_of_mem hm.1
  · have : m = z := Int.le_antisymm (hm2 z hm.1) (hm.2 m hm1)
    subst this
    exact q _ B H (Gr.refl e) rfl
def psort (xs : List Int) : List Int := xs.mergeSort (fun a b => decide (a ≤ b))
theorem psort_perm (xs : List Int) : (psort xs).Perm xs := List.mergeSort_perm xs _
theorem psort_rises (xs : List Int) : (psort xs).Pairwise (· ≤ ·) := (List.pairwise_mergeSort (le := fun a b => decide (a ≤ b)) (fun a b c h1 h2 => decide_eq_true (Int.le_trans (of_decide_eq_true h1) (of_decide_eq_true h2))) (fun a b => by
  rw [Bool.or_eq_true, decide_eq_true_eq, decide_eq_true_eq]
  exact Int.le_total a b) xs).imp fun h => of_decide_eq_true h
theorem psort_uniq {xs ys : List Int} (p : ys.Perm xs) (h : ys.Pairwise (· ≤ ·)) : ys = psort xs := List.Perm.eq_of_pairwise (fun _ _ _ _ a b => Int.le_antisymm a b) h (psort_rises xs) (p.trans (psort_perm xs).symm)
theorem co_sorted {m : Option (List Int)} (h : Cp K ta σ B m) : Co K (tCB (rSortedI K) (tCons ta tNil)) σ B (m.bind fun xs => some (psort xs)) := fun B1 H1 b e ys em Q q => by
  obtain ⟨xs, e1, em⟩ := bd_some em
  cases em
  refine h B1 H1 b e xs e1 _ fun v B2 H2 g2 hv => ?_
  obtain ⟨a, vs, rfl, s, p⟩ := hv
  refine ⟨a, xs, rfl, sq_lst (by rw [← pr_ints_eq p]; exact g2.e _ _ s), fun ns c hp hr nc => ?_⟩
  have := psort_uniq hp hr
  subst this
  exact q c _ B2 _ (g2.trans (Gr.newM g2.e nc)) (g2.fresh nc) (g2.e.none nc) upd_same (ints_pr _)
/-! ### one's own list: xs[i] = e -/
def pset (xs : List α) (i : Int) (x : α) : Option (List α) := (ixN xs.length i).bind fun j => some (xs.set j x)
theorem st_setL [Rp α] {a : Addr} {get : S → List α} {put : S → List α → S} {i : Nat} {m : S → Option ((α × Int) × S)} {m1 : S → Option (α × S)} {m2 : S → Option (Int × S)} {ti : TE} {m' : Option (List α × S)} {k : List α × S → Option ρ} {r : ρ} (l : Ln P (OwL K a) get put) (hs : σ[i]? = some (some (.ref a)))
    (hm : m'.bind k = some r) (N : Now M Bs Hs P W B H s) (hc : Cs K P te σ B m1) (hi : Cs K P ti σ B m2) (he : ((m1 s).bind fun p => (m2 p.2).bind fun q => (pset (get q.2) q.1 p.1).bind fun z => some (z, q.2)) = m')
    (q : ∀ xs s1 W1 B1 H1, k (xs, s1) = some r → Now M Bs Hs P W1 B1 H1 (put s1 xs) → Ex B B1 → D.nx σ H1) : tAsg te (gSub (tVar i) ti rSetL) D σ H := by
  subst he
  obtain ⟨⟨z0, s0⟩, e0, e2⟩ := bd_some hm
  obtain ⟨⟨x, s1⟩, e1, e0⟩ := bd_some e0
  obtain ⟨⟨j, s2⟩, e3, e0⟩ := bd_some e0
  obtain ⟨z, e4, e0⟩ := bd_some e0
  obtain ⟨n, e5, e6⟩ := bd_some e4
  obtain ⟨rfl, rfl⟩ : z = z0 ∧ s2 = s0 := by
    cases e0
    exact ⟨rfl, rfl⟩
  have e6 : (get s2).set n x = z := Option.some.inj e6
  refine hc B H W s (Ex.refl B) N.ex N.w N.d N.p x s1 e1 _ fun v B1 H1 W1 sw p1 hv => ?_
  refine ⟨.ref a, hs, ?_⟩
  refine hi B1 H1 W1 s1 sw.g.b sw.g.e sw.w sw.d p1 j s2 e3 _ fun w B2 H2 W2 sw2 p2 hw => ?_
  cases (show w = .int j from hw)
  obtain ⟨V1, V2, hV, dV, ⟨vs, h1, h3⟩, back⟩ := l.open_ W2 B2 s2 p2
  subst hV h1
  refine ⟨a, vs, j, n, rfl, rfl, sw2.w a _ (uni_l sing_at), (by rw [pr_len h3]; exact e5), ?_⟩
  have N1 := (N.step sw p1).step sw2 p2
  have hd : uni (sing a (.lst vs)) V2 a ≠ none := nn (uni_l sing_at)
  have y := sw_upd (o := .lst (vs.set n v)) sw2.g.e sw2.w sw2.d hd
  rw [upd_uni (V1 := emp)] at y
  have dj : Dj (sing a (.lst (vs.set n v))) V2 := fun b h => dV b (by rw [sing_dom h]; exact nn sing_at)
  exact q z s2 _ B2 _ e2 (N1.step y (back _ B2 _ (Ex.refl B2) dj ⟨vs.set n v, rfl, by rw [← e6]; exact pr_set (Rp.mono sw2.g.b hv) n h3⟩)) (sw.g.b.trans sw2.g.b)
/-- the last but one of one's own -/
theorem Now.swap {S3 : Type} {A : Ow S1} {C : Ow S2} {E : Ow S3} [OwOk A] [OwOk C] [OwOk E] {x : (S1 × S2) × S3} (N : Now M Bs Hs (star (star A C) E) W B H x) : Now M Bs Hs (star (star A E) C) W B H ((x.1.1, x.2), x.1.2) := by
  obtain ⟨W1, W2, h, d, ⟨V1, V2, h', d', pa, pc⟩, pe⟩ := N.p
  subst h'
  have d12 : Dj V2 W2 := dj_r d' d
  have d1 : Dj V1 W2 := dj_l d
  refine ⟨N.g, N.w, N.d, ⟨uni V1 W2, V2, ?_, ?_, ⟨V1, W2, rfl, d1, pa, pe⟩, pc⟩, N.f⟩
  · rw [h, uni_assoc, uni_assoc, uni_comm d12]
  · exact dj_uni d' d12.symm
end
end Cf

set_option Elab.async false
set_option linter.all false
set_option maxRecDepth 100000
set_option maxHeartbeats 4000000
namespace Cf
open PySem L2
open Rp (rp)
open RpL (rpl)
open Enc (enc)
/-! ### objects that are known -/
structure KR (C : Str) (nm : List Str) (τ : Type) where
  v : τ
instance {C : Str} {nm : List Str} {τ : Type} [RpL τ] : Rp (KR C nm τ) := ⟨fun K B v x => ∃ a dx vs, v = .ref a ∧ B a = some (.ins (He.ga K C) dx (nm.zip vs)) ∧ vs.length = nm.length ∧ rpl K B vs x.v, fun e ⟨a, dx, vs, h, o, n, r⟩ => ⟨a, dx, vs, h, e _ _ o, n, RpL.mono e r⟩⟩
section
variable {K : Fg} {M : Ms} {Bs Hs W : Hp} {σ : L2.St} {B H B' H' : Hp} {te ta tb tc : TE} {tt tu : TT} {tas : TA} {α β γ δ τ τ' ρ S S' S1 S2 Z R : Type} {P : Ow S} {s : S} {D : Ends} {t u ts : TS} {g : TG}
theorem cp_kfld [RpL τ] [Rp γ] {C f : Str} {nm : List Str} {gf : τ → γ} {pf : τ → γ → τ} (fd : Fd nm f gf pf) (c : Cls K (He.ga K C)) (n : NoAttr K (He.ga K C) f) {m : Option (KR C nm τ)} (h : Cp K ta σ B m) :
    Cp K (tFld K ta f) σ B (m.bind fun x => some (gf x.v)) := cp_fld (g := fun x : KR C nm τ => gf x.v) (fun {B v x} h => by
  obtain ⟨a, dx, vs, hv, o, hn, r⟩ := h
  obtain ⟨u, e1, e2⟩ := fd.g r
  exact ⟨a, dx, _, u, hv, o, e1, e2⟩) c n h
/-- a new object, known from now on -/
theorem cp_mk [RpL τ] [RpL τ'] {C : Str} {nm : List Str} {f : τ → Option τ'} {m : Option τ} {E : XK} (ha : Ca K tas σ B m) : Cp K (tMake (He.ga K C) (spI K C (OwRec K C nm) f) [] E tas) σ B (m.bind fun t => (f t).bind fun x => some (KR.mk (C := C) (nm := nm) x)) := fun B1 H1 b e z em Q q => by
  obtain ⟨t, e1, em⟩ := bd_some em
  obtain ⟨x, e2, em⟩ := bd_some em
  cases em
  refine ha B1 H1 b e t e1 _ fun vs B2 H2 g1 hv => fun p dx np ndx ne => ?_
  have g2 : Gr noM B2 H2 B2 (upd H2 dx (.own p)) := Gr.newM g1.e ndx
  have np2 : (upd H2 dx (.own p)) p = none := by rw [upd_ne ne.symm]; exact np
  have g3 : Gr noM B2 (upd H2 dx (.own p)) B2 (upd (upd H2 dx (.own p)) p (.ins (He.ga K C) dx [])) := Gr.newM g2.e np2
  refine ⟨p, vs, dx, B2, t, x, (by rw [List.append_nil]), upd_same, (by rw [upd_ne ne, upd_same]), ne, g3.e, g1.e.none np, g1.e.none ndx, hv, e2, fun W' B' H' sw pp => ⟨rfl, ?_⟩⟩
  obtain ⟨dx', ws, hw, hl, hr⟩ := pp
  subst hw
  have hp : H' p = some (.ins (He.ga K C) dx' (nm.zip ws)) := sw.w p _ sing_at
  have nb : B' p = none := sw.d p (nn sing_at)
  have N : Now noM B1 H1 oE emp B2 (upd (upd H2 dx (.own p)) p (.ins (He.ga K C) dx [])) () := ⟨(g1.trans g2).trans g3, ex_emp, Dj.emp, rfl, fun a h => absurd rfl h⟩
  have fp : H1 p = none := g1.fresh np
  have G : Gr noM B1 H1 B' H' := ⟨N.g.s, N.g.b.trans sw.g.b, fun a o m h => sw.g.h a o (fun z => by
    have := sing_dom z
    subst this
    rw [fp] at h
    cases h) (N.g.h a o m h), sw.g.e, fun a h n => sw.g.n a (N.g.k a h) (N.g.n a h n), fun a h => sw.g.k a (N.g.k a h)⟩
  exact q (.ref p) (upd B' p (.ins (He.ga K C) dx' (nm.zip ws))) H' (G.freeze hp fp nb) ⟨p, dx', ws, rfl, upd_same, hl, RpL.mono (Ex.new nb) hr⟩
/-- a method of an object that is known -/
theorem cp_methK [RpL τ] [RpL τ'] [Rp γ] {C mt : Str} {nm : List Str} {f : KR C nm τ × τ' → Option γ} {m : Option (KR C nm τ)} {m2 : Option τ'} {E : XK} (hno : mt ∉ nm) (h : Cp K ta σ B m) (ha : Ca K tas σ B m2) :
    Cp K (tMeth (He.ga K C) mt (spP K f) [] E ta tas) σ B (m.bind fun x => m2.bind fun t => f (x, t)) := fun B1 H1 b e z em Q q => by
  obtain ⟨x, e1, em⟩ := bd_some em
  obtain ⟨t, e2, em⟩ := bd_some em
  refine h B1 H1 b e x e1 _ fun v B2 H2 g2 hv => ?_
  obtain ⟨a, dx, vs, rfl, o, hn, r⟩ := hv
  refine ⟨a, dx, _, rfl, g2.e _ _ o, zip_none vs hno, ?_⟩
  refine ha B2 H2 (b.trans g2.b) g2.e t e2 _ fun us B3 H3 g3 hu => ?_
  rw [List.append_nil]
  exact ⟨B3, (x, t), z, g3.e, ⟨.ref a, us, rfl, ⟨a, dx, vs, rfl, g3.b _ _ o, hn, RpL.mono g3.b r⟩, hu⟩, em, fun t2 B4 H4 g4 ht => q t2 B4 H4 ((g2.trans g3).trans g4) ht⟩
end
/-! ### a list of three kinds of items -/
structure H2 (α β : Type) where
  a : α
  b : β
structure H3 (α β γ : Type) where
  a : α
  b : β
  c : γ
instance {α β γ : Type} [Rp α] [Rp β] [Rp γ] : Rp (H3 α β γ) := ⟨fun K B v x => ∃ a u1 u2 u3, v = .ref a ∧ B a = some (.lst [u1, u2, u3]) ∧ rp K B u1 x.a ∧ rp K B u2 x.b ∧ rp K B u3 x.c, fun e ⟨a, u1, u2, u3, h, s, p1, p2, p3⟩ => ⟨a, u1, u2, u3, h, e _ _ s, Rp.mono e p1, Rp.mono e p2, Rp.mono e p3⟩⟩
section
variable {K : Fg} {M : Ms} {Bs Hs W : Hp} {σ : L2.St} {B H B' H' : Hp} {te ta tb tc : TE} {tt tu : TT} {tas : TA} {α β γ δ τ τ' ρ S S' S1 S2 Z R : Type} {P : Ow S} {s : S} {D : Ends} {t u ts : TS} {g : TG}
theorem cp_h3 [Rp α] [Rp β] [Rp γ] {m : Option (α × β × γ × Unit)} (h : Ca K tas σ B m) : Cp K (tLst tas) σ B (m.bind fun t => some (H3.mk t.1 t.2.1 t.2.2.1)) := fun B1 H1 b e z em Q q => by
  obtain ⟨t, e1, em⟩ := bd_some em
  cases em
  refine h B1 H1 b e t e1 _ fun vs B2 H2 g2 hv => ?_
  obtain ⟨v1, _, rfl, h1, v2, _, rfl, h2, v3, _, rfl, h3, h4⟩ := hv
  cases h4
  refine ⟨by show 3 ≤ sizeLine; decide, fun p np => q _ (upd B2 p (.lst [v1, v2, v3])) _ (g2.trans (Gr.new g2.e np)) ⟨p, v1, v2, v3, rfl, upd_same, Rp.mono (Ex.new (g2.e.none np)) h1, Rp.mono (Ex.new (g2.e.none np)) h2, Rp.mono (Ex.new (g2.e.none np)) h3⟩⟩
theorem cp_ixH [Rp α] [Rp γ] {i : Int} {f : α → γ} (hf : ∀ {B : Hp} {v : V} {x : α}, rp K B v x → ∃ a vs u, v = .ref a ∧ B a = some (.lst vs) ∧ atI vs i = some u ∧ rp K B u (f x)) {m : Option α} (h : Cp K ta σ B m) : Cp K (tOp (rIxL K) ta (tC (.int i))) σ B (m.bind fun x => some (f x)) := fun B1 H1 b e z em Q q => by
  obtain ⟨x, e1, em⟩ := bd_some em
  cases em
  refine h B1 H1 b e x e1 _ fun v B2 H2 g2 hv => ?_
  obtain ⟨a, vs, u, rfl, s, ha, hu⟩ := hf hv
  exact ⟨a, vs, i, u, rfl, rfl, sq_lst (g2.e _ _ s), ha, q u B2 H2 g2 hu⟩
theorem cp_ih3_0 [Rp α] [Rp β] [Rp γ] {m : Option (H3 α β γ)} (h : Cp K ta σ B m) : Cp K (tOp (rIxL K) ta (tC (.int 0))) σ B (m.bind fun x => some x.a) := cp_ixH (fun h => by obtain ⟨a, u1, u2, u3, h, s, p1, p2, p3⟩ := h; exact ⟨a, _, u1, h, s, rfl, p1⟩) h
theorem cp_ih3_1 [Rp α] [Rp β] [Rp γ] {m : Option (H3 α β γ)} (h : Cp K ta σ B m) : Cp K (tOp (rIxL K) ta (tC (.int 1))) σ B (m.bind fun x => some x.b) := cp_ixH (fun h => by obtain ⟨a, u1, u2, u3, h, s, p1, p2, p3⟩ := h; exact ⟨a, _, u2, h, s, rfl, p2⟩) h
theorem cp_ih3_2 [Rp α] [Rp β] [Rp γ] {m : Option (H3 α β γ)} (h : Cp K ta σ B m) : Cp K (tOp (rIxL K) ta (tC (.int 2))) σ B (m.bind fun x => some x.c) := cp_ixH (fun h => by obtain ⟨a, u1, u2, u3, h, s, p1, p2, p3⟩ := h; exact ⟨a, _, u3, h, s, rfl, p3⟩) h
/-! an int or None -/
theorem kit_None_int : PySem.W.kitOne K (.type "NoneType") (.type "int") = some false := kit_ty (by decide +kernel)
theorem kit_None_bool : PySem.W.kitOne K (.type "NoneType") (.type "bool") = some false := kit_ty (by decide +kernel)
theorem isi_oint : Isi (Option Int) K "int" (fun x => x.isSome) := fun {B v x} h => by
  cases x with
  | none =>
    cases (show v = V.non from h)
    exact ⟨_, .base .non, kit_None_int⟩
  | some y =>
    cases (show v = V.int y from h)
    exact isi_int (K := K) (B := B) (v := .int y) (x := y) rfl
theorem isi_oint_bool : Isi (Option Int) K "bool" (fun _ => false) := fun {B v x} h => by
  cases x with
  | none =>
    cases (show v = V.non from h)
    exact ⟨_, .base .non, kit_None_bool⟩
  | some y =>
    cases (show v = V.int y from h)
    exact isi_int_bool (K := K) (B := B) (v := .int y) (x := y) rfl
end
end Cf

set_option Elab.async false
set_option linter.all false
set_option maxRecDepth 100000
set_option maxHeartbeats 4000000
namespace Cf
open PySem L2
open Rp (rp)
open RpL (rpl)
open Enc (enc)
theorem ip_addS {X : Cx} : PIp X .Add (fun x y H Q => ∃ i j, x = .str i ∧ y = .str j ∧ i.length + j.length ≤ sizeLine ∧ Q (.str (i ++ j)) H) := fun pins s σ H x y v u Q I rx ry h => iop_add_str pins s σ H x y v u Q I rx ry h
section
variable {K : Fg} {M : Ms} {Bs Hs W : Hp} {σ : L2.St} {B H B' H' : Hp} {te ta tb tc : TE} {tt tu : TT} {tas : TA} {α β γ δ τ τ' ρ S S' S1 S2 Z R : Type} {P : Ow S} {s : S} {D : Ends} {t u ts : TS} {g : TG}
/-- for i, j in .. -/
theorem gtup2 [Rp α] [Rp β] {v : V} {x : α × β} {i j : Nat} {Q : L2.St → Hp → Prop} (hv : rp K B v x) (e : Ex B H) (q : ∀ u w, rp K B u x.1 → rp K B w x.2 → Q ((σ.set i (some u)).set j (some w)) H) : gTup K 2 (gCons (gName i) (gCons (gName j) gNil)) v σ H Q := by
  obtain ⟨a, u, w, rfl, s, h1, h2⟩ := hv
  exact ⟨a, [u, w], rfl, sqt_mono e s, rfl, u, [w], rfl, w, [], rfl, rfl, q u w h1 h2⟩
/-- i, j = .. -/
theorem st_asg2 [Rp α] [Rp β] {m m' : Option (α × β)} {k : α × β → Option ρ} {r : ρ} {i j : Nat} (hm : m'.bind k = some r) (e : Ex B H) (hc : Cp K te σ B m) (he : m = m') (q : ∀ x u w B1 H1, k x = some r → Gr noM B H B1 H1 → rp K B1 u x.1 → rp K B1 w x.2 → D.nx ((σ.set i (some u)).set j (some w)) H1) :
    tAsg te (gTup K 2 (gCons (gName i) (gCons (gName j) gNil))) D σ H := by
  subst he
  obtain ⟨x, e1, e2⟩ := bd_some hm
  refine hc B H (Ex.refl B) e x e1 _ fun v B1 H1 g hv => ?_
  exact gtup2 hv g.e fun u w h1 h2 => q x u w B1 H1 e2 g h1 h2
/-- a new attribute of an object that is being made, its value by what is there already -/
theorem st_addFS [RpL τ] [Rp γ] [RpL τ'] {C f : Str} {nm nm' : List Str} {a : Addr} {i : Nat} {s : τ} {add : τ → γ → τ'} (ad : Ad nm f nm' add) (hl : nm.length < 1000) (hs : σ[i]? = some (some (.ref a))) (c : Cls K (He.ga K C)) (n : NoAttr K (He.ga K C) f)
    {m : τ → Option (γ × τ)} {m' : Option (γ × τ)} {k : γ × τ → Option ρ} {r : ρ} (hm : m'.bind k = some r) (N : Now M Bs Hs (OwRec K C nm a) W B H s) (hc : Cs K (OwRec K C nm a) te σ B m) (he : m s = m')
    (q : ∀ x s1 W1 B1 H1, k (x, s1) = some r → Now M Bs Hs (OwRec K C nm' a) W1 B1 H1 (add s1 x) → Ex B B1 → D.nx σ H1) : sFld K (tVar i) te f D σ H := by
  subst he
  obtain ⟨⟨x, s1⟩, e1, e2⟩ := bd_some hm
  refine hc B H W s (Ex.refl B) N.ex N.w N.d N.p x s1 e1 _ fun v B1 H1 W1 sw p1 hv => ?_
  have N1 := N.step sw p1
  obtain ⟨dx, vs, h1, h2, h3⟩ := N1.p
  subst h1
  obtain ⟨ws, e3, e4, e5⟩ := ad.a h3 h2 hv
  have hz : (nm.zip vs).length < 1000 := by rw [List.length_zip, h2, Nat.min_self]; exact hl
  refine ⟨.ref a, hs, a, _, dx, _, rfl, N1.w a _ sing_at, c, n, hz, ?_⟩
  have y := sw_upd (o := .ins (He.ga K C) dx (putF f v (nm.zip vs))) N1.ex N1.w N1.d (nn sing_at)
  rw [upd_sing] at y
  exact q x s1 _ B1 _ e2 (N1.step y ⟨dx, ws, by rw [e3], e4, e5⟩) sw.g.b
/-! ### a walk over a list, told by what is one's own -/
theorem st_forF_listS [Rp α] [OwOk P] {m : S → Option (List α × S)} {m' : Option (List α × S)} {b : α → Z → Option (Fl Z R)} {z0 : List α × S → Z} {k : Fl Z R → Option ρ} {r : ρ} (I : Hp → Z → Hp → L2.St → Hp → Prop)
    (hm : (m'.bind fun p => (some p.1).bind fun xs => (forF b xs (z0 p)).bind k) = some r) (N : Now M Bs Hs P W B H s) (hc : Cs K P ta σ B m) (he : m s = m')
    (hx : ∀ Be z B σ H, I Be z B σ H → Ex Be B ∧ Ex B H)
    (h0 : ∀ Be H1 W1 x s1, Now M Bs Hs P W1 Be H1 s1 → Ex B Be → I Be (z0 (x, s1)) Be σ H1)
    (hs : ∀ Be x z B σ H v c (N : L2.St → Hp → Prop), I Be z B σ H → rp K B v x → b x z = some c → (∀ s2 B2 σ2 H2, c = .nx s2 → I Be s2 B2 σ2 H2 → N σ2 H2) → (∀ s2 B2 σ2 H2, c = .bk s2 → I Be s2 B2 σ2 H2 → D.nx σ2 H2) →
      (∀ r', c = .rt r' → k (.rt r') = some r) → g v σ H fun σ2 H2 => ts { D with nx := N, ct := N, bk := D.nx } σ2 H2)
    (hd : ∀ Be z B σ H, k (.nx z) = some r → I Be z B σ H → D.nx σ H) : tFor (iList K ta) g ts D σ H := by
  subst he
  obtain ⟨⟨xs, s1⟩, e1, hm⟩ := bd_some hm
  refine hc B H W s (Ex.refl B) N.ex N.w N.d N.p xs s1 e1 _ fun v Be H1 W1 sw p1 hv => ?_
  obtain ⟨a, vs, rfl, hS, hp⟩ := hv
  have hl := pr_len hp
  refine ⟨a, rfl, ⟨vs, sq_lst (sw.g.e _ _ hS)⟩, forF_run (K := K) (xs := xs) (B := Be) (I Be) (fun i s B σ H hI hi => ?_) (fun i s B σ H hI hi => ?_) (fun i x s B σ H v H' hI hxi y => ?_) hm (h0 Be H1 W1 xs s1 (N.step sw p1) sw.g.b) (fun x s B σ H v c N => hs Be x s B σ H v c N) (fun s B σ H => hd Be s B σ H)⟩
  · obtain ⟨x1, x2⟩ := hx _ _ _ _ _ hI
    exact itl_go (sq_lst ((x1.trans x2) _ _ hS)) (by omega)
  · obtain ⟨x1, x2⟩ := hx _ _ _ _ _ hI
    exact itl_stop (sq_lst ((x1.trans x2) _ _ hS)) (by omega)
  · obtain ⟨x1, x2⟩ := hx _ _ _ _ _ hI
    obtain ⟨eH, y⟩ := y
    subst eH
    obtain ⟨w, hw, hr⟩ := pr_get hp hxi
    have ew := y vs (sq_lst ((x1.trans x2) _ _ hS))
    rw [hw] at ew
    cases ew
    exact ⟨B, hI, Rp.mono x1 hr⟩
theorem st_forN_listS [Rp α] [OwOk P] {m : S → Option (List α × S)} {m' : Option (List α × S)} {b : α → Z → Option Z} {z0 : List α × S → Z} {k : Z → Option ρ} {r : ρ} (I : Hp → Z → Hp → L2.St → Hp → Prop)
    (hm : (m'.bind fun p => (some p.1).bind fun xs => (forN b xs (z0 p)).bind k) = some r) (N : Now M Bs Hs P W B H s) (hc : Cs K P ta σ B m) (he : m s = m')
    (hx : ∀ Be z B σ H, I Be z B σ H → Ex Be B ∧ Ex B H)
    (h0 : ∀ Be H1 W1 x s1, Now M Bs Hs P W1 Be H1 s1 → Ex B Be → I Be (z0 (x, s1)) Be σ H1)
    (hs : ∀ Be x z B σ H v z' (N : L2.St → Hp → Prop), I Be z B σ H → rp K B v x → b x z = some z' → (∀ B2 σ2 H2, I Be z' B2 σ2 H2 → N σ2 H2) → g v σ H fun σ2 H2 => ts { D with nx := N, ct := N, bk := D.nx } σ2 H2)
    (hd : ∀ Be z B σ H, k z = some r → I Be z B σ H → D.nx σ H) : tFor (iList K ta) g ts D σ H := by
  subst he
  obtain ⟨⟨xs, s1⟩, e1, hm⟩ := bd_some hm
  refine hc B H W s (Ex.refl B) N.ex N.w N.d N.p xs s1 e1 _ fun v Be H1 W1 sw p1 hv => ?_
  obtain ⟨a, vs, rfl, hS, hp⟩ := hv
  have hl := pr_len hp
  refine ⟨a, rfl, ⟨vs, sq_lst (sw.g.e _ _ hS)⟩, forN_run (K := K) (xs := xs) (B := Be) (I Be) (fun i s B σ H hI hi => ?_) (fun i s B σ H hI hi => ?_) (fun i x s B σ H v H' hI hxi y => ?_) hm (h0 Be H1 W1 xs s1 (N.step sw p1) sw.g.b) (fun x s B σ H v z' N => hs Be x s B σ H v z' N) (fun s B σ H => hd Be s B σ H)⟩
  · obtain ⟨x1, x2⟩ := hx _ _ _ _ _ hI
    exact itl_go (sq_lst ((x1.trans x2) _ _ hS)) (by omega)
  · obtain ⟨x1, x2⟩ := hx _ _ _ _ _ hI
    exact itl_stop (sq_lst ((x1.trans x2) _ _ hS)) (by omega)
  · obtain ⟨x1, x2⟩ := hx _ _ _ _ _ hI
    obtain ⟨eH, y⟩ := y
    subst eH
    obtain ⟨w, hw, hr⟩ := pr_get hp hxi
    have ew := y vs (sq_lst ((x1.trans x2) _ _ hS))
    rw [hw] at ew
    cases ew
    exact ⟨B, hI, Rp.mono x1 hr⟩
end
end Cf
namespace Cf
open PySem L2
section
variable {X : Cx} {K : Fg} {a b e f : Expr} {ta te : TE}
theorem ix_listK (h : X.K = K) : IxR X (rIxL K) := by subst h; exact ix_list
theorem ix_tupK (h : X.K = K) : IxR X (rIxT K) := by subst h; exact ix_tup
theorem sl_listK (h : X.K = K) : SlR X (rSlL K) := by subst h; exact sl_list
theorem op_in_seqK (h : X.K = K) : OpR X (compareOp .In) (rIn K false) := by subst h; exact op_in_seq
theorem op_notIn_seqK (h : X.K = K) : OpR X (compareOp .NotIn) (rIn K true) := by subst h; exact op_notIn_seq
theorem op_eqPK (h : X.K = K) (hu : X.A.units + 64 < cLine) : OpR X (compareOp .Eq) (rEqP K) := by subst h; exact op_eqP hu
theorem op_nePK (h : X.K = K) (hu : X.A.units + 64 < cLine) : OpR X (compareOp .NotEq) (rNeP K) := by subst h; exact op_neP hu
theorem op_inPK (h : X.K = K) (hu : X.A.units + 64 < cLine) : OpR X (compareOp .In) (rInP K) := by subst h; exact op_inP hu
theorem op_ninPK (h : X.K = K) (hu : X.A.units + 64 < cLine) : OpR X (compareOp .NotIn) (rNinP K) := by subst h; exact op_ninP hu
theorem call_list_ofK (h : X.K = K) : CallR X (.type "list") (RListOf K) := by subst h; exact call_list_of
theorem call_len_K (h : X.K = K) : CallR X (.builtin "len") (RLen K) := by subst h; exact call_len_
theorem cr_minK_ (h : X.K = K) (hc : X.calm = true) : CallR X (.builtin "min") (rMin K) := by subst h; exact cr_min hc
theorem cr_sortedIK (h : X.K = K) : CallR X (.builtin "sorted") (rSortedI K) := by subst h; exact cr_sortedI
theorem call_isiK_ (h : X.K = K) : CallR X (.builtin "isinstance") (rIsi K) := by subst h; exact call_isi
theorem pe_fldK {pos : Pos} {f : Str} (h : X.K = K) (he : PE X e ta) (hb : attributeBase e f X.env (eval e X.env) = eval e X.env) : PE X (.Attribute e f pos) (tFld K ta f) := by subst h; exact pe_fld he hb
theorem pt_truthK (h : X.K = K) (ha : PE X a ta) (he : ∀ whole, isTrue a X.env whole = (do let v ← whole; standAt a.pos; holding [v] (truthy v))) : PT X a (fun σ H Q => ta σ H fun x H' => ∃ k, TruV K x H' k ∧ Q k H') := by subst h; exact pt_truth ha he
end
end Cf

set_option Elab.async false
set_option linter.all false
set_option maxRecDepth 100000
set_option maxHeartbeats 4000000
namespace Cf
open PySem L2
open Rp (rp)
open RpL (rpl)
open Enc (enc)
section
variable {K : Fg} {σ : L2.St} {B H B' H' : Hp} {te ta tb tc : TE} {tas : TA} {α β γ δ τ τ' ρ S : Type}
/-! ### calls whose arguments cannot fail -/
theorem ca_nil0 : Ca K tNil σ B (some ()) := ca_nil
theorem ca_cons0 [Rp α] [RpL τ] {x : α} {t : τ} (h : Cp K ta σ B (some x)) (h2 : Ca K tas σ B (some t)) : Ca K (tCons ta tas) σ B (some (x, t)) := ca_cons h h2
theorem cp_call0 [RpL τ] [Rp γ] {f : τ → Option γ} {t : τ} {E : XK} (h : Ca K tas σ B (some t)) : Cp K (tCall (spP K f) [] E tas) σ B (f t) := cp_call h
theorem cp_cb0 [RpL τ] [Rp γ] {r : List V → Hp → VK → Prop} {f : τ → Option γ} {t : τ} (hr : Rcp K r f) (h : Ca K tas σ B (some t)) : Cp K (tCB r tas) σ B (f t) := cp_cb hr h
theorem cp_mk0 [RpL τ] [RpL τ'] {C : Str} {nm : List Str} {f : τ → Option τ'} {t : τ} {E : XK} (ha : Ca K tas σ B (some t)) : Cp K (tMake (He.ga K C) (spI K C (OwRec K C nm) f) [] E tas) σ B ((f t).bind fun x => some (KR.mk (C := C) (nm := nm) x)) := cp_mk ha
theorem cp_methK0 [RpL τ] [RpL τ'] [Rp γ] {C mt : Str} {nm : List Str} {f : KR C nm τ × τ' → Option γ} {x : KR C nm τ} {t : τ'} {E : XK} (hno : mt ∉ nm) (h : Cp K ta σ B (some x)) (ha : Ca K tas σ B (some t)) : Cp K (tMeth (He.ga K C) mt (spP K f) [] E ta tas) σ B (f (x, t)) := cp_methK hno h ha
end
end Cf

set_option Elab.async false
set_option linter.all false
set_option maxRecDepth 100000
set_option maxHeartbeats 4000000
namespace Cf
open PySem L2
open Rp (rp)
open RpL (rpl)
open Enc (enc)
section
variable {K : Fg} {σ : L2.St} {B H B' H' : Hp} {te ta tb tc : TE} {tas : TA} {α β γ δ τ τ' ρ S : Type} {P : Ow S}
theorem r2_cat [Rp α] : R2p K rCat (fun x y : List α => plst (x ++ y)) := fun B H xs ys zs vx vy e hx hy ez Q q => by
  obtain ⟨hl, ez⟩ := if_some ez
  subst ez
  obtain ⟨a, vs, rfl, ha, pa⟩ := hx
  obtain ⟨c, us, rfl, hc, pc⟩ := hy
  have l1 := pr_len pa
  have l2 := pr_len pc
  rw [List.length_append] at hl
  refine ⟨a, c, vs, us, rfl, rfl, e _ _ ha, e _ _ hc, Nat.le_trans (show vs.length + us.length ≤ 1000000 by omega) (by decide), fun p np => ?_⟩
  exact q (.ref p) (upd B p (.lst (vs ++ us))) _ (Gr.new e np) ⟨p, _, rfl, upd_same, pr_app (pr_mono (Ex.new (e.none np)) pa) (pr_mono (Ex.new (e.none np)) pc)⟩
/-- items of one kind that may change one's own -/
inductive Csl {α : Type} [Rp α] {S : Type} (K : Fg) (P : Ow S) (σ : L2.St) (B : Hp) : TA → (S → Option (List α × S)) → Prop where
  | nil : Csl K P σ B tNil (fun s => some ([], s))
  | cons {ta : TE} {tas : TA} {m1 : S → Option (α × S)} {m2 : S → Option (List α × S)} : Cs K P ta σ B m1 → Csl K P σ B tas m2 → Csl K P σ B (tCons ta tas) (fun s => (m1 s).bind fun p => (m2 p.2).bind fun q => some (p.1 :: q.1, q.2))
theorem Csl.run [Rp α] {ta : TA} {m : S → Option (List α × S)} (h : Csl K P σ B ta m) : ∀ B1 H1 W s, Ex B B1 → Ex B1 H1 → Ex W H1 → Dj W B1 → P W B1 s → ∀ xs s', m s = some (xs, s') → ∀ Q : List V → Hp → Prop, (∀ vs B2 H2 W2, Sw W B1 H1 W2 B2 H2 → P W2 B2 s' → Paired (rp K B2) vs xs → Q vs H2) → ta σ H1 Q := by
  induction h with
  | nil =>
    intro B1 H1 W s b e w d p xs s' em Q q
    cases em
    exact q [] B1 H1 W (Sw.refl e w d) p .nil
  | cons h1 h2 ih =>
    intro B1 H1 W s b e w d p xs s' em Q q
    obtain ⟨⟨x, s1⟩, e1, em⟩ := bd_some em
    obtain ⟨⟨ys, s2⟩, e2, em⟩ := bd_some em
    cases em
    refine h1 B1 H1 W s b e w d p x s1 e1 _ fun v B2 H2 W2 sw p2 hv => ?_
    refine ih B2 H2 W2 s1 (b.trans sw.g.b) sw.g.e sw.w sw.d p2 ys _ e2 _ fun vs B3 H3 W3 sw3 p3 hp => ?_
    exact q (v :: vs) B3 H3 W3 (sw.trans sw3) p3 (.cons (Rp.mono sw3.g.b hv) hp)
theorem cs_lst [Rp α] [OwOk P] {ta : TA} {m : S → Option (List α × S)} (h : Csl K P σ B ta m) : Cs K P (tLst ta) σ B (fun s => (m s).bind fun p => (plst p.1).bind fun z => some (z, p.2)) := fun B1 H1 W s b e w d p xs s' em Q q => by
  obtain ⟨⟨ys, s1⟩, e1, em⟩ := bd_some em
  obtain ⟨z, e2, em⟩ := bd_some em
  cases em
  obtain ⟨hl, e2⟩ := if_some e2
  subst e2
  refine h.run B1 H1 W s b e w d p ys _ e1 _ fun vs B2 H2 W2 sw p2 hp => ⟨?_, fun c np => ?_⟩
  · have := pr_len hp
    have hl : ys.length < 1000000 := hl
    exact Nat.le_trans (show vs.length ≤ 1000000 by omega) (by decide)
  · exact q (.ref c) (upd B2 c (.lst vs)) _ W2 (sw.trans (Sw.pure (Gr.new sw.g.e np) sw.w sw.d)) (OwOk.mono (Ex.new (sw.g.e.none np)) p2) ⟨c, vs, rfl, upd_same, pr_mono (Ex.new (sw.g.e.none np)) hp⟩
end
end Cf

set_option Elab.async false
set_option linter.all false
set_option maxRecDepth 100000
set_option maxHeartbeats 4000000
namespace Cw
open PySem L2 Cf
open PySem.Spec PyProof.Rows
open Rp (rp)
open RpL (rpl)
def top (i : Nat) : Stmt := PySem.Challenge.pw_clearfloor_k06_nearer_positions.main.body.getD i (.Pass ⟨0, 0, 0, 0⟩)
structure Tx (K : Fg) (mg : Str → Option Value) : Prop where
  cls_Floor : Cls K (He.ga K "Floor")
  free_abs : mg "abs" = none
  free_bool : mg "bool" = none
  free_int : mg "int" = none
  free_isinstance : mg "isinstance" = none
  free_len : mg "len" = none
  free_list : mg "list" = none
  free_range : mg "range" = none
  free_sorted : mg "sorted" = none
  glo_Floor : mg "Floor" = some (.ref (He.ga K "Floor"))
  mk_Floor : Mk K (He.ga K "Floor") (He.ma K (He.ga K "Floor") "__init__")
  noat_Floor_depot : NoAttr K (He.ga K "Floor") "depot"
  noat_Floor_doors : NoAttr K (He.ga K "Floor") "doors"
  noat_Floor_near : NoAttr K (He.ga K "Floor") "near"
  noat_Floor_places : NoAttr K (He.ga K "Floor") "places"
  noat_Floor_size : NoAttr K (He.ga K "Floor") "size"
  noat_Floor_stations : NoAttr K (He.ga K "Floor") "stations"
abbrev nm_Floor : List Str := ["near", "size", "depot", "doors", "stations", "places"]
abbrev KFloor := KR "Floor" nm_Floor ((List (List Int)) × Int × Int × (List Int) × (List (List Int)) × (List (Int × Int)) × Unit)
theorem fd_Floor_near : Fd (τ := ((List (List Int)) × Int × Int × (List Int) × (List (List Int)) × (List (Int × Int)) × Unit)) (γ := (List (List Int))) nm_Floor "near" (fun s => s.1) (fun s x => (x, s.2)) := fd_here
theorem fd_Floor_size : Fd (τ := ((List (List Int)) × Int × Int × (List Int) × (List (List Int)) × (List (Int × Int)) × Unit)) (γ := Int) nm_Floor "size" (fun s => s.2.1) (fun s x => (s.1, (x, s.2.2))) := fd_there (fd_here)
theorem fd_Floor_depot : Fd (τ := ((List (List Int)) × Int × Int × (List Int) × (List (List Int)) × (List (Int × Int)) × Unit)) (γ := Int) nm_Floor "depot" (fun s => s.2.2.1) (fun s x => (s.1, (s.2.1, (x, s.2.2.2)))) := fd_there (fd_there (fd_here))
theorem fd_Floor_doors : Fd (τ := ((List (List Int)) × Int × Int × (List Int) × (List (List Int)) × (List (Int × Int)) × Unit)) (γ := (List Int)) nm_Floor "doors" (fun s => s.2.2.2.1) (fun s x => (s.1, (s.2.1, (s.2.2.1, (x, s.2.2.2.2))))) := fd_there (fd_there (fd_there (fd_here)))
theorem fd_Floor_stations : Fd (τ := ((List (List Int)) × Int × Int × (List Int) × (List (List Int)) × (List (Int × Int)) × Unit)) (γ := (List (List Int))) nm_Floor "stations" (fun s => s.2.2.2.2.1) (fun s x => (s.1, (s.2.1, (s.2.2.1, (s.2.2.2.1, (x, s.2.2.2.2.2)))))) := fd_there (fd_there (fd_there (fd_there (fd_here))))
theorem fd_Floor_places : Fd (τ := ((List (List Int)) × Int × Int × (List Int) × (List (List Int)) × (List (Int × Int)) × Unit)) (γ := (List (Int × Int))) nm_Floor "places" (fun s => s.2.2.2.2.2.1) (fun s x => (s.1, (s.2.1, (s.2.2.1, (s.2.2.2.1, (s.2.2.2.2.1, (x, s.2.2.2.2.2.2))))))) := fd_there (fd_there (fd_there (fd_there (fd_there (fd_here)))))
theorem no_Floor___init__ : ("__init__" : Str) ∉ nm_Floor := by decide +kernel
theorem no_Floor_around : ("around" : Str) ∉ nm_Floor := by decide +kernel
theorem no_Floor_place : ("place" : Str) ∉ nm_Floor := by decide +kernel
theorem no_Floor_cell_at : ("cell_at" : Str) ∉ nm_Floor := by decide +kernel
theorem no_Floor_station : ("station" : Str) ∉ nm_Floor := by decide +kernel
section
variable {P : Program} {w : World} {K : Fg} {mg : Str → Option Value} {base : Heap}
def m_l_cell (a_l_script : Scr) (a_l_k : Int) : Option Int :=
 (Option.bind (some ((decide (a_l_k < ((a_l_script.l.length : Int)))))) fun b => if b = true then
 (at? a_l_script.l a_l_k)
 else
 (some (0 : Int)))
abbrev s_l_cell : Stmt := top 8
theorem sc_l_cell : FnScope ["_law_script", "_law_k"] ["_law_script", "_law_k"] (defScope s_l_cell) := ⟨rfl, rfl, rfl, by decide +kernel, rfl, by decide +kernel, by decide +kernel⟩
abbrev sp_l_cell (K : Fg) : Sp := spP K (fun t : Scr × Int × Unit => m_l_cell t.1 t.2.1)
set_option maxHeartbeats 0 in
theorem ok_l_cell {f : Addr} {fd : FuncData} (F : FunD K "_law_cell" "_law_cell" (defArgs s_l_cell) (defBody s_l_cell) (defScope s_l_cell) [] [] f fd) (T : Tx K mg)  : FnOk P w K mg base CX0 1 f fd ["_law_script", "_law_k"] (sp_l_cell K) := by
  have sc := sc_l_cell
  refine F.ok sc (fun vs H Q E h => ?_) (fun cdv A outer s H vs Q E hr h => ?_)
  · obtain ⟨Bs, t, r, ex, ⟨u0, _, rfl, hu0, ⟨u1, _, rfl, hu1, hz⟩⟩, hm, hQ⟩ := h
    cases hz
    rfl
  · obtain ⟨Bs, ⟨a_l_script, a_l_k, ⟨⟩⟩, r, ex, ⟨u0, _, rfl, hu0, ⟨u1, _, rfl, hu1, hz⟩⟩, hm, hQ⟩ := h
    cases hz
    replace hu0 : rp K Bs u0 a_l_script := hu0
    replace hu1 : rp K Bs u1 a_l_k := hu1
    replace hm : m_l_cell a_l_script a_l_k = some r := hm
    obtain ⟨Hs, eHs⟩ : ∃ Hs, Hs = H := ⟨_, rfl⟩
    subst eHs
    have N : Now noM Bs Hs oE emp Bs Hs () := nowE ex
    unfold m_l_cell at hm
    refine ⟨_, PSs.nox (pss_cons (ps_if (pt_cmpR op_lt (pv 1) (pe_callB (call_len_K (K := K) rfl) rfl T.free_len boot_len (pa_cons (pv 0) pa_nil)) (nomark _)) (pss_one (ps_ret (pe_ix (ix_listK (K := K) rfl) (pv 0) (pv 1) (fun _ _ => rfl)))) pss_nil) (pss_one (ps_ret pe_int))), ?_⟩
    refine sq ?_
    refine st_if hm N.ex (ct_test (cp_op r2_lt (cp_var rfl hu1) (cp_cb rc_lenScr (ca_cons (cp_var rfl hu0) ca_nil)))) rfl (fun B1 H2 hc4 hm g3 => ?_) (fun B1 H2 hc4 hm g3 => ?_)
    · replace N := N.pure g3
      replace hu0 := Rp.mono g3.b hu0
      replace hu1 := Rp.mono g3.b hu1
      refine st_ret (K := K) hm N.ex (cp_op r2_ixScr (cp_var rfl hu0) (cp_var rfl hu1)) (by first | rfl | simp only [o2, Option.bind_assoc, Option.bind_some]) fun v B1 H1 g hv => ?_
      exact hQ v B1 H1 (N.g.then g) hv
    · replace N := N.pure g3
      replace hu0 := Rp.mono g3.b hu0
      replace hu1 := Rp.mono g3.b hu1
      refine nxt ?_
      refine gnx ?_
      refine st_ret (K := K) hm N.ex cp_int rfl fun v B1 H1 g hv => ?_
      exact hQ v B1 H1 (N.g.then g) hv
def m_l_digits_b3 (p_l_script : Scr) (p_l_first : Int) (p_l_last : Int) (p_l_k : Int) (p_l_cell_here : Int) (p_l_turn : Int) (p_st : (Unit × (List Int))) (p_l_seed : Int) : Option ((Unit × (List Int)) × Int) :=
 (Option.bind (o2 (o2 (o2 (pmul p_l_seed (16807 : Int)) (pmul (7 : Int) p_l_turn) fun x y => some (x + y)) (some (1 : Int)) fun x y => some (x + y)) (some (2147483647 : Int)) fun x y => pmod x y) fun l_seed129 =>
 (Option.bind (Option.bind (Option.bind (o2 (pdiv l_seed129 (997 : Int)) (some (1000 : Int)) fun x y => pmod x y) fun x => some (x, p_st)) fun p135 => Option.bind (papp p135.2.2 p135.1) fun q136 => some ((), (p135.2.1, q136))) fun p142 =>
 some (p142.2, l_seed129)))
def m_l_digits_b2 (p_l_script : Scr) (p_l_first : Int) (p_l_last : Int) (p_l_k : Int) (p_l_turn : Int) (p_st : (Unit × (List Int))) (p_l_cell_here : Int) : Option ((Unit × (List Int)) × Int) :=
 (Option.bind (some ((decide (p_l_cell_here > (0 : Int))))) fun b => if b = true then
 (Option.bind (Option.bind (Option.bind (pmod p_l_cell_here (1000 : Int)) fun x => some (x, p_st)) fun p86 => Option.bind (papp p86.2.2 p86.1) fun q87 => some ((), (p86.2.1, q87))) fun p99 =>
 (Option.bind (pdiv p_l_cell_here (1000 : Int)) fun l_cell_here93 =>
 some (p99.2, l_cell_here93)))
 else
 some (p_st, p_l_cell_here))
def m_l_digits_b1 (p_l_script : Scr) (p_l_first : Int) (p_l_last : Int) (p_l_k : Int) (p_st : (Unit × (List Int))) : Option ((Unit × (List Int))) :=
 (Option.bind (m_l_cell p_l_script p_l_k) fun l_cell_here23 =>
 (Option.bind (Option.bind (some ((decide (l_cell_here23 < (0 : Int))))) fun b150 => if b150 = true then
 (Option.bind (o2 (some (1 : Int)) (pmul (2 : Int) l_cell_here23) fun x y => some (x - y)) fun l_cell_here39 =>
 (some (p_st, l_cell_here39)))
 else
 (some (p_st, l_cell_here23))) fun z55 =>
 (Option.bind (o2 (some z55.2) (ppow (10 : Int) (18 : Int)) fun x y => some ((decide (x ≥ y)))) fun b => if b = true then
 (Option.bind (Option.bind (some (60 : Int)) fun n => prange1 n) fun xs => Option.bind (forN (fun x (s : (Unit × (List Int)) × Int) => m_l_digits_b2 p_l_script p_l_first p_l_last p_l_k x s.1 s.2) xs (z55.1, z55.2)) fun s100 =>
 some (s100.1))
 else
 (Option.bind (o2 (o2 (o2 (pmul z55.2 (48271 : Int)) (pmul p_l_k (69621 : Int)) fun x y => some (x + y)) (some (11 : Int)) fun x y => some (x + y)) (some (2147483647 : Int)) fun x y => pmod x y) fun l_seed107 =>
 (Option.bind (Option.bind (some (12 : Int)) fun n => prange1 n) fun xs => Option.bind (forN (fun x (s : (Unit × (List Int)) × Int) => m_l_digits_b3 p_l_script p_l_first p_l_last p_l_k z55.2 x s.1 s.2) xs (z55.1, l_seed107)) fun s143 =>
 some (s143.1))))))
def m_l_digits (a_l_script : Scr) (a_l_first : Int) (a_l_last : Int) : Option (List Int) :=
 (Option.bind (some (([] : List Int), ())) fun p160 =>
 (Option.bind (Option.bind (some (a_l_first, a_l_last)) fun n => prange2 n.1 n.2) fun xs => Option.bind (forN (fun x (s : (Unit × (List Int))) => m_l_digits_b1 a_l_script a_l_first a_l_last x s) xs ((p160.2, p160.1))) fun s151 =>
 (some s151.2)))
abbrev s_l_digits : Stmt := top 9
theorem sc_l_digits : FnScope ["_law_script", "_law_first", "_law_last", "_law_digits_here", "_law_k", "_law_cell_here", "_law_turn", "_law_seed"] ["_law_script", "_law_first", "_law_last"] (defScope s_l_digits) := ⟨rfl, rfl, rfl, by decide +kernel, rfl, by decide +kernel, by decide +kernel⟩
abbrev sp_l_digits (K : Fg) : Sp := spP K (fun t : Scr × Int × Int × Unit => m_l_digits t.1 t.2.1 t.2.2.1)
set_option maxHeartbeats 0 in
theorem ok_l_digits {f : Addr} {fd : FuncData} (F : FunD K "_law_digits" "_law_digits" (defArgs s_l_digits) (defBody s_l_digits) (defScope s_l_digits) [] [] f fd) (T : Tx K mg) (c_l_cell : Fc P w K mg base 1 "_law_cell" ["_law_script", "_law_k"] (sp_l_cell K)) : FnOk P w K mg base CX0 2 f fd ["_law_script", "_law_first", "_law_last"] (sp_l_digits K) := by
  have sc := sc_l_digits
  refine F.ok sc (fun vs H Q E h => ?_) (fun cdv A outer s H vs Q E hr h => ?_)
  · obtain ⟨Bs, t, r, ex, ⟨u0, _, rfl, hu0, ⟨u1, _, rfl, hu1, ⟨u2, _, rfl, hu2, hz⟩⟩⟩, hm, hQ⟩ := h
    cases hz
    rfl
  · obtain ⟨Bs, ⟨a_l_script, a_l_first, a_l_last, ⟨⟩⟩, r, ex, ⟨u0, _, rfl, hu0, ⟨u1, _, rfl, hu1, ⟨u2, _, rfl, hu2, hz⟩⟩⟩, hm, hQ⟩ := h
    cases hz
    replace hu0 : rp K Bs u0 a_l_script := hu0
    replace hu1 : rp K Bs u1 a_l_first := hu1
    replace hu2 : rp K Bs u2 a_l_last := hu2
    replace hm : m_l_digits a_l_script a_l_first a_l_last = some r := hm
    obtain ⟨Hs, eHs⟩ : ∃ Hs, Hs = H := ⟨_, rfl⟩
    subst eHs
    have N : Now noM Bs Hs oE emp Bs Hs () := nowE ex
    unfold m_l_digits at hm
    refine ⟨_, PSs.nox (pss_cons (ps_set (i := 3) sc.nd rfl (.inl rfl) (pe_lst pa_nil)) (pss_cons (ps_for PassesOwn.never rfl (pi_range2 rfl T.free_range (pa_cons (pv 1) (pa_cons (pv 2) pa_nil))) (pg_name (i := 4) sc.nd rfl (.inl rfl)) (pss_cons (ps_set (i := 5) sc.nd rfl (.inl rfl) (pe_fc c_l_cell hr (by decide) rfl (pa_cons (pv 0) (pa_cons (pv 4) pa_nil)))) (pss_cons (ps_if (pt_cmpR op_lt (pv 5) pe_int (nomark _)) (pss_one (ps_set (i := 5) sc.nd rfl (.inl rfl) (pe_op op_sub pe_int (pe_op op_mul pe_int (pv 5))))) pss_nil) (pss_one (ps_if (pt_cmpR op_ge (pv 5) (pe_op op_pow pe_int pe_int) (nomark _)) (pss_one (ps_for PassesOwn.never rfl (pi_range1 rfl T.free_range (pa_cons pe_int pa_nil)) (pg_name (i := 6) sc.nd rfl (.inl rfl)) (pss_one (ps_if (pt_cmpR op_gt (pv 5) pe_int (nomark _)) (pss_cons (ps_expr (pe_bm PySem.F.plainAttrs_list PySem.F.slot_list_append PySem.F.type_list_append mt_append (pv 3) (pa_cons (pe_op op_mod (pe_callTy call_int_ rfl T.free_int boot_int (pa_cons (pv 5) pa_nil)) pe_int) pa_nil))) (pss_one (ps_set (i := 5) sc.nd rfl (.inl rfl) (pe_op op_fdiv (pv 5) pe_int)))) pss_nil)))) (pss_cons (ps_set (i := 7) sc.nd rfl (.inl rfl) (pe_op op_mod (pe_callTy call_int_ rfl T.free_int boot_int (pa_cons (pe_op op_add (pe_op op_add (pe_op op_mul (pv 5) pe_int) (pe_op op_mul (pv 4) pe_int)) pe_int) pa_nil)) pe_int)) (pss_one (ps_for PassesOwn.never rfl (pi_range1 rfl T.free_range (pa_cons pe_int pa_nil)) (pg_name (i := 6) sc.nd rfl (.inl rfl)) (pss_cons (ps_set (i := 7) sc.nd rfl (.inl rfl) (pe_op op_mod (pe_callTy call_int_ rfl T.free_int boot_int (pa_cons (pe_op op_add (pe_op op_add (pe_op op_mul (pv 7) pe_int) (pe_op op_mul pe_int (pv 6))) pe_int) pa_nil)) pe_int)) (pss_one (ps_expr (pe_bm PySem.F.plainAttrs_list PySem.F.slot_list_append PySem.F.type_list_append mt_append (pv 3) (pa_cons (pe_op op_mod (pe_callTy call_int_ rfl T.free_int boot_int (pa_cons (pe_op op_fdiv (pv 7) pe_int) pa_nil)) pe_int) pa_nil))))))))))))) (pss_one (ps_ret (pv 3))))), ?_⟩
    refine sq ?_
    refine st_asgL (K := K) hm N (Co.s (co_nil (α := Int))) (by first | rfl | simp only [o2, Option.bind_assoc, Option.bind_some]) fun l_digits_here1 s2 pl3 W4 B5 H6 hm N eb7 fp8 => ?_
    replace hu0 := Rp.mono eb7 hu0
    replace hu1 := Rp.mono eb7 hu1
    replace hu2 := Rp.mono eb7 hu2
    try dsimp only at hm
    refine gnx ?_
    refine sq ?_
    refine st_forN_r2 (K := K) (fun Be (s : (Unit × (List Int))) B σ H => ∃ (W : Hp) (o4 : Option V) (o5 : Option V) (o6 : Option V) (o7 : Option V), Now noM Bs Hs (star oE (OwL (α := Int) K pl3)) W B H s ∧ Ex B5 B ∧ Ex Be B ∧ σ = [some u0, some u1, some u2, some (.ref pl3), o4, o5, o6, o7]) hm N.ex (ca_cons (cp_var rfl hu1) (ca_cons (cp_var rfl hu2) ca_nil)) (by first | rfl | simp only [o2, Option.bind_assoc, Option.bind_some]) (fun Be H1 g => ⟨_, _, _, _, _, N.pure g, g.b, Ex.refl _, rfl⟩) ?_ ?_
    · rintro Be x9 s10 B12 σ H13 v14 c15 N16 ⟨W11, _, _, _, _, N, eb21, ee22, rfl⟩ hv17 hm hn18
      unfold m_l_digits_b1 at hm
      replace hu0 := Rp.mono eb21 hu0
      replace hu1 := Rp.mono eb21 hu1
      replace hu2 := Rp.mono eb21 hu2
      refine gnm ?_
      refine sq ?_
      refine st_asg (K := K) hm N.ex (cp_call0 (ca_cons0 (cp_var rfl hu0) (ca_cons0 (cp_var rfl hv17) ca_nil0))) (by first | rfl | simp only [o2, Option.bind_assoc, Option.bind_some]) fun l_cell_here23 v24 B25 H26 _ hm g27 h28 => ?_
      replace N := N.pure g27
      replace eb21 := eb21.trans g27.b
      replace ee22 := ee22.trans g27.b
      replace hu0 := Rp.mono g27.b hu0
      replace hu1 := Rp.mono g27.b hu1
      replace hu2 := Rp.mono g27.b hu2
      replace hv17 := Rp.mono g27.b hv17
      refine gnx ?_
      refine sq ?_
      refine st_ifJ hm (fun (z : (Unit × (List Int)) × Int) σ H => ∃ (W B : Hp) (w_l_cell_here : V) (o6 : Option V) (o7 : Option V), Now noM Bs Hs (star oE (OwL (α := Int) K pl3)) W B H z.1 ∧ Ex B25 B ∧ σ = [some u0, some u1, some u2, some (.ref pl3), some v14, some w_l_cell_here, o6, o7] ∧ rp K B w_l_cell_here z.2) N.ex (ct_test (cp_op r2_lt (cp_var rfl h28) cp_int)) (by first | rfl | simp only [o2, Option.bind_assoc, Option.bind_some]) ?_ ?_ ?_
      · intro z29 B32 H33 N34 hc35 hm g36 hn37
        have ej38 := g36.b
        replace N := N.pure g36
        replace eb21 := eb21.trans g36.b
        replace ee22 := ee22.trans g36.b
        replace hu0 := Rp.mono g36.b hu0
        replace hu1 := Rp.mono g36.b hu1
        replace hu2 := Rp.mono g36.b hu2
        replace hv17 := Rp.mono g36.b hv17
        replace h28 := Rp.mono g36.b h28
        refine st_asg (K := K) hm N.ex (cp_op r2_sub cp_int (cp_op r2_mul cp_int (cp_var rfl h28))) (by first | rfl | simp only [o2, Option.bind_assoc, Option.bind_some]) fun l_cell_here39 v40 B41 H42 _ hm g43 h44 => ?_
        replace N := N.pure g43
        replace eb21 := eb21.trans g43.b
        replace ee22 := ee22.trans g43.b
        replace ej38 := ej38.trans g43.b
        replace hu0 := Rp.mono g43.b hu0
        replace hu1 := Rp.mono g43.b hu1
        replace hu2 := Rp.mono g43.b hu2
        replace hv17 := Rp.mono g43.b hv17
        cases hm
        exact hn37 _ _ ⟨_, _, v40, _, _, N, ej38, rfl, h44⟩
      · intro z45 B48 H49 N50 hc51 hm g52 hn53
        have ej54 := g52.b
        replace N := N.pure g52
        replace eb21 := eb21.trans g52.b
        replace ee22 := ee22.trans g52.b
        replace hu0 := Rp.mono g52.b hu0
        replace hu1 := Rp.mono g52.b hu1
        replace hu2 := Rp.mono g52.b hu2
        replace hv17 := Rp.mono g52.b hv17
        replace h28 := Rp.mono g52.b h28
        refine nxt ?_
        cases hm
        exact hn53 _ _ ⟨_, _, v24, _, _, N, ej54, rfl, h28⟩
      · rintro z55 σ H58 hm ⟨W56, B57, w60, _, _, N, eb59, rfl, h61⟩
        replace eb21 := eb21.trans eb59
        replace ee22 := ee22.trans eb59
        replace hu0 := Rp.mono eb59 hu0
        replace hu1 := Rp.mono eb59 hu1
        replace hu2 := Rp.mono eb59 hu2
        replace hv17 := Rp.mono eb59 hv17
        refine gnx ?_
        refine st_if hm N.ex (ct_test (cp_op r2_ge (cp_var rfl h61) (cp_op r2_pow cp_int cp_int))) (by first | rfl | simp only [o2, Option.bind_assoc, Option.bind_some]) (fun B62 H63 hc65 hm g64 => ?_) (fun B62 H63 hc65 hm g64 => ?_)
        · replace N := N.pure g64
          replace eb21 := eb21.trans g64.b
          replace ee22 := ee22.trans g64.b
          replace hu0 := Rp.mono g64.b hu0
          replace hu1 := Rp.mono g64.b hu1
          replace hu2 := Rp.mono g64.b hu2
          replace hv17 := Rp.mono g64.b hv17
          replace h61 := Rp.mono g64.b h61
          refine st_forN_r1 (K := K) (fun Be (s : (Unit × (List Int)) × Int) B σ H => ∃ (W : Hp) (w_l_cell_here : V) (o6 : Option V) (o7 : Option V), Now noM Bs Hs (star oE (OwL (α := Int) K pl3)) W B H s.1 ∧ Ex B62 B ∧ Ex Be B ∧ σ = [some u0, some u1, some u2, some (.ref pl3), some v14, some w_l_cell_here, o6, o7] ∧ rp K B w_l_cell_here s.2) hm N.ex (ca_cons cp_int ca_nil) (by first | rfl | simp only [o2, Option.bind_assoc, Option.bind_some]) (fun Be H1 g => ⟨_, w60, _, _, N.pure g, g.b, Ex.refl _, rfl, Rp.mono g.b h61⟩) ?_ ?_
          · rintro Be x66 s67 B69 σ H70 v71 c72 N73 ⟨W68, w80, _, _, N, eb78, ee79, rfl, h81⟩ hv74 hm hn75
            unfold m_l_digits_b2 at hm
            replace eb21 := eb21.trans eb78
            replace ee22 := ee22.trans eb78
            replace hu0 := Rp.mono eb78 hu0
            replace hu1 := Rp.mono eb78 hu1
            replace hu2 := Rp.mono eb78 hu2
            replace hv17 := Rp.mono eb78 hv17
            refine gnm ?_
            refine st_if hm N.ex (ct_test (cp_op r2_gt (cp_var rfl h81) cp_int)) rfl (fun B82 H83 hc85 hm g84 => ?_) (fun B82 H83 hc85 hm g84 => ?_)
            · replace N := N.pure g84
              replace eb21 := eb21.trans g84.b
              replace ee22 := ee22.trans g84.b
              replace eb78 := eb78.trans g84.b
              replace ee79 := ee79.trans g84.b
              replace hu0 := Rp.mono g84.b hu0
              replace hu1 := Rp.mono g84.b hu1
              replace hu2 := Rp.mono g84.b hu2
              replace hv17 := Rp.mono g84.b hv17
              replace h81 := Rp.mono g84.b h81
              replace hv74 := Rp.mono g84.b hv74
              refine sq ?_
              refine st_dropS (K := K) hm N (cs_append ln_r rfl (Cp.s (cp_op r2_mod (cp_int1 (cp_var rfl h81)) cp_int))) (by first | rfl | simp only [o2, Option.bind_assoc, Option.bind_some]) fun _ s88 W89 B90 H91 hm N eb92 => ?_
              try dsimp only at hm
              replace eb21 := eb21.trans eb92
              replace ee22 := ee22.trans eb92
              replace eb78 := eb78.trans eb92
              replace ee79 := ee79.trans eb92
              replace hu0 := Rp.mono eb92 hu0
              replace hu1 := Rp.mono eb92 hu1
              replace hu2 := Rp.mono eb92 hu2
              replace hv17 := Rp.mono eb92 hv17
              replace h81 := Rp.mono eb92 h81
              replace hv74 := Rp.mono eb92 hv74
              refine gnx ?_
              refine st_asg (K := K) hm N.ex (cp_op r2_div (cp_var rfl h81) cp_int) (by first | rfl | simp only [o2, Option.bind_assoc, Option.bind_some]) fun l_cell_here93 v94 B95 H96 _ hm g97 h98 => ?_
              replace N := N.pure g97
              replace eb21 := eb21.trans g97.b
              replace ee22 := ee22.trans g97.b
              replace eb78 := eb78.trans g97.b
              replace ee79 := ee79.trans g97.b
              replace hu0 := Rp.mono g97.b hu0
              replace hu1 := Rp.mono g97.b hu1
              replace hu2 := Rp.mono g97.b hu2
              replace hv17 := Rp.mono g97.b hv17
              replace hv74 := Rp.mono g97.b hv74
              cases hm
              exact hn75 _ _ _ ⟨_, v94, _, _, N, eb78, ee79, rfl, h98⟩
            · replace N := N.pure g84
              replace eb21 := eb21.trans g84.b
              replace ee22 := ee22.trans g84.b
              replace eb78 := eb78.trans g84.b
              replace ee79 := ee79.trans g84.b
              replace hu0 := Rp.mono g84.b hu0
              replace hu1 := Rp.mono g84.b hu1
              replace hu2 := Rp.mono g84.b hu2
              replace hv17 := Rp.mono g84.b hv17
              replace h81 := Rp.mono g84.b h81
              replace hv74 := Rp.mono g84.b hv74
              refine nxt ?_
              cases hm
              exact hn75 _ _ _ ⟨_, w80, _, _, N, eb78, ee79, rfl, h81⟩
          · rintro Be s100 B102 σ H103 hm ⟨W101, w105, _, _, N, eb104, _, rfl, h106⟩
            replace eb21 := eb21.trans eb104
            replace ee22 := ee22.trans eb104
            replace hu0 := Rp.mono eb104 hu0
            replace hu1 := Rp.mono eb104 hu1
            replace hu2 := Rp.mono eb104 hu2
            replace hv17 := Rp.mono eb104 hv17
            cases hm
            exact hn18 _ _ _ ⟨_, _, _, _, _, N, eb21, ee22, rfl⟩
        · replace N := N.pure g64
          replace eb21 := eb21.trans g64.b
          replace ee22 := ee22.trans g64.b
          replace hu0 := Rp.mono g64.b hu0
          replace hu1 := Rp.mono g64.b hu1
          replace hu2 := Rp.mono g64.b hu2
          replace hv17 := Rp.mono g64.b hv17
          replace h61 := Rp.mono g64.b h61
          refine sq ?_
          refine st_asg (K := K) hm N.ex (cp_op r2_mod (cp_int1 (cp_op r2_add (cp_op r2_add (cp_op r2_mul (cp_var rfl h61) cp_int) (cp_op r2_mul (cp_var rfl hv17) cp_int)) cp_int)) cp_int) (by first | rfl | simp only [o2, Option.bind_assoc, Option.bind_some]) fun l_seed107 v108 B109 H110 _ hm g111 h112 => ?_
          replace N := N.pure g111
          replace eb21 := eb21.trans g111.b
          replace ee22 := ee22.trans g111.b
          replace hu0 := Rp.mono g111.b hu0
          replace hu1 := Rp.mono g111.b hu1
          replace hu2 := Rp.mono g111.b hu2
          replace hv17 := Rp.mono g111.b hv17
          replace h61 := Rp.mono g111.b h61
          refine gnx ?_
          refine st_forN_r1 (K := K) (fun Be (s : (Unit × (List Int)) × Int) B σ H => ∃ (W : Hp) (w_l_seed : V) (o6 : Option V), Now noM Bs Hs (star oE (OwL (α := Int) K pl3)) W B H s.1 ∧ Ex B109 B ∧ Ex Be B ∧ σ = [some u0, some u1, some u2, some (.ref pl3), some v14, some w60, o6, some w_l_seed] ∧ rp K B w_l_seed s.2) hm N.ex (ca_cons cp_int ca_nil) (by first | rfl | simp only [o2, Option.bind_assoc, Option.bind_some]) (fun Be H1 g => ⟨_, v108, _, N.pure g, g.b, Ex.refl _, rfl, Rp.mono g.b h112⟩) ?_ ?_
          · rintro Be x113 s114 B116 σ H117 v118 c119 N120 ⟨W115, w127, _, N, eb125, ee126, rfl, h128⟩ hv121 hm hn122
            unfold m_l_digits_b3 at hm
            replace eb21 := eb21.trans eb125
            replace ee22 := ee22.trans eb125
            replace hu0 := Rp.mono eb125 hu0
            replace hu1 := Rp.mono eb125 hu1
            replace hu2 := Rp.mono eb125 hu2
            replace hv17 := Rp.mono eb125 hv17
            replace h61 := Rp.mono eb125 h61
            refine gnm ?_
            refine sq ?_
            refine st_asg (K := K) hm N.ex (cp_op r2_mod (cp_int1 (cp_op r2_add (cp_op r2_add (cp_op r2_mul (cp_var rfl h128) cp_int) (cp_op r2_mul cp_int (cp_var rfl hv121))) cp_int)) cp_int) (by first | rfl | simp only [o2, Option.bind_assoc, Option.bind_some]) fun l_seed129 v130 B131 H132 _ hm g133 h134 => ?_
            replace N := N.pure g133
            replace eb21 := eb21.trans g133.b
            replace ee22 := ee22.trans g133.b
            replace eb125 := eb125.trans g133.b
            replace ee126 := ee126.trans g133.b
            replace hu0 := Rp.mono g133.b hu0
            replace hu1 := Rp.mono g133.b hu1
            replace hu2 := Rp.mono g133.b hu2
            replace hv17 := Rp.mono g133.b hv17
            replace h61 := Rp.mono g133.b h61
            replace hv121 := Rp.mono g133.b hv121
            refine gnx ?_
            refine st_dropS (K := K) hm N (cs_append ln_r rfl (Cp.s (cp_op r2_mod (cp_int1 (cp_op r2_div (cp_var rfl h134) cp_int)) cp_int))) (by first | rfl | simp only [o2, Option.bind_assoc, Option.bind_some]) fun _ s137 W138 B139 H140 hm N eb141 => ?_
            try dsimp only at hm
            replace eb21 := eb21.trans eb141
            replace ee22 := ee22.trans eb141
            replace eb125 := eb125.trans eb141
            replace ee126 := ee126.trans eb141
            replace hu0 := Rp.mono eb141 hu0
            replace hu1 := Rp.mono eb141 hu1
            replace hu2 := Rp.mono eb141 hu2
            replace hv17 := Rp.mono eb141 hv17
            replace h61 := Rp.mono eb141 h61
            replace hv121 := Rp.mono eb141 hv121
            replace h134 := Rp.mono eb141 h134
            cases hm
            exact hn122 _ _ _ ⟨_, v130, _, N, eb125, ee126, rfl, h134⟩
          · rintro Be s143 B145 σ H146 hm ⟨W144, w148, _, N, eb147, _, rfl, h149⟩
            replace eb21 := eb21.trans eb147
            replace ee22 := ee22.trans eb147
            replace hu0 := Rp.mono eb147 hu0
            replace hu1 := Rp.mono eb147 hu1
            replace hu2 := Rp.mono eb147 hu2
            replace hv17 := Rp.mono eb147 hv17
            replace h61 := Rp.mono eb147 h61
            cases hm
            exact hn18 _ _ _ ⟨_, _, _, _, _, N, eb21, ee22, rfl⟩
    · rintro Be s151 B153 σ H154 hm ⟨W152, _, _, _, _, N, eb155, _, rfl⟩
      replace hu0 := Rp.mono eb155 hu0
      replace hu1 := Rp.mono eb155 hu1
      replace hu2 := Rp.mono eb155 hu2
      refine gnx ?_
      obtain ⟨W156, B157, N, eb158, h159⟩ := N.freeze fp8
      replace hu0 := Rp.mono eb158 hu0
      replace hu1 := Rp.mono eb158 hu1
      replace hu2 := Rp.mono eb158 hu2
      refine st_ret (K := K) hm N.ex (cp_var rfl h159) rfl fun v B1 H1 g hv => ?_
      exact hQ v B1 H1 (N.g.then g) hv
end
abbrev s_l_draw : Stmt := top 10
theorem sc_l_draw : FnScope ["_law_box", "_law_many", "_law_at"] ["_law_box", "_law_many"] (defScope s_l_draw) := ⟨rfl, rfl, rfl, by decide +kernel, rfl, by decide +kernel, by decide +kernel⟩
abbrev sp_l_draw (K : Fg) : Sp := spM K (OwBox K) draw
theorem ok_l_draw {P : Program} {w : World} {K : Fg} {mg : Str → Option Value} {base : Heap} {f : Addr} {fd : FuncData} (F : FunD K "_law_draw" "_law_draw" (defArgs s_l_draw) (defBody s_l_draw) (defScope s_l_draw) [] [] f fd) (T : Tx K mg) : FnOk P w K mg base CX0 1 f fd ["_law_box", "_law_many"] (sp_l_draw K) := by
  have sc := sc_l_draw
  refine F.ok sc (fun vs H Q E h => ?_) (fun cdv A outer s H vs Q E hr h => ?_)
  · obtain ⟨a, us, W, B, s, t, r, s', rfl, _, _, _, _, ⟨v, _, rfl, _, hz⟩, _⟩ := h
    cases hz
    rfl
  · obtain ⟨b, us, W, B, rest, ⟨n, ⟨⟩⟩, r, s', rfl, ex, wx, d, ow, ⟨v, _, rfl, hv, hz⟩, hm, hQ⟩ := h
    cases hz
    cases (show v = .int n from hv)
    obtain ⟨u, ds, k, rfl, hu, rfl⟩ := ow
    obtain ⟨da, dvs, rfl, hd, pr⟩ := hu
    have hb : H b = some (.lst [.ref da, .int (k : Int)]) := wx b _ sing_at
    have hbd : da ≠ b := fun z => by
      subst z
      have := d da (nn sing_at)
      rw [hd] at this
      cases this
    have hdH : H da = some (.lst dvs) := ex _ _ hd
    refine ⟨_, PSs.nox (pss_cons (ps_set (i := 2) sc.nd rfl (.inl rfl) (pe_ix (ix_listK (K := K) rfl) (pv 0) pe_int (fun _ _ => rfl)))
      (pss_cons (ps_asg (pe_op op_add (pv 2) pe_int) (pg_sub (pv 0) pe_int set_list))
      (pss_cons (ps_if (pt_cmpR op_lt (pv 2) (pe_callB (call_len_K (K := K) rfl) rfl T.free_len boot_len (pa_cons (pe_ix (ix_listK (K := K) rfl) (pv 0) pe_int (fun _ _ => rfl)) pa_nil)) (nomark _))
        (pss_one (ps_ret (pe_op op_mod (pe_callTy call_int_ rfl T.free_int boot_int (pa_cons (pe_ix (ix_listK (K := K) rfl) (pe_ix (ix_listK (K := K) rfl) (pv 0) pe_int (fun _ _ => rfl)) (pv 2) (fun _ _ => rfl)) pa_nil)) (pv 1)))) pss_nil)
      (pss_one (ps_ret pe_int))))), ?_⟩
    refine ⟨_, rfl, b, _, 1, .int (k : Int), rfl, rfl, sq_lst hb, rfl, ?_⟩
    refine ⟨_, rfl, _, _, rfl, rfl, _, rfl, b, _, 0 + 1, 1, rfl, rfl, hb, rfl, ?_⟩
    have sw := sw_sing (o' := .lst [.ref da, .int ((k : Int) + 1)]) ex wx d
    have hb2 : (upd H b (.lst [.ref da, .int ((k : Int) + 1)])) b = some (.lst [.ref da, .int ((k : Int) + 1)]) := upd_same
    have hd2 : (upd H b (.lst [.ref da, .int ((k : Int) + 1)])) da = some (.lst dvs) := by rw [upd_ne hbd]; exact hdH
    have hl := pr_len pr
    refine ⟨_, rfl, _, rfl, b, _, 0, .ref da, rfl, rfl, sq_lst hb2, rfl, _, dvs.length, rfl, .inl ⟨dvs, sq_lst hd2, rfl⟩, _, _, rfl, rfl, decide ((k : Int) < (dvs.length : Int)), rfl, ?_⟩
    by_cases hk : k < ds.length
    · rw [decide_eq_true (by omega)]
      refine iteT ?_
      have ed : ds.drop k = ds[k] :: ds.drop (k + 1) := List.drop_eq_getElem_cons hk
      rw [ed] at hm
      obtain ⟨x, e1, e2⟩ := bd_some (show ((pmod ds[k] n).bind fun x => some (x, ds.drop (k + 1))) = some (r, s') from hm)
      cases e2
      obtain ⟨hn, e1⟩ := if_some e1
      subst e1
      have hx : at? ds (k : Int) = some ds[k] := by
        unfold at?
        rw [if_pos (by omega), Int.toNat_natCast]
        exact List.getElem?_eq_getElem hk
      obtain ⟨v2, hv2, rv2⟩ := atI_of pr hx
      cases (show v2 = .int _ from rv2)
      refine ⟨_, rfl, b, _, 0, .ref da, rfl, rfl, sq_lst hb2, rfl, _, rfl, da, dvs, (k : Int), _, rfl, rfl, sq_lst hd2, hv2, .inl ⟨_, rfl, _, rfl, _, _, rfl, rfl, hn, ?_⟩⟩
      exact hQ _ _ B _ sw ⟨.ref da, ds, k + 1, rfl, ⟨da, dvs, rfl, hd, pr⟩, rfl⟩ rfl
    · rw [decide_eq_false (by omega)]
      have ed : ds.drop k = [] := List.drop_eq_nil_of_le (by omega)
      rw [ed] at hm
      cases hm
      refine iteF ?_
      exact hQ _ _ B _ sw ⟨.ref da, ds, k + 1, rfl, ⟨da, dvs, rfl, hd, pr⟩, (List.drop_eq_nil_of_le (by omega)).symm⟩ rfl
section
variable {P : Program} {w : World} {K : Fg} {mg : Str → Option Value} {base : Heap}

def n_l_tile (st0 : (List Int)) (a_l_shuts : Int) (a_l_many : Int) : Option (Str × (List Int)) :=
 (Option.bind (Option.bind (draw st0 ((12 : Int), ())) fun q2 => some (q2.1, q2.2)) fun p149 =>
 (Option.bind (some ((decide (p149.1 < a_l_shuts)))) fun b => if b = true then
 (Option.bind (some ("#" : Str)) fun x => some (x, p149.2))
 else
 (Option.bind (Option.bind (some ((decide (p149.1 > (10 : Int))))) fun a => if a = true then (some ((decide (a_l_many > (0 : Int))))) else some false) fun b => if b = true then
 (Option.bind (Option.bind (some (("abc" : Str), p149.2)) fun p21 => Option.bind (Option.bind (draw p21.2 (a_l_many, ())) fun q20 => some (q20.1, q20.2)) fun q22 => Option.bind (atS? p21.1 q22.1) fun z => some (z, q22.2)) fun p31 => some (p31.1, p31.2))
 else
 (Option.bind (Option.bind (some ((decide (p149.1 > (8 : Int))))) fun a => if a = true then (some ((decide (a_l_many > (0 : Int))))) else some false) fun b => if b = true then
 (Option.bind (Option.bind (some (("ABCD" : Str), p149.2)) fun p38 => Option.bind (Option.bind (draw p38.2 (a_l_many, ())) fun q37 => some (q37.1, q37.2)) fun q39 => Option.bind (atS? p38.1 q39.1) fun z => some (z, q39.2)) fun p48 => some (p48.1, p48.2))
 else
 (Option.bind (some ((decide (p149.1 > (7 : Int))))) fun b => if b = true then
 (Option.bind (some ("+" : Str)) fun x => some (x, p149.2))
 else
 (Option.bind (some ("." : Str)) fun x => some (x, p149.2)))))))
def m_l_tile (s : (List Int)) (t : Int × Int × Unit) : Option (Str × (List Int)) := n_l_tile s t.1 t.2.1
abbrev s_l_tile : Stmt := top 11
theorem sc_l_tile : FnScope ["_law_box", "_law_shuts", "_law_many", "_law_kind"] ["_law_box", "_law_shuts", "_law_many"] (defScope s_l_tile) := ⟨rfl, rfl, rfl, by decide +kernel, rfl, by decide +kernel, by decide +kernel⟩
abbrev sp_l_tile (K : Fg) : Sp := spM K (fun pa => (OwBox K pa)) m_l_tile
set_option maxHeartbeats 0 in
theorem ok_l_tile {f : Addr} {fd : FuncData} (F : FunD K "_law_tile" "_law_tile" (defArgs s_l_tile) (defBody s_l_tile) (defScope s_l_tile) [] [] f fd) (T : Tx K mg) (c_l_draw : Fc P w K mg base 1 "_law_draw" ["_law_box", "_law_many"] (sp_l_draw K)) : FnOk P w K mg base CX0 2 f fd ["_law_box", "_law_shuts", "_law_many"] (sp_l_tile K) := by
  have sc := sc_l_tile
  refine F.ok sc (fun vs H Q E h => ?_) (fun cdv A outer s H vs Q E hr h => ?_)
  · obtain ⟨pa, us, W0, Bs, st0, t, r, s9, rfl, _, _, _, _, ⟨u0, _, rfl, hu0, ⟨u1, _, rfl, hu1, hz⟩⟩, _⟩ := h
    cases hz
    rfl
  · obtain ⟨pa, us, W0, Bs, st0, ⟨a_l_shuts, a_l_many, ⟨⟩⟩, r, s9, rfl, ex, wx, dj, ow, ⟨u0, _, rfl, hu0, ⟨u1, _, rfl, hu1, hz⟩⟩, hm, hQ⟩ := h
    cases hz
    replace hu0 : rp K Bs u0 a_l_shuts := hu0
    replace hu1 : rp K Bs u1 a_l_many := hu1
    replace hm : n_l_tile st0 a_l_shuts a_l_many = some (r, s9) := hm
    obtain ⟨Hs, eHs⟩ : ∃ Hs, Hs = H := ⟨_, rfl⟩
    subst eHs
    have N : Now (dom W0) Bs Hs (OwBox K pa) W0 Bs Hs st0 := now0 ex wx dj ow
    unfold n_l_tile at hm
    refine ⟨_, PSs.nox (pss_cons (ps_set (i := 3) sc.nd rfl (.inl rfl) (pe_fc c_l_draw hr (by decide) rfl (pa_cons (pv 0) (pa_cons pe_int pa_nil)))) (pss_cons (ps_if (pt_cmpR op_lt (pv 3) (pv 1) (nomark _)) (pss_one (ps_ret pe_str)) pss_nil) (pss_cons (ps_if (PW.pt (pw_and (pt_cmpR op_gt (pv 3) pe_int (nomark _)) (pw_and1 (pt_cmpR op_gt (pv 2) pe_int (nomark _))))) (pss_one (ps_ret (pe_ix ix_str pe_str (pe_fc c_l_draw hr (by decide) rfl (pa_cons (pv 0) (pa_cons (pv 2) pa_nil))) (fun _ _ => rfl)))) pss_nil) (pss_cons (ps_if (PW.pt (pw_and (pt_cmpR op_gt (pv 3) pe_int (nomark _)) (pw_and1 (pt_cmpR op_gt (pv 2) pe_int (nomark _))))) (pss_one (ps_ret (pe_ix ix_str pe_str (pe_fc c_l_draw hr (by decide) rfl (pa_cons (pv 0) (pa_cons (pv 2) pa_nil))) (fun _ _ => rfl)))) pss_nil) (pss_cons (ps_if (pt_cmpR op_gt (pv 3) pe_int (nomark _)) (pss_one (ps_ret pe_str)) pss_nil) (pss_one (ps_ret pe_str))))))), ?_⟩
    refine sq ?_
    refine st_asgS (K := K) hm N (cs_callM ln_id rfl (csa_cons (Cp.s cp_int) csa_nil)) (by first | rfl | simp only [o2, Option.bind_assoc, Option.bind_some]) fun l_kind3 s4 v5 W6 B7 H8 hm N eb9 h10 => ?_
    try dsimp only at hm
    replace hu0 := Rp.mono eb9 hu0
    replace hu1 := Rp.mono eb9 hu1
    refine gnx ?_
    refine sq ?_
    refine st_if hm N.ex (ct_test (cp_op r2_lt (cp_var rfl h10) (cp_var rfl hu0))) rfl (fun B11 H12 hc14 hm g13 => ?_) (fun B11 H12 hc14 hm g13 => ?_)
    · replace N := N.pure g13
      replace hu0 := Rp.mono g13.b hu0
      replace hu1 := Rp.mono g13.b hu1
      replace h10 := Rp.mono g13.b h10
      refine st_retF (K := K) (m' := (some ("#" : Str))) hm N.ex cp_str rfl fun x v B1 H1 hm g hv => ?_
      cases hm
      replace N := N.pure g
      exact hQ _ _ _ _ N.sw N.p hv
    · replace N := N.pure g13
      replace hu0 := Rp.mono g13.b hu0
      replace hu1 := Rp.mono g13.b hu1
      replace h10 := Rp.mono g13.b h10
      refine nxt ?_
      refine gnx ?_
      refine sq ?_
      refine st_if hm N.ex (ct_and (ct_test (cp_op r2_gt (cp_var rfl h10) cp_int)) (ct_test (cp_op r2_gt (cp_var rfl hu1) cp_int))) (by first | rfl | simp only [o2, Option.bind_assoc, Option.bind_some]) (fun B15 H16 hc18 hm g17 => ?_) (fun B15 H16 hc18 hm g17 => ?_)
      · replace N := N.pure g17
        replace hu0 := Rp.mono g17.b hu0
        replace hu1 := Rp.mono g17.b hu1
        replace h10 := Rp.mono g17.b h10
        refine st_retS (K := K) hm N (cs_op r2_ixS (Cp.s cp_str) (cs_callM ln_id rfl (csa_cons (Cp.s (cp_var rfl hu1)) csa_nil))) (by first | rfl | simp only [o2, Option.bind_assoc, Option.bind_some]) fun x23 s24 v25 W26 B27 H28 hm N eb29 h30 => ?_
        cases hm
        exact hQ _ _ _ _ N.sw N.p h30
      · replace N := N.pure g17
        replace hu0 := Rp.mono g17.b hu0
        replace hu1 := Rp.mono g17.b hu1
        replace h10 := Rp.mono g17.b h10
        refine nxt ?_
        refine gnx ?_
        refine sq ?_
        refine st_if hm N.ex (ct_and (ct_test (cp_op r2_gt (cp_var rfl h10) cp_int)) (ct_test (cp_op r2_gt (cp_var rfl hu1) cp_int))) (by first | rfl | simp only [o2, Option.bind_assoc, Option.bind_some]) (fun B32 H33 hc35 hm g34 => ?_) (fun B32 H33 hc35 hm g34 => ?_)
        · replace N := N.pure g34
          replace hu0 := Rp.mono g34.b hu0
          replace hu1 := Rp.mono g34.b hu1
          replace h10 := Rp.mono g34.b h10
          refine st_retS (K := K) hm N (cs_op r2_ixS (Cp.s cp_str) (cs_callM ln_id rfl (csa_cons (Cp.s (cp_var rfl hu1)) csa_nil))) (by first | rfl | simp only [o2, Option.bind_assoc, Option.bind_some]) fun x40 s41 v42 W43 B44 H45 hm N eb46 h47 => ?_
          cases hm
          exact hQ _ _ _ _ N.sw N.p h47
        · replace N := N.pure g34
          replace hu0 := Rp.mono g34.b hu0
          replace hu1 := Rp.mono g34.b hu1
          replace h10 := Rp.mono g34.b h10
          refine nxt ?_
          refine gnx ?_
          refine sq ?_
          refine st_if hm N.ex (ct_test (cp_op r2_gt (cp_var rfl h10) cp_int)) rfl (fun B49 H50 hc52 hm g51 => ?_) (fun B49 H50 hc52 hm g51 => ?_)
          · replace N := N.pure g51
            replace hu0 := Rp.mono g51.b hu0
            replace hu1 := Rp.mono g51.b hu1
            replace h10 := Rp.mono g51.b h10
            refine st_retF (K := K) (m' := (some ("+" : Str))) hm N.ex cp_str rfl fun x v B1 H1 hm g hv => ?_
            cases hm
            replace N := N.pure g
            exact hQ _ _ _ _ N.sw N.p hv
          · replace N := N.pure g51
            replace hu0 := Rp.mono g51.b hu0
            replace hu1 := Rp.mono g51.b hu1
            replace h10 := Rp.mono g51.b h10
            refine nxt ?_
            refine gnx ?_
            refine st_retF (K := K) (m' := (some ("." : Str))) hm N.ex cp_str rfl fun x v B1 H1 hm g hv => ?_
            cases hm
            replace N := N.pure g
            exact hQ _ _ _ _ N.sw N.p hv
def m_l_used_b2 (p_l_rows_here : (List Str)) (p_l_k : Int) (p_l_row : Str) (p_st : (Unit × (List Int))) : Option ((Unit × (List Int))) :=
 (Option.bind (Option.bind (Option.bind (some ((!decide (p_l_k ∈ p_st.2)))) fun a => if a = true then (Option.bind (o2 (atS? ("ABCD" : Str) p_l_k) (some p_l_row) fun x y => inS x y) fun a => if a = true then some true else (o2 (atS? ("abc" : Str) p_l_k) (some p_l_row) fun x y => inS x y)) else some false) fun x => some (x, p_st)) fun b51 => if b51.1 = true then
 (Option.bind (Option.bind (some (p_l_k, b51.2)) fun p43 => Option.bind (papp p43.2.2 p43.1) fun q44 => some ((), (p43.2.1, q44))) fun p50 =>
 some (p50.2))
 else
 some (b51.2))
def m_l_used_b1 (p_l_rows_here : (List Str)) (p_l_k : Int) (p_st : (Unit × (List Int))) : Option ((Unit × (List Int))) :=
 (Option.bind (some p_l_rows_here) fun xs => Option.bind (forN (fun x (s : (Unit × (List Int))) => m_l_used_b2 p_l_rows_here p_l_k x s) xs (p_st)) fun s52 =>
 some (s52))
def m_l_used (a_l_rows_here : (List Str)) : Option (List Int) :=
 (Option.bind (some (([] : List Int), ())) fun p66 =>
 (Option.bind (Option.bind (some (3 : Int)) fun n => prange1 n) fun xs => Option.bind (forN (fun x (s : (Unit × (List Int))) => m_l_used_b1 a_l_rows_here x s) xs ((p66.2, p66.1))) fun s57 =>
 (some s57.2)))
abbrev s_l_used : Stmt := top 12
theorem sc_l_used : FnScope ["_law_rows_here", "_law_used_here", "_law_k", "_law_row"] ["_law_rows_here"] (defScope s_l_used) := ⟨rfl, rfl, rfl, by decide +kernel, rfl, by decide +kernel, by decide +kernel⟩
abbrev sp_l_used (K : Fg) : Sp := spP K (fun t : (List Str) × Unit => m_l_used t.1)
set_option maxHeartbeats 0 in
theorem ok_l_used {f : Addr} {fd : FuncData} (F : FunD K "_law_used" "_law_used" (defArgs s_l_used) (defBody s_l_used) (defScope s_l_used) [] [] f fd) (T : Tx K mg)  : FnOk P w K mg base CX0 1 f fd ["_law_rows_here"] (sp_l_used K) := by
  have sc := sc_l_used
  refine F.ok sc (fun vs H Q E h => ?_) (fun cdv A outer s H vs Q E hr h => ?_)
  · obtain ⟨Bs, t, r, ex, ⟨u0, _, rfl, hu0, hz⟩, hm, hQ⟩ := h
    cases hz
    rfl
  · obtain ⟨Bs, ⟨a_l_rows_here, ⟨⟩⟩, r, ex, ⟨u0, _, rfl, hu0, hz⟩, hm, hQ⟩ := h
    cases hz
    replace hu0 : rp K Bs u0 a_l_rows_here := hu0
    replace hm : m_l_used a_l_rows_here = some r := hm
    obtain ⟨Hs, eHs⟩ : ∃ Hs, Hs = H := ⟨_, rfl⟩
    subst eHs
    have N : Now noM Bs Hs oE emp Bs Hs () := nowE ex
    unfold m_l_used at hm
    refine ⟨_, PSs.nox (pss_cons (ps_set (i := 1) sc.nd rfl (.inl rfl) (pe_lst pa_nil)) (pss_cons (ps_for PassesOwn.never rfl (pi_range1 rfl T.free_range (pa_cons pe_int pa_nil)) (pg_name (i := 2) sc.nd rfl (.inl rfl)) (pss_one (ps_for PassesOwn.never rfl (pi_list (pv 0)) (pg_name (i := 3) sc.nd rfl (.inl rfl)) (pss_one (ps_if (PW.pt (pw_and (pt_cmpR (op_notIn_seqK (K := K) rfl) (pv 2) (pv 1) rfl) (pw_and1 (PW.pt (pw_or (pt_cmpR op_inS (pe_ix ix_str pe_str (pv 2) (fun _ _ => rfl)) (pv 3) rfl) (pw_or1 (pt_cmpR op_inS (pe_ix ix_str pe_str (pv 2) (fun _ _ => rfl)) (pv 3) rfl))))))) (pss_one (ps_expr (pe_bm PySem.F.plainAttrs_list PySem.F.slot_list_append PySem.F.type_list_append mt_append (pv 1) (pa_cons (pv 2) pa_nil)))) pss_nil))))) (pss_one (ps_ret (pv 1))))), ?_⟩
    refine sq ?_
    refine st_asgL (K := K) hm N (Co.s (co_nil (α := Int))) (by first | rfl | simp only [o2, Option.bind_assoc, Option.bind_some]) fun l_used_here1 s2 pl3 W4 B5 H6 hm N eb7 fp8 => ?_
    replace hu0 := Rp.mono eb7 hu0
    try dsimp only at hm
    refine gnx ?_
    refine sq ?_
    refine st_forN_r1 (K := K) (fun Be (s : (Unit × (List Int))) B σ H => ∃ (W : Hp) (o2 : Option V) (o3 : Option V), Now noM Bs Hs (star oE (OwL (α := Int) K pl3)) W B H s ∧ Ex B5 B ∧ Ex Be B ∧ σ = [some u0, some (.ref pl3), o2, o3]) hm N.ex (ca_cons cp_int ca_nil) (by first | rfl | simp only [o2, Option.bind_assoc, Option.bind_some]) (fun Be H1 g => ⟨_, _, _, N.pure g, g.b, Ex.refl _, rfl⟩) ?_ ?_
    · rintro Be x9 s10 B12 σ H13 v14 c15 N16 ⟨W11, _, _, N, eb21, ee22, rfl⟩ hv17 hm hn18
      unfold m_l_used_b1 at hm
      replace hu0 := Rp.mono eb21 hu0
      refine gnm ?_
      refine st_forN_list (K := K) (fun Be (s : (Unit × (List Int))) B σ H => ∃ (W : Hp) (o3 : Option V), Now noM Bs Hs (star oE (OwL (α := Int) K pl3)) W B H s ∧ Ex B12 B ∧ Ex Be B ∧ σ = [some u0, some (.ref pl3), some v14, o3]) hm N.ex (cp_var rfl hu0) (by first | rfl | simp only [o2, Option.bind_assoc, Option.bind_some]) (fun Be s B σ H h => by obtain ⟨_, _, N, _, ee, _⟩ := h; exact ⟨ee, N.ex⟩) (fun Be H1 g => ⟨_, _, N.pure g, g.b, Ex.refl _, rfl⟩) ?_ ?_
      · rintro Be x23 s24 B26 σ H27 v28 c29 N30 ⟨W25, _, N, eb35, ee36, rfl⟩ hv31 hm hn32
        unfold m_l_used_b2 at hm
        replace eb21 := eb21.trans eb35
        replace ee22 := ee22.trans eb35
        replace hu0 := Rp.mono eb35 hu0
        replace hv17 := Rp.mono eb35 hv17
        refine gnm ?_
        refine st_ifS hm N (cst_view fun W1 B1 s e1 d1 hP => (ct_and (ct_test (cp_op r2_ninL (cp_var rfl (Rp.mono (e1.trans (ex_uni_r d1)) hv17)) (cp_var rfl (ol_rp ln_r hP d1)))) (ct_or (ct_test (cp_op r2_inS (cp_op r2_ixS cp_str (cp_var rfl (Rp.mono (e1.trans (ex_uni_r d1)) hv17))) (cp_var rfl (Rp.mono (e1.trans (ex_uni_r d1)) hv31)))) (ct_test (cp_op r2_inS (cp_op r2_ixS cp_str (cp_var rfl (Rp.mono (e1.trans (ex_uni_r d1)) hv17))) (cp_var rfl (Rp.mono (e1.trans (ex_uni_r d1)) hv31))))))) (by first | rfl | simp only [o2, Option.bind_assoc, Option.bind_some]) (fun s37 W38 B39 H40 hc41 hm N eb42 => ?_) (fun s37 W38 B39 H40 hc41 hm N eb42 => ?_)
        · try dsimp only at hm
          replace eb21 := eb21.trans eb42
          replace ee22 := ee22.trans eb42
          replace eb35 := eb35.trans eb42
          replace ee36 := ee36.trans eb42
          replace hu0 := Rp.mono eb42 hu0
          replace hv17 := Rp.mono eb42 hv17
          replace hv31 := Rp.mono eb42 hv31
          refine st_dropS (K := K) hm N (cs_append ln_r rfl (Cp.s (cp_var rfl hv17))) (by first | rfl | simp only [o2, Option.bind_assoc, Option.bind_some]) fun _ s45 W46 B47 H48 hm N eb49 => ?_
          try dsimp only at hm
          replace eb21 := eb21.trans eb49
          replace ee22 := ee22.trans eb49
          replace eb35 := eb35.trans eb49
          replace ee36 := ee36.trans eb49
          replace hu0 := Rp.mono eb49 hu0
          replace hv17 := Rp.mono eb49 hv17
          replace hv31 := Rp.mono eb49 hv31
          cases hm
          exact hn32 _ _ _ ⟨_, _, N, eb35, ee36, rfl⟩
        · try dsimp only at hm
          replace eb21 := eb21.trans eb42
          replace ee22 := ee22.trans eb42
          replace eb35 := eb35.trans eb42
          replace ee36 := ee36.trans eb42
          replace hu0 := Rp.mono eb42 hu0
          replace hv17 := Rp.mono eb42 hv17
          replace hv31 := Rp.mono eb42 hv31
          refine nxt ?_
          cases hm
          exact hn32 _ _ _ ⟨_, _, N, eb35, ee36, rfl⟩
      · rintro Be s52 B54 σ H55 hm ⟨W53, _, N, eb56, _, rfl⟩
        replace eb21 := eb21.trans eb56
        replace ee22 := ee22.trans eb56
        replace hu0 := Rp.mono eb56 hu0
        replace hv17 := Rp.mono eb56 hv17
        cases hm
        exact hn18 _ _ _ ⟨_, _, _, N, eb21, ee22, rfl⟩
    · rintro Be s57 B59 σ H60 hm ⟨W58, _, _, N, eb61, _, rfl⟩
      replace hu0 := Rp.mono eb61 hu0
      refine gnx ?_
      obtain ⟨W62, B63, N, eb64, h65⟩ := N.freeze fp8
      replace hu0 := Rp.mono eb64 hu0
      refine st_ret (K := K) hm N.ex (cp_var rfl h65) rfl fun v B1 H1 g hv => ?_
      exact hQ v B1 H1 (N.g.then g) hv
def m_l_renamed_b2 (p_l_row : Str) (p_l_used_here : (List Int)) (p_l_new : Str) (p_l_sign : Str) (p_l_at : Int) (p_l_tile_here : Str) : Option (Str) :=
 (Option.bind (Option.bind (o2 (some p_l_sign) (o2 (some ("ABCD" : Str)) (at? p_l_used_here p_l_at) fun x y => atS? x y) fun x y => some ((decide (x = y)))) fun b88 => if b88 = true then
 (Option.bind (atS? ("ABCD" : Str) p_l_at) fun l_tile_here55 =>
 (some (l_tile_here55)))
 else
 (some (p_l_tile_here))) fun z71 =>
 (Option.bind (o2 (some p_l_sign) (o2 (some ("abc" : Str)) (at? p_l_used_here p_l_at) fun x y => atS? x y) fun x y => some ((decide (x = y)))) fun b => if b = true then
 (Option.bind (atS? ("abc" : Str) p_l_at) fun l_tile_here82 =>
 some (l_tile_here82))
 else
 some (z71)))
def m_l_renamed_b1 (p_l_row : Str) (p_l_used_here : (List Int)) (p_l_sign : Str) (p_l_new : Str) : Option (Str) :=
 (Option.bind (some p_l_sign) fun l_tile_here23 =>
 (Option.bind (Option.bind (some ((p_l_used_here.length : Int))) fun n => prange1 n) fun xs => Option.bind (forN (fun x (s : Str) => m_l_renamed_b2 p_l_row p_l_used_here p_l_new p_l_sign x s) xs (l_tile_here23)) fun s89 =>
 (Option.bind (pcat p_l_new s89) fun l_new96 =>
 some (l_new96))))
def m_l_renamed (a_l_row : Str) (a_l_used_here : (List Int)) : Option Str :=
 (Option.bind (some ("" : Str)) fun l_new1 =>
 (Option.bind (Option.bind (some a_l_row) fun x => some (sgns x)) fun xs => Option.bind (forN (fun x (s : Str) => m_l_renamed_b1 a_l_row a_l_used_here x s) xs (l_new1)) fun s102 =>
 (some s102)))
abbrev s_l_renamed : Stmt := top 13
theorem sc_l_renamed : FnScope ["_law_row", "_law_used_here", "_law_new", "_law_sign", "_law_tile_here", "_law_at"] ["_law_row", "_law_used_here"] (defScope s_l_renamed) := ⟨rfl, rfl, rfl, by decide +kernel, rfl, by decide +kernel, by decide +kernel⟩
abbrev sp_l_renamed (K : Fg) : Sp := spP K (fun t : Str × (List Int) × Unit => m_l_renamed t.1 t.2.1)
set_option maxHeartbeats 0 in
theorem ok_l_renamed {f : Addr} {fd : FuncData} (F : FunD K "_law_renamed" "_law_renamed" (defArgs s_l_renamed) (defBody s_l_renamed) (defScope s_l_renamed) [] [] f fd) (T : Tx K mg)  : FnOk P w K mg base CX0 1 f fd ["_law_row", "_law_used_here"] (sp_l_renamed K) := by
  have sc := sc_l_renamed
  refine F.ok sc (fun vs H Q E h => ?_) (fun cdv A outer s H vs Q E hr h => ?_)
  · obtain ⟨Bs, t, r, ex, ⟨u0, _, rfl, hu0, ⟨u1, _, rfl, hu1, hz⟩⟩, hm, hQ⟩ := h
    cases hz
    rfl
  · obtain ⟨Bs, ⟨a_l_row, a_l_used_here, ⟨⟩⟩, r, ex, ⟨u0, _, rfl, hu0, ⟨u1, _, rfl, hu1, hz⟩⟩, hm, hQ⟩ := h
    cases hz
    replace hu0 : rp K Bs u0 a_l_row := hu0
    replace hu1 : rp K Bs u1 a_l_used_here := hu1
    replace hm : m_l_renamed a_l_row a_l_used_here = some r := hm
    obtain ⟨Hs, eHs⟩ : ∃ Hs, Hs = H := ⟨_, rfl⟩
    subst eHs
    have N : Now noM Bs Hs oE emp Bs Hs () := nowE ex
    unfold m_l_renamed at hm
    refine ⟨_, PSs.nox (pss_cons (ps_set (i := 2) sc.nd rfl (.inl rfl) pe_str) (pss_cons (ps_for PassesOwn.never rfl (pi_str (pv 0)) (pg_name (i := 3) sc.nd rfl (.inl rfl)) (pss_cons (ps_set (i := 4) sc.nd rfl (.inl rfl) (pv 3)) (pss_cons (ps_for PassesOwn.never rfl (pi_range1 rfl T.free_range (pa_cons (pe_callB (call_len_K (K := K) rfl) rfl T.free_len boot_len (pa_cons (pv 1) pa_nil)) pa_nil)) (pg_name (i := 5) sc.nd rfl (.inl rfl)) (pss_cons (ps_if (pt_cmpR op_eq (pv 3) (pe_ix ix_str pe_str (pe_ix (ix_listK (K := K) rfl) (pv 1) (pv 5) (fun _ _ => rfl)) (fun _ _ => rfl)) (nomark _)) (pss_one (ps_set (i := 4) sc.nd rfl (.inl rfl) (pe_ix ix_str pe_str (pv 5) (fun _ _ => rfl)))) pss_nil) (pss_one (ps_if (pt_cmpR op_eq (pv 3) (pe_ix ix_str pe_str (pe_ix (ix_listK (K := K) rfl) (pv 1) (pv 5) (fun _ _ => rfl)) (fun _ _ => rfl)) (nomark _)) (pss_one (ps_set (i := 4) sc.nd rfl (.inl rfl) (pe_ix ix_str pe_str (pv 5) (fun _ _ => rfl)))) pss_nil)))) (pss_one (ps_set (i := 2) sc.nd rfl (.inl rfl) (pe_op op_add_str (pv 2) (pv 4))))))) (pss_one (ps_ret (pv 2))))), ?_⟩
    refine sq ?_
    refine st_asg (K := K) hm N.ex cp_str rfl fun l_new1 v2 B3 H4 _ hm g5 h6 => ?_
    replace N := N.pure g5
    replace hu0 := Rp.mono g5.b hu0
    replace hu1 := Rp.mono g5.b hu1
    refine gnx ?_
    refine sq ?_
    refine st_forN_str (K := K) (fun Be (s : Str) B σ H => ∃ (W : Hp) (w_l_new : V) (o3 : Option V) (o4 : Option V) (o5 : Option V), Now noM Bs Hs oE W B H () ∧ Ex B3 B ∧ Ex Be B ∧ σ = [some u0, some u1, some w_l_new, o3, o4, o5] ∧ rp K B w_l_new s) hm N.ex (cp_var rfl hu0) (by first | rfl | simp only [o2, Option.bind_assoc, Option.bind_some]) (fun Be H1 g => ⟨_, v2, _, _, _, N.pure g, g.b, Ex.refl _, rfl, Rp.mono g.b h6⟩) ?_ ?_
    · rintro Be x7 s8 B10 σ H11 v12 c13 N14 ⟨W9, w21, _, _, _, N, eb19, ee20, rfl, h22⟩ hv15 hm hn16
      unfold m_l_renamed_b1 at hm
      replace hu0 := Rp.mono eb19 hu0
      replace hu1 := Rp.mono eb19 hu1
      refine gnm ?_
      refine sq ?_
      refine st_asg (K := K) hm N.ex (cp_var rfl hv15) rfl fun l_tile_here23 v24 B25 H26 _ hm g27 h28 => ?_
      replace N := N.pure g27
      replace eb19 := eb19.trans g27.b
      replace ee20 := ee20.trans g27.b
      replace hu0 := Rp.mono g27.b hu0
      replace hu1 := Rp.mono g27.b hu1
      replace h22 := Rp.mono g27.b h22
      replace hv15 := Rp.mono g27.b hv15
      refine gnx ?_
      refine sq ?_
      refine st_forN_r1 (K := K) (fun Be (s : Str) B σ H => ∃ (W : Hp) (w_l_tile_here : V) (o5 : Option V), Now noM Bs Hs oE W B H () ∧ Ex B25 B ∧ Ex Be B ∧ σ = [some u0, some u1, some w21, some v12, some w_l_tile_here, o5] ∧ rp K B w_l_tile_here s) hm N.ex (ca_cons (cp_cb rc_lenL (ca_cons (cp_var rfl hu1) ca_nil)) ca_nil) (by first | rfl | simp only [o2, Option.bind_assoc, Option.bind_some]) (fun Be H1 g => ⟨_, v24, _, N.pure g, g.b, Ex.refl _, rfl, Rp.mono g.b h28⟩) ?_ ?_
      · rintro Be x29 s30 B32 σ H33 v34 c35 N36 ⟨W31, w43, _, N, eb41, ee42, rfl, h44⟩ hv37 hm hn38
        unfold m_l_renamed_b2 at hm
        replace eb19 := eb19.trans eb41
        replace ee20 := ee20.trans eb41
        replace hu0 := Rp.mono eb41 hu0
        replace hu1 := Rp.mono eb41 hu1
        replace h22 := Rp.mono eb41 h22
        replace hv15 := Rp.mono eb41 hv15
        refine gnm ?_
        refine sq ?_
        refine st_ifJ hm (fun (z : Str) σ H => ∃ (W B : Hp) (w_l_tile_here : V), Now noM Bs Hs oE W B H () ∧ Ex B32 B ∧ σ = [some u0, some u1, some w21, some v12, some w_l_tile_here, some v34] ∧ rp K B w_l_tile_here z) N.ex (ct_test (cp_op r2_eq (cp_var rfl hv15) (cp_op r2_ixS cp_str (cp_op r2_ixL (cp_var rfl hu1) (cp_var rfl hv37))))) (by first | rfl | simp only [o2, Option.bind_assoc, Option.bind_some]) ?_ ?_ ?_
        · intro z45 B48 H49 N50 hc51 hm g52 hn53
          have ej54 := g52.b
          replace N := N.pure g52
          replace eb19 := eb19.trans g52.b
          replace ee20 := ee20.trans g52.b
          replace eb41 := eb41.trans g52.b
          replace ee42 := ee42.trans g52.b
          replace hu0 := Rp.mono g52.b hu0
          replace hu1 := Rp.mono g52.b hu1
          replace h22 := Rp.mono g52.b h22
          replace hv15 := Rp.mono g52.b hv15
          replace h44 := Rp.mono g52.b h44
          replace hv37 := Rp.mono g52.b hv37
          refine st_asg (K := K) hm N.ex (cp_op r2_ixS cp_str (cp_var rfl hv37)) (by first | rfl | simp only [o2, Option.bind_assoc, Option.bind_some]) fun l_tile_here55 v56 B57 H58 _ hm g59 h60 => ?_
          replace N := N.pure g59
          replace eb19 := eb19.trans g59.b
          replace ee20 := ee20.trans g59.b
          replace eb41 := eb41.trans g59.b
          replace ee42 := ee42.trans g59.b
          replace ej54 := ej54.trans g59.b
          replace hu0 := Rp.mono g59.b hu0
          replace hu1 := Rp.mono g59.b hu1
          replace h22 := Rp.mono g59.b h22
          replace hv15 := Rp.mono g59.b hv15
          replace hv37 := Rp.mono g59.b hv37
          cases hm
          exact hn53 _ _ ⟨_, _, v56, N, ej54, rfl, h60⟩
        · intro z61 B64 H65 N66 hc67 hm g68 hn69
          have ej70 := g68.b
          replace N := N.pure g68
          replace eb19 := eb19.trans g68.b
          replace ee20 := ee20.trans g68.b
          replace eb41 := eb41.trans g68.b
          replace ee42 := ee42.trans g68.b
          replace hu0 := Rp.mono g68.b hu0
          replace hu1 := Rp.mono g68.b hu1
          replace h22 := Rp.mono g68.b h22
          replace hv15 := Rp.mono g68.b hv15
          replace h44 := Rp.mono g68.b h44
          replace hv37 := Rp.mono g68.b hv37
          refine nxt ?_
          cases hm
          exact hn69 _ _ ⟨_, _, w43, N, ej70, rfl, h44⟩
        · rintro z71 σ H74 hm ⟨W72, B73, w76, N, eb75, rfl, h77⟩
          replace eb19 := eb19.trans eb75
          replace ee20 := ee20.trans eb75
          replace eb41 := eb41.trans eb75
          replace ee42 := ee42.trans eb75
          replace hu0 := Rp.mono eb75 hu0
          replace hu1 := Rp.mono eb75 hu1
          replace h22 := Rp.mono eb75 h22
          replace hv15 := Rp.mono eb75 hv15
          replace hv37 := Rp.mono eb75 hv37
          refine gnx ?_
          refine st_if hm N.ex (ct_test (cp_op r2_eq (cp_var rfl hv15) (cp_op r2_ixS cp_str (cp_op r2_ixL (cp_var rfl hu1) (cp_var rfl hv37))))) (by first | rfl | simp only [o2, Option.bind_assoc, Option.bind_some]) (fun B78 H79 hc81 hm g80 => ?_) (fun B78 H79 hc81 hm g80 => ?_)
          · replace N := N.pure g80
            replace eb19 := eb19.trans g80.b
            replace ee20 := ee20.trans g80.b
            replace eb41 := eb41.trans g80.b
            replace ee42 := ee42.trans g80.b
            replace hu0 := Rp.mono g80.b hu0
            replace hu1 := Rp.mono g80.b hu1
            replace h22 := Rp.mono g80.b h22
            replace hv15 := Rp.mono g80.b hv15
            replace hv37 := Rp.mono g80.b hv37
            replace h77 := Rp.mono g80.b h77
            refine st_asg (K := K) hm N.ex (cp_op r2_ixS cp_str (cp_var rfl hv37)) (by first | rfl | simp only [o2, Option.bind_assoc, Option.bind_some]) fun l_tile_here82 v83 B84 H85 _ hm g86 h87 => ?_
            replace N := N.pure g86
            replace eb19 := eb19.trans g86.b
            replace ee20 := ee20.trans g86.b
            replace eb41 := eb41.trans g86.b
            replace ee42 := ee42.trans g86.b
            replace hu0 := Rp.mono g86.b hu0
            replace hu1 := Rp.mono g86.b hu1
            replace h22 := Rp.mono g86.b h22
            replace hv15 := Rp.mono g86.b hv15
            replace hv37 := Rp.mono g86.b hv37
            cases hm
            exact hn38 _ _ _ ⟨_, v83, _, N, eb41, ee42, rfl, h87⟩
          · replace N := N.pure g80
            replace eb19 := eb19.trans g80.b
            replace ee20 := ee20.trans g80.b
            replace eb41 := eb41.trans g80.b
            replace ee42 := ee42.trans g80.b
            replace hu0 := Rp.mono g80.b hu0
            replace hu1 := Rp.mono g80.b hu1
            replace h22 := Rp.mono g80.b h22
            replace hv15 := Rp.mono g80.b hv15
            replace hv37 := Rp.mono g80.b hv37
            replace h77 := Rp.mono g80.b h77
            refine nxt ?_
            cases hm
            exact hn38 _ _ _ ⟨_, w76, _, N, eb41, ee42, rfl, h77⟩
      · rintro Be s89 B91 σ H92 hm ⟨W90, w94, _, N, eb93, _, rfl, h95⟩
        replace eb19 := eb19.trans eb93
        replace ee20 := ee20.trans eb93
        replace hu0 := Rp.mono eb93 hu0
        replace hu1 := Rp.mono eb93 hu1
        replace h22 := Rp.mono eb93 h22
        replace hv15 := Rp.mono eb93 hv15
        refine gnx ?_
        refine st_asg (K := K) hm N.ex (cp_op r2_addS (cp_var rfl h22) (cp_var rfl h95)) (by first | rfl | simp only [o2, Option.bind_assoc, Option.bind_some]) fun l_new96 v97 B98 H99 _ hm g100 h101 => ?_
        replace N := N.pure g100
        replace eb19 := eb19.trans g100.b
        replace ee20 := ee20.trans g100.b
        replace hu0 := Rp.mono g100.b hu0
        replace hu1 := Rp.mono g100.b hu1
        replace hv15 := Rp.mono g100.b hv15
        replace h95 := Rp.mono g100.b h95
        cases hm
        exact hn16 _ _ _ ⟨_, v97, _, _, _, N, eb19, ee20, rfl, h101⟩
    · rintro Be s102 B104 σ H105 hm ⟨W103, w107, _, _, _, N, eb106, _, rfl, h108⟩
      replace hu0 := Rp.mono eb106 hu0
      replace hu1 := Rp.mono eb106 hu1
      refine gnx ?_
      refine st_ret (K := K) hm N.ex (cp_var rfl h108) rfl fun v B1 H1 g hv => ?_
      exact hQ v B1 H1 (N.g.then g) hv
def m_l_has_door_b2 (p_l_rows_here : (List Str)) (p_l_row : Str) (p_l_sign : Str) : Option (Fl (Unit) (Bool)) :=
 (Option.bind (inS p_l_sign ("+abc" : Str)) fun b => if b = true then
 (Option.bind (some true) fun x => some (.rt x))
 else
 some (.nx ()))
def m_l_has_door_b1 (p_l_rows_here : (List Str)) (p_l_row : Str) : Option (Fl (Unit) (Bool)) :=
 (Option.bind (Option.bind (some p_l_row) fun x => some (sgns x)) fun xs => Option.bind (forF (fun x (s : Unit) => m_l_has_door_b2 p_l_rows_here p_l_row x) xs ()) fun f => match f with
 | .nx s33 =>
 some (.nx ())
 | .bk _ => none
 | .rt r => some (.rt r))
def m_l_has_door (a_l_rows_here : (List Str)) : Option Bool :=
 (Option.bind (some a_l_rows_here) fun xs => Option.bind (forF (fun x (s : Unit) => m_l_has_door_b1 a_l_rows_here x) xs ()) fun f => match f with
 | .nx s38 =>
 (some false)
 | .bk _ => none
 | .rt r => some r)
abbrev s_l_has_door : Stmt := top 14
theorem sc_l_has_door : FnScope ["_law_rows_here", "_law_row", "_law_sign"] ["_law_rows_here"] (defScope s_l_has_door) := ⟨rfl, rfl, rfl, by decide +kernel, rfl, by decide +kernel, by decide +kernel⟩
abbrev sp_l_has_door (K : Fg) : Sp := spP K (fun t : (List Str) × Unit => m_l_has_door t.1)
set_option maxHeartbeats 0 in
theorem ok_l_has_door {f : Addr} {fd : FuncData} (F : FunD K "_law_has_door" "_law_has_door" (defArgs s_l_has_door) (defBody s_l_has_door) (defScope s_l_has_door) [] [] f fd) (T : Tx K mg)  : FnOk P w K mg base CX0 1 f fd ["_law_rows_here"] (sp_l_has_door K) := by
  have sc := sc_l_has_door
  refine F.ok sc (fun vs H Q E h => ?_) (fun cdv A outer s H vs Q E hr h => ?_)
  · obtain ⟨Bs, t, r, ex, ⟨u0, _, rfl, hu0, hz⟩, hm, hQ⟩ := h
    cases hz
    rfl
  · obtain ⟨Bs, ⟨a_l_rows_here, ⟨⟩⟩, r, ex, ⟨u0, _, rfl, hu0, hz⟩, hm, hQ⟩ := h
    cases hz
    replace hu0 : rp K Bs u0 a_l_rows_here := hu0
    replace hm : m_l_has_door a_l_rows_here = some r := hm
    obtain ⟨Hs, eHs⟩ : ∃ Hs, Hs = H := ⟨_, rfl⟩
    subst eHs
    have N : Now noM Bs Hs oE emp Bs Hs () := nowE ex
    unfold m_l_has_door at hm
    refine ⟨_, PSs.nox (pss_cons (ps_for PassesOwn.never rfl (pi_list (pv 0)) (pg_name (i := 1) sc.nd rfl (.inl rfl)) (pss_one (ps_for PassesOwn.never rfl (pi_str (pv 1)) (pg_name (i := 2) sc.nd rfl (.inl rfl)) (pss_one (ps_if (pt_cmpR op_inS (pv 2) pe_str rfl) (pss_one (ps_ret pe_bl)) pss_nil))))) (pss_one (ps_ret pe_bl))), ?_⟩
    refine sq ?_
    refine st_forF_list (K := K) (fun Be (s : Unit) B σ H => ∃ (W : Hp) (o1 : Option V) (o2 : Option V), Now noM Bs Hs oE W B H () ∧ Ex Bs B ∧ Ex Be B ∧ σ = [some u0, o1, o2]) hm N.ex (cp_var rfl hu0) (by first | rfl | simp only [o2, Option.bind_assoc, Option.bind_some]) (fun Be s B σ H h => by obtain ⟨_, _, _, N, _, ee, _⟩ := h; exact ⟨ee, N.ex⟩) (fun Be H1 g => ⟨_, _, _, N.pure g, g.b, Ex.refl _, rfl⟩) ?_ ?_
    · rintro Be x1 s2 B4 σ H5 v6 c7 N8 ⟨W3, _, _, N, eb13, ee14, rfl⟩ hv9 hm hn10 hk11 ht12
      unfold m_l_has_door_b1 at hm
      replace hu0 := Rp.mono eb13 hu0
      refine gnm ?_
      refine st_forF_str (K := K) (fun Be (s : Unit) B σ H => ∃ (W : Hp) (o2 : Option V), Now noM Bs Hs oE W B H () ∧ Ex B4 B ∧ Ex Be B ∧ σ = [some u0, some v6, o2]) hm N.ex (cp_var rfl hv9) (by first | rfl | simp only [o2, Option.bind_assoc, Option.bind_some]) (fun Be H1 g => ⟨_, _, N.pure g, g.b, Ex.refl _, rfl⟩) ?_ ?_
      · rintro Be x15 s16 B18 σ H19 v20 c21 N22 ⟨W17, _, N, eb27, ee28, rfl⟩ hv23 hm hn24 hk25 ht26
        unfold m_l_has_door_b2 at hm
        replace eb13 := eb13.trans eb27
        replace ee14 := ee14.trans eb27
        replace hu0 := Rp.mono eb27 hu0
        replace hv9 := Rp.mono eb27 hv9
        refine gnm ?_
        refine st_if hm N.ex (ct_test (cp_op r2_inS (cp_var rfl hv23) cp_str)) (by first | rfl | simp only [o2, Option.bind_assoc, Option.bind_some]) (fun B29 H30 hc32 hm g31 => ?_) (fun B29 H30 hc32 hm g31 => ?_)
        · replace N := N.pure g31
          replace eb13 := eb13.trans g31.b
          replace ee14 := ee14.trans g31.b
          replace eb27 := eb27.trans g31.b
          replace ee28 := ee28.trans g31.b
          replace hu0 := Rp.mono g31.b hu0
          replace hv9 := Rp.mono g31.b hv9
          replace hv23 := Rp.mono g31.b hv23
          refine st_retF (K := K) (m' := (some true)) hm N.ex cp_bl rfl fun x v B1 H1 hm g hv => ?_
          cases hm
          have hm := ht26 _ rfl
          cases hm
          have hm := ht12 _ rfl
          cases hm
          exact hQ _ _ _ (N.g.then g) hv
        · replace N := N.pure g31
          replace eb13 := eb13.trans g31.b
          replace ee14 := ee14.trans g31.b
          replace eb27 := eb27.trans g31.b
          replace ee28 := ee28.trans g31.b
          replace hu0 := Rp.mono g31.b hu0
          replace hv9 := Rp.mono g31.b hv9
          replace hv23 := Rp.mono g31.b hv23
          refine nxt ?_
          cases hm
          exact hn24 _ _ _ _ rfl ⟨_, _, N, eb27, ee28, rfl⟩
      · rintro Be s33 B35 σ H36 hm ⟨W34, _, N, eb37, _, rfl⟩
        replace eb13 := eb13.trans eb37
        replace ee14 := ee14.trans eb37
        replace hu0 := Rp.mono eb37 hu0
        replace hv9 := Rp.mono eb37 hv9
        cases hm
        exact hn10 _ _ _ _ rfl ⟨_, _, _, N, eb13, ee14, rfl⟩
    · rintro Be s38 B40 σ H41 hm ⟨W39, _, _, N, eb42, _, rfl⟩
      replace hu0 := Rp.mono eb42 hu0
      refine gnx ?_
      refine st_ret (K := K) hm N.ex cp_bl rfl fun v B1 H1 g hv => ?_
      exact hQ v B1 H1 (N.g.then g) hv
def m_l_with_door_b1 (p_l_rows_here : (List Str)) (p_l_first : Str) (p_l_k : Int) (p_l_tile_here : Str) : Option (Str) :=
 (Option.bind (o2 (some p_l_first) (atS? ("ABCD" : Str) p_l_k) fun x y => some ((decide (x = y)))) fun b => if b = true then
 (Option.bind (atS? ("abc" : Str) p_l_k) fun l_tile_here33 =>
 some (l_tile_here33))
 else
 some (p_l_tile_here))
def m_l_with_door (a_l_rows_here : (List Str)) : Option (List Str) :=
 (Option.bind (o2 (at? a_l_rows_here (0 : Int)) (some (0 : Int)) fun x y => atS? x y) fun l_first1 =>
 (Option.bind (some ("+" : Str)) fun l_tile_here7 =>
 (Option.bind (Option.bind (some (3 : Int)) fun n => prange1 n) fun xs => Option.bind (forN (fun x (s : Str) => m_l_with_door_b1 a_l_rows_here l_first1 x s) xs (l_tile_here7)) fun s39 =>
 (Option.bind (Option.bind (o2 (o2 (some s39) (Option.bind (at? a_l_rows_here (0 : Int)) fun xs => Option.bind (some (some (1 : Int))) fun lo => Option.bind (some none) fun hi => pcutS xs lo hi) fun x y => pcat x y) (some []) fun x y => some (x :: y)) plst) fun x => Option.bind (some (cut a_l_rows_here (some (1 : Int)) none)) fun y => plst (x ++ y)))))
abbrev s_l_with_door : Stmt := top 15
theorem sc_l_with_door : FnScope ["_law_rows_here", "_law_first", "_law_tile_here", "_law_k"] ["_law_rows_here"] (defScope s_l_with_door) := ⟨rfl, rfl, rfl, by decide +kernel, rfl, by decide +kernel, by decide +kernel⟩
abbrev sp_l_with_door (K : Fg) : Sp := spP K (fun t : (List Str) × Unit => m_l_with_door t.1)
set_option maxHeartbeats 0 in
theorem ok_l_with_door {f : Addr} {fd : FuncData} (F : FunD K "_law_with_door" "_law_with_door" (defArgs s_l_with_door) (defBody s_l_with_door) (defScope s_l_with_door) [] [] f fd) (T : Tx K mg)  : FnOk P w K mg base CX0 1 f fd ["_law_rows_here"] (sp_l_with_door K) := by
  have sc := sc_l_with_door
  refine F.ok sc (fun vs H Q E h => ?_) (fun cdv A outer s H vs Q E hr h => ?_)
  · obtain ⟨Bs, t, r, ex, ⟨u0, _, rfl, hu0, hz⟩, hm, hQ⟩ := h
    cases hz
    rfl
  · obtain ⟨Bs, ⟨a_l_rows_here, ⟨⟩⟩, r, ex, ⟨u0, _, rfl, hu0, hz⟩, hm, hQ⟩ := h
    cases hz
    replace hu0 : rp K Bs u0 a_l_rows_here := hu0
    replace hm : m_l_with_door a_l_rows_here = some r := hm
    obtain ⟨Hs, eHs⟩ : ∃ Hs, Hs = H := ⟨_, rfl⟩
    subst eHs
    have N : Now noM Bs Hs oE emp Bs Hs () := nowE ex
    unfold m_l_with_door at hm
    refine ⟨_, PSs.nox (pss_cons (ps_set (i := 1) sc.nd rfl (.inl rfl) (pe_ix ix_str (pe_ix (ix_listK (K := K) rfl) (pv 0) pe_int (fun _ _ => rfl)) pe_int (fun _ _ => rfl))) (pss_cons (ps_set (i := 2) sc.nd rfl (.inl rfl) pe_str) (pss_cons (ps_for PassesOwn.never rfl (pi_range1 rfl T.free_range (pa_cons pe_int pa_nil)) (pg_name (i := 3) sc.nd rfl (.inl rfl)) (pss_one (ps_if (pt_cmpR op_eq (pv 1) (pe_ix ix_str pe_str (pv 3) (fun _ _ => rfl)) (nomark _)) (pss_one (ps_set (i := 2) sc.nd rfl (.inl rfl) (pe_ix ix_str pe_str (pv 3) (fun _ _ => rfl)))) pss_nil))) (pss_one (ps_ret (pe_op op_cat (pe_lst (pa_cons (pe_op op_add_str (pv 2) (pe_slice sl_str (pe_ix (ix_listK (K := K) rfl) (pv 0) pe_int (fun _ _ => rfl)) (po_some pe_int) po_none)) pa_nil)) (pe_slice (sl_listK (K := K) rfl) (pv 0) (po_some pe_int) po_none))))))), ?_⟩
    refine sq ?_
    refine st_asg (K := K) hm N.ex (cp_op r2_ixS (cp_op r2_ixL (cp_var rfl hu0) cp_int) cp_int) (by first | rfl | simp only [o2, Option.bind_assoc, Option.bind_some]) fun l_first1 v2 B3 H4 _ hm g5 h6 => ?_
    replace N := N.pure g5
    replace hu0 := Rp.mono g5.b hu0
    refine gnx ?_
    refine sq ?_
    refine st_asg (K := K) hm N.ex cp_str rfl fun l_tile_here7 v8 B9 H10 _ hm g11 h12 => ?_
    replace N := N.pure g11
    replace hu0 := Rp.mono g11.b hu0
    replace h6 := Rp.mono g11.b h6
    refine gnx ?_
    refine sq ?_
    refine st_forN_r1 (K := K) (fun Be (s : Str) B σ H => ∃ (W : Hp) (w_l_tile_here : V) (o3 : Option V), Now noM Bs Hs oE W B H () ∧ Ex B9 B ∧ Ex Be B ∧ σ = [some u0, some v2, some w_l_tile_here, o3] ∧ rp K B w_l_tile_here s) hm N.ex (ca_cons cp_int ca_nil) (by first | rfl | simp only [o2, Option.bind_assoc, Option.bind_some]) (fun Be H1 g => ⟨_, v8, _, N.pure g, g.b, Ex.refl _, rfl, Rp.mono g.b h12⟩) ?_ ?_
    · rintro Be x13 s14 B16 σ H17 v18 c19 N20 ⟨W15, w27, _, N, eb25, ee26, rfl, h28⟩ hv21 hm hn22
      unfold m_l_with_door_b1 at hm
      replace hu0 := Rp.mono eb25 hu0
      replace h6 := Rp.mono eb25 h6
      refine gnm ?_
      refine st_if hm N.ex (ct_test (cp_op r2_eq (cp_var rfl h6) (cp_op r2_ixS cp_str (cp_var rfl hv21)))) (by first | rfl | simp only [o2, Option.bind_assoc, Option.bind_some]) (fun B29 H30 hc32 hm g31 => ?_) (fun B29 H30 hc32 hm g31 => ?_)
      · replace N := N.pure g31
        replace eb25 := eb25.trans g31.b
        replace ee26 := ee26.trans g31.b
        replace hu0 := Rp.mono g31.b hu0
        replace h6 := Rp.mono g31.b h6
        replace h28 := Rp.mono g31.b h28
        replace hv21 := Rp.mono g31.b hv21
        refine st_asg (K := K) hm N.ex (cp_op r2_ixS cp_str (cp_var rfl hv21)) (by first | rfl | simp only [o2, Option.bind_assoc, Option.bind_some]) fun l_tile_here33 v34 B35 H36 _ hm g37 h38 => ?_
        replace N := N.pure g37
        replace eb25 := eb25.trans g37.b
        replace ee26 := ee26.trans g37.b
        replace hu0 := Rp.mono g37.b hu0
        replace h6 := Rp.mono g37.b h6
        replace hv21 := Rp.mono g37.b hv21
        cases hm
        exact hn22 _ _ _ ⟨_, v34, _, N, eb25, ee26, rfl, h38⟩
      · replace N := N.pure g31
        replace eb25 := eb25.trans g31.b
        replace ee26 := ee26.trans g31.b
        replace hu0 := Rp.mono g31.b hu0
        replace h6 := Rp.mono g31.b h6
        replace h28 := Rp.mono g31.b h28
        replace hv21 := Rp.mono g31.b hv21
        refine nxt ?_
        cases hm
        exact hn22 _ _ _ ⟨_, w27, _, N, eb25, ee26, rfl, h28⟩
    · rintro Be s39 B41 σ H42 hm ⟨W40, w44, _, N, eb43, _, rfl, h45⟩
      replace hu0 := Rp.mono eb43 hu0
      replace h6 := Rp.mono eb43 h6
      refine gnx ?_
      refine st_ret (K := K) hm N.ex (Co.cp (co_cat (Co.cp (co_lst (Cl.cons (cp_op r2_addS (cp_var rfl h45) (cp_sliceS (cp_op r2_ixL (cp_var rfl hu0) cp_int) (cpo_some (K := K) cp_int) cpo_none)) Cl.nil))) (Co.cp (co_slice (cp_var rfl hu0) (cpo_some (K := K) cp_int) cpo_none)))) (by first | rfl | simp only [o2, Option.bind_assoc, Option.bind_some]) fun v B1 H1 g hv => ?_
      exact hQ v B1 H1 (N.g.then g) hv
def m_l_rows_b2 (p_l_high : Int) (p_l_wide : Int) (p_l_shuts : Int) (p_l_many : Int) (p_l_k : Int) (p_l_at : Int) (p_st : ((List Int) × (List Str))) (p_l_row : Str) : Option (((List Int) × (List Str)) × Str) :=
 (Option.bind (Option.bind (some (p_l_row, p_st)) fun p94 => Option.bind (Option.bind (m_l_tile p94.2.1 (p_l_shuts, p_l_many, ())) fun q93 => some (q93.1, (q93.2, p94.2.2))) fun q95 => Option.bind (pcat p94.1 q95.1) fun z => some (z, q95.2)) fun p104 =>
 some (p104.2, p104.1))
def m_l_rows_b1 (p_l_high : Int) (p_l_wide : Int) (p_l_shuts : Int) (p_l_many : Int) (p_l_k : Int) (p_st : ((List Int) × (List Str))) : Option (((List Int) × (List Str))) :=
 (Option.bind (some ("" : Str)) fun l_row69 =>
 (Option.bind (Option.bind (some p_l_wide) fun n => prange1 n) fun xs => Option.bind (forN (fun x (s : ((List Int) × (List Str)) × Str) => m_l_rows_b2 p_l_high p_l_wide p_l_shuts p_l_many p_l_k x s.1 s.2) xs (p_st, l_row69)) fun s105 =>
 (Option.bind (Option.bind (some (s105.2, s105.1)) fun p112 => Option.bind (papp p112.2.2 p112.1) fun q113 => some ((), (p112.2.1, q113))) fun p119 =>
 some (p119.2))))
def n_l_rows (st0 : (List Int))  : Option ((List Str) × (List Int)) :=
 (Option.bind (Option.bind (some ((1 : Int), st0)) fun p3 => Option.bind (Option.bind (draw p3.2 ((5 : Int), ())) fun q2 => some (q2.1, q2.2)) fun q4 => Option.bind (some (p3.1 + q4.1)) fun z => some (z, q4.2)) fun p179 =>
 (Option.bind (Option.bind (some ((1 : Int), p179.2)) fun p15 => Option.bind (Option.bind (draw p15.2 ((6 : Int), ())) fun q14 => some (q14.1, q14.2)) fun q16 => Option.bind (some (p15.1 + q16.1)) fun z => some (z, q16.2)) fun p178 =>
 (Option.bind (Option.bind (some ((2 : Int), p178.2)) fun p27 => Option.bind (Option.bind (draw p27.2 ((3 : Int), ())) fun q26 => some (q26.1, q26.2)) fun q28 => Option.bind (pmul p27.1 q28.1) fun z => some (z, q28.2)) fun p177 =>
 (Option.bind (Option.bind (draw p177.2 ((4 : Int), ())) fun q38 => some (q38.1, q38.2)) fun p176 =>
 (Option.bind (some (([] : List Str), p176.2)) fun p175 =>
 (Option.bind (Option.bind (some p179.1) fun n => prange1 n) fun xs => Option.bind (forN (fun x (s : ((List Int) × (List Str))) => m_l_rows_b1 p179.1 p178.1 p177.1 p176.1 x s) xs ((p175.2, p175.1))) fun s120 =>
 (Option.bind (m_l_used s120.2) fun l_used_here129 =>
 (Option.bind (Option.bind (some s120.2) fun xs => Option.bind (pbig xs) fun xs => lcF (fun x_l_row => (some true)) (fun x_l_row => (m_l_renamed x_l_row l_used_here129)) xs) fun l_rows_here135 =>
 (Option.bind (Option.bind (Option.bind (m_l_has_door l_rows_here135) fun x => some (!x)) fun b174 => if b174 = true then
 (Option.bind (m_l_with_door l_rows_here135) fun l_rows_here151 =>
 (some (s120.1, l_rows_here151)))
 else
 (some (s120.1, l_rows_here135))) fun z167 =>
 (Option.bind (some z167.2) fun x => some (x, z167.1)))))))))))
def m_l_rows (s : (List Int)) (t : Unit) : Option ((List Str) × (List Int)) := n_l_rows s 
abbrev s_l_rows : Stmt := top 16
theorem sc_l_rows : FnScope ["_law_box", "_law_high", "_law_wide", "_law_shuts", "_law_many", "_law_rows_here", "_law_k", "_law_row", "_law_at", "_law_used_here"] ["_law_box"] (defScope s_l_rows) := ⟨rfl, rfl, rfl, by decide +kernel, rfl, by decide +kernel, by decide +kernel⟩
abbrev sp_l_rows (K : Fg) : Sp := spM K (fun pa => (OwBox K pa)) m_l_rows
set_option maxHeartbeats 0 in
theorem ok_l_rows {f : Addr} {fd : FuncData} (F : FunD K "_law_rows" "_law_rows" (defArgs s_l_rows) (defBody s_l_rows) (defScope s_l_rows) [] [] f fd) (T : Tx K mg) (c_l_draw : Fc P w K mg base 1 "_law_draw" ["_law_box", "_law_many"] (sp_l_draw K)) (c_l_has_door : Fc P w K mg base 1 "_law_has_door" ["_law_rows_here"] (sp_l_has_door K)) (c_l_renamed : Fc P w K mg base 1 "_law_renamed" ["_law_row", "_law_used_here"] (sp_l_renamed K)) (c_l_tile : Fc P w K mg base 2 "_law_tile" ["_law_box", "_law_shuts", "_law_many"] (sp_l_tile K)) (c_l_used : Fc P w K mg base 1 "_law_used" ["_law_rows_here"] (sp_l_used K)) (c_l_with_door : Fc P w K mg base 1 "_law_with_door" ["_law_rows_here"] (sp_l_with_door K)) : FnOk P w K mg base CX0 3 f fd ["_law_box"] (sp_l_rows K) := by
  have sc := sc_l_rows
  refine F.ok sc (fun vs H Q E h => ?_) (fun cdv A outer s H vs Q E hr h => ?_)
  · obtain ⟨pa, us, W0, Bs, st0, t, r, s9, rfl, _, _, _, _, hz, _⟩ := h
    cases hz
    rfl
  · obtain ⟨pa, us, W0, Bs, st0, ⟨⟩, r, s9, rfl, ex, wx, dj, ow, hz, hm, hQ⟩ := h
    cases hz
    replace hm : n_l_rows st0  = some (r, s9) := hm
    obtain ⟨Hs, eHs⟩ : ∃ Hs, Hs = H := ⟨_, rfl⟩
    subst eHs
    have N : Now (dom W0) Bs Hs (OwBox K pa) W0 Bs Hs st0 := now0 ex wx dj ow
    unfold n_l_rows at hm
    refine ⟨_, PSs.nox (pss_cons (ps_set (i := 1) sc.nd rfl (.inl rfl) (pe_op op_add pe_int (pe_fc c_l_draw hr (by decide) rfl (pa_cons (pv 0) (pa_cons pe_int pa_nil))))) (pss_cons (ps_set (i := 2) sc.nd rfl (.inl rfl) (pe_op op_add pe_int (pe_fc c_l_draw hr (by decide) rfl (pa_cons (pv 0) (pa_cons pe_int pa_nil))))) (pss_cons (ps_set (i := 3) sc.nd rfl (.inl rfl) (pe_op op_mul pe_int (pe_fc c_l_draw hr (by decide) rfl (pa_cons (pv 0) (pa_cons pe_int pa_nil))))) (pss_cons (ps_set (i := 4) sc.nd rfl (.inl rfl) (pe_fc c_l_draw hr (by decide) rfl (pa_cons (pv 0) (pa_cons pe_int pa_nil)))) (pss_cons (ps_set (i := 5) sc.nd rfl (.inl rfl) (pe_lst pa_nil)) (pss_cons (ps_for PassesOwn.never rfl (pi_range1 rfl T.free_range (pa_cons (pv 1) pa_nil)) (pg_name (i := 6) sc.nd rfl (.inl rfl)) (pss_cons (ps_set (i := 7) sc.nd rfl (.inl rfl) pe_str) (pss_cons (ps_for PassesOwn.never rfl (pi_range1 rfl T.free_range (pa_cons (pv 2) pa_nil)) (pg_name (i := 8) sc.nd rfl (.inl rfl)) (pss_one (ps_set (i := 7) sc.nd rfl (.inl rfl) (pe_op op_add_str (pv 7) (pe_fc c_l_tile hr (by decide) rfl (pa_cons (pv 0) (pa_cons (pv 3) (pa_cons (pv 4) pa_nil)))))))) (pss_one (ps_expr (pe_bm PySem.F.plainAttrs_list PySem.F.slot_list_append PySem.F.type_list_append mt_append (pv 5) (pa_cons (pv 7) pa_nil))))))) (pss_cons (ps_set (i := 9) sc.nd rfl (.inr rfl) (pe_fc c_l_used hr (by decide) rfl (pa_cons (pv 5) pa_nil))) (pss_cons (ps_setLc (i := 5) (own := [("_law_row", 7)]) (g := gName 7) (tt := tYes) rfl sc.nd rfl rfl (sw_true rfl rfl rfl (by decide +kernel)) (pi_list (pv 5)) (blkOk_by (N := ["_law_box", "_law_high", "_law_wide", "_law_shuts", "_law_many", "_law_rows_here", "_law_k", "_law_row", "_law_at", "_law_used_here"]) (sc := defScope s_l_rows) (by decide +kernel)) (fun _ _ _ _ _ => pg_name (i := 7) sc.nd rfl (Or.inl rfl)) (fun _ _ _ _ _ => pts_nil) (fun _ _ _ _ _ => (pe_fc c_l_renamed hr (by decide) rfl (pa_cons (pv 7) (pa_cons (pv 9) pa_nil))))) (pss_cons (ps_if (pt_not (pt_val (pe_fc c_l_has_door hr (by decide) rfl (pa_cons (pv 5) pa_nil)))) (pss_one (ps_set (i := 5) sc.nd rfl (.inl rfl) (pe_fc c_l_with_door hr (by decide) rfl (pa_cons (pv 5) pa_nil)))) pss_nil) (pss_one (ps_ret (pv 5)))))))))))), ?_⟩
    refine sq ?_
    refine st_asgS (K := K) hm N (cs_op r2_add (Cp.s cp_int) (cs_callM ln_id rfl (csa_cons (Cp.s cp_int) csa_nil))) (by first | rfl | simp only [o2, Option.bind_assoc, Option.bind_some]) fun l_high5 s6 v7 W8 B9 H10 hm N eb11 h12 => ?_
    try dsimp only at hm
    refine gnx ?_
    refine sq ?_
    refine st_asgS (K := K) hm N (cs_op r2_add (Cp.s cp_int) (cs_callM ln_id rfl (csa_cons (Cp.s cp_int) csa_nil))) (by first | rfl | simp only [o2, Option.bind_assoc, Option.bind_some]) fun l_wide17 s18 v19 W20 B21 H22 hm N eb23 h24 => ?_
    try dsimp only at hm
    replace h12 := Rp.mono eb23 h12
    refine gnx ?_
    refine sq ?_
    refine st_asgS (K := K) hm N (cs_op r2_mul (Cp.s cp_int) (cs_callM ln_id rfl (csa_cons (Cp.s cp_int) csa_nil))) (by first | rfl | simp only [o2, Option.bind_assoc, Option.bind_some]) fun l_shuts29 s30 v31 W32 B33 H34 hm N eb35 h36 => ?_
    try dsimp only at hm
    replace h12 := Rp.mono eb35 h12
    replace h24 := Rp.mono eb35 h24
    refine gnx ?_
    refine sq ?_
    refine st_asgS (K := K) hm N (cs_callM ln_id rfl (csa_cons (Cp.s cp_int) csa_nil)) (by first | rfl | simp only [o2, Option.bind_assoc, Option.bind_some]) fun l_many39 s40 v41 W42 B43 H44 hm N eb45 h46 => ?_
    try dsimp only at hm
    replace h12 := Rp.mono eb45 h12
    replace h24 := Rp.mono eb45 h24
    replace h36 := Rp.mono eb45 h36
    refine gnx ?_
    refine sq ?_
    refine st_asgL (K := K) hm N (Co.s (co_nil (α := Str))) (by first | rfl | simp only [o2, Option.bind_assoc, Option.bind_some]) fun l_rows_here47 s48 pl49 W50 B51 H52 hm N eb53 fp54 => ?_
    replace h12 := Rp.mono eb53 h12
    replace h24 := Rp.mono eb53 h24
    replace h36 := Rp.mono eb53 h36
    replace h46 := Rp.mono eb53 h46
    try dsimp only at hm
    refine gnx ?_
    refine sq ?_
    refine st_forN_r1 (K := K) (fun Be (s : ((List Int) × (List Str))) B σ H => ∃ (W : Hp) (o6 : Option V) (o7 : Option V) (o8 : Option V) (o9 : Option V), Now (dom W0) Bs Hs (star (OwBox K pa) (OwL (α := Str) K pl49)) W B H s ∧ Ex B51 B ∧ Ex Be B ∧ σ = [some (.ref pa), some v7, some v19, some v31, some v41, some (.ref pl49), o6, o7, o8, o9]) hm N.ex (ca_cons (cp_var rfl h12) ca_nil) (by first | rfl | simp only [o2, Option.bind_assoc, Option.bind_some]) (fun Be H1 g => ⟨_, _, _, _, _, N.pure g, g.b, Ex.refl _, rfl⟩) ?_ ?_
    · rintro Be x55 s56 B58 σ H59 v60 c61 N62 ⟨W57, _, _, _, _, N, eb67, ee68, rfl⟩ hv63 hm hn64
      unfold m_l_rows_b1 at hm
      replace h12 := Rp.mono eb67 h12
      replace h24 := Rp.mono eb67 h24
      replace h36 := Rp.mono eb67 h36
      replace h46 := Rp.mono eb67 h46
      refine gnm ?_
      refine sq ?_
      refine st_asg (K := K) hm N.ex cp_str rfl fun l_row69 v70 B71 H72 _ hm g73 h74 => ?_
      replace N := N.pure g73
      replace eb67 := eb67.trans g73.b
      replace ee68 := ee68.trans g73.b
      replace h12 := Rp.mono g73.b h12
      replace h24 := Rp.mono g73.b h24
      replace h36 := Rp.mono g73.b h36
      replace h46 := Rp.mono g73.b h46
      replace hv63 := Rp.mono g73.b hv63
      refine gnx ?_
      refine sq ?_
      refine st_forN_r1 (K := K) (fun Be (s : ((List Int) × (List Str)) × Str) B σ H => ∃ (W : Hp) (w_l_row : V) (o8 : Option V) (o9 : Option V), Now (dom W0) Bs Hs (star (OwBox K pa) (OwL (α := Str) K pl49)) W B H s.1 ∧ Ex B71 B ∧ Ex Be B ∧ σ = [some (.ref pa), some v7, some v19, some v31, some v41, some (.ref pl49), some v60, some w_l_row, o8, o9] ∧ rp K B w_l_row s.2) hm N.ex (ca_cons (cp_var rfl h24) ca_nil) (by first | rfl | simp only [o2, Option.bind_assoc, Option.bind_some]) (fun Be H1 g => ⟨_, v70, _, _, N.pure g, g.b, Ex.refl _, rfl, Rp.mono g.b h74⟩) ?_ ?_
      · rintro Be x75 s76 B78 σ H79 v80 c81 N82 ⟨W77, w89, _, _, N, eb87, ee88, rfl, h90⟩ hv83 hm hn84
        unfold m_l_rows_b2 at hm
        replace eb67 := eb67.trans eb87
        replace ee68 := ee68.trans eb87
        replace h12 := Rp.mono eb87 h12
        replace h24 := Rp.mono eb87 h24
        replace h36 := Rp.mono eb87 h36
        replace h46 := Rp.mono eb87 h46
        replace hv63 := Rp.mono eb87 hv63
        refine gnm ?_
        refine st_asgS (K := K) hm N (cs_op r2_addS (Cp.s (cp_var rfl h90)) (cs_callM ln_l rfl (csa_cons (Cp.s (cp_var rfl h36)) (csa_cons (Cp.s (cp_var rfl h46)) csa_nil)))) (by first | rfl | simp only [o2, Option.bind_assoc, Option.bind_some]) fun l_row96 s97 v98 W99 B100 H101 hm N eb102 h103 => ?_
        try dsimp only at hm
        replace eb67 := eb67.trans eb102
        replace ee68 := ee68.trans eb102
        replace eb87 := eb87.trans eb102
        replace ee88 := ee88.trans eb102
        replace h12 := Rp.mono eb102 h12
        replace h24 := Rp.mono eb102 h24
        replace h36 := Rp.mono eb102 h36
        replace h46 := Rp.mono eb102 h46
        replace hv63 := Rp.mono eb102 hv63
        replace hv83 := Rp.mono eb102 hv83
        cases hm
        exact hn84 _ _ _ ⟨_, v98, _, _, N, eb87, ee88, rfl, h103⟩
      · rintro Be s105 B107 σ H108 hm ⟨W106, w110, _, _, N, eb109, _, rfl, h111⟩
        replace eb67 := eb67.trans eb109
        replace ee68 := ee68.trans eb109
        replace h12 := Rp.mono eb109 h12
        replace h24 := Rp.mono eb109 h24
        replace h36 := Rp.mono eb109 h36
        replace h46 := Rp.mono eb109 h46
        replace hv63 := Rp.mono eb109 hv63
        refine gnx ?_
        refine st_dropS (K := K) hm N (cs_append ln_r rfl (Cp.s (cp_var rfl h111))) (by first | rfl | simp only [o2, Option.bind_assoc, Option.bind_some]) fun _ s114 W115 B116 H117 hm N eb118 => ?_
        try dsimp only at hm
        replace eb67 := eb67.trans eb118
        replace ee68 := ee68.trans eb118
        replace h12 := Rp.mono eb118 h12
        replace h24 := Rp.mono eb118 h24
        replace h36 := Rp.mono eb118 h36
        replace h46 := Rp.mono eb118 h46
        replace hv63 := Rp.mono eb118 hv63
        replace h111 := Rp.mono eb118 h111
        cases hm
        exact hn64 _ _ _ ⟨_, _, _, _, _, N, eb67, ee68, rfl⟩
    · rintro Be s120 B122 σ H123 hm ⟨W121, _, _, _, _, N, eb124, _, rfl⟩
      replace h12 := Rp.mono eb124 h12
      replace h24 := Rp.mono eb124 h24
      replace h36 := Rp.mono eb124 h36
      replace h46 := Rp.mono eb124 h46
      refine gnx ?_
      obtain ⟨W125, B126, N, eb127, h128⟩ := N.freeze fp54
      replace h12 := Rp.mono eb127 h12
      replace h24 := Rp.mono eb127 h24
      replace h36 := Rp.mono eb127 h36
      replace h46 := Rp.mono eb127 h46
      refine sq ?_
      refine st_asg (K := K) hm N.ex (cp_call0 (ca_cons0 (cp_var rfl h128) ca_nil0)) (by first | rfl | simp only [o2, Option.bind_assoc, Option.bind_some]) fun l_used_here129 v130 B131 H132 _ hm g133 h134 => ?_
      replace N := N.pure g133
      replace h12 := Rp.mono g133.b h12
      replace h24 := Rp.mono g133.b h24
      replace h36 := Rp.mono g133.b h36
      replace h46 := Rp.mono g133.b h46
      replace h128 := Rp.mono g133.b h128
      refine gnx ?_
      refine sq ?_
      refine st_asg (K := K) hm N.ex (Co.cp (co_lcL (t := fun x_l_row => (some true)) (f := fun x_l_row => (m_l_renamed x_l_row l_used_here129)) (cp_var rfl h128) fun x_l_row B1x vx ebx hx => ⟨_, fun _ _ _ hq => hq, rfl, (ct_yes).to (by first | rfl | simp only [o2, Option.bind_assoc, Option.bind_some]), ((cp_call0 (ca_cons0 (cp_var rfl hx) (ca_cons0 (cp_var rfl (Rp.mono ebx h134)) ca_nil0)))).to (by first | rfl | simp only [o2, Option.bind_assoc, Option.bind_some])⟩)) (by first | rfl | simp only [o2, Option.bind_assoc, Option.bind_some]) fun l_rows_here135 v136 B137 H138 _ hm g139 h140 => ?_
      replace N := N.pure g139
      replace h12 := Rp.mono g139.b h12
      replace h24 := Rp.mono g139.b h24
      replace h36 := Rp.mono g139.b h36
      replace h46 := Rp.mono g139.b h46
      replace h134 := Rp.mono g139.b h134
      refine gnx ?_
      refine sq ?_
      refine st_ifJ hm (fun (z : (List Int) × (List Str)) σ H => ∃ (W B : Hp) (w_l_rows_here : V) (o6 : Option V) (o7 : Option V) (o8 : Option V), Now (dom W0) Bs Hs (OwBox K pa) W B H z.1 ∧ Ex B137 B ∧ σ = [some (.ref pa), some v7, some v19, some v31, some v41, some w_l_rows_here, o6, o7, o8, some v130] ∧ rp K B w_l_rows_here z.2) N.ex (ct_not (ct_B (cp_call0 (ca_cons0 (cp_var rfl h140) ca_nil0)))) (by first | rfl | simp only [o2, Option.bind_assoc, Option.bind_some]) ?_ ?_ ?_
      · intro z141 B144 H145 N146 hc147 hm g148 hn149
        have ej150 := g148.b
        replace N := N.pure g148
        replace h12 := Rp.mono g148.b h12
        replace h24 := Rp.mono g148.b h24
        replace h36 := Rp.mono g148.b h36
        replace h46 := Rp.mono g148.b h46
        replace h134 := Rp.mono g148.b h134
        replace h140 := Rp.mono g148.b h140
        refine st_asg (K := K) hm N.ex (cp_call0 (ca_cons0 (cp_var rfl h140) ca_nil0)) (by first | rfl | simp only [o2, Option.bind_assoc, Option.bind_some]) fun l_rows_here151 v152 B153 H154 _ hm g155 h156 => ?_
        replace N := N.pure g155
        replace ej150 := ej150.trans g155.b
        replace h12 := Rp.mono g155.b h12
        replace h24 := Rp.mono g155.b h24
        replace h36 := Rp.mono g155.b h36
        replace h46 := Rp.mono g155.b h46
        replace h134 := Rp.mono g155.b h134
        cases hm
        exact hn149 _ _ ⟨_, _, v152, _, _, _, N, ej150, rfl, h156⟩
      · intro z157 B160 H161 N162 hc163 hm g164 hn165
        have ej166 := g164.b
        replace N := N.pure g164
        replace h12 := Rp.mono g164.b h12
        replace h24 := Rp.mono g164.b h24
        replace h36 := Rp.mono g164.b h36
        replace h46 := Rp.mono g164.b h46
        replace h134 := Rp.mono g164.b h134
        replace h140 := Rp.mono g164.b h140
        refine nxt ?_
        cases hm
        exact hn165 _ _ ⟨_, _, v136, _, _, _, N, ej166, rfl, h140⟩
      · rintro z167 σ H170 hm ⟨W168, B169, w172, _, _, _, N, eb171, rfl, h173⟩
        replace h12 := Rp.mono eb171 h12
        replace h24 := Rp.mono eb171 h24
        replace h36 := Rp.mono eb171 h36
        replace h46 := Rp.mono eb171 h46
        replace h134 := Rp.mono eb171 h134
        refine gnx ?_
        refine st_retF (K := K) (m' := (some z167.2)) hm N.ex (cp_var rfl h173) rfl fun x v B1 H1 hm g hv => ?_
        cases hm
        replace N := N.pure g
        exact hQ _ _ _ _ N.sw N.p hv
def m_l_places_b2 (p_l_rows_here : (List Str)) (p_l_k : Int) (p_l_at : Int) (p_st : (Unit × (List (Int × Int)))) : Option ((Unit × (List (Int × Int)))) :=
 (Option.bind (o2 (o2 (at? p_l_rows_here p_l_k) (some p_l_at) fun x y => atS? x y) (some ("#" : Str)) fun x y => some ((!decide (x = y)))) fun b => if b = true then
 (Option.bind (Option.bind (some ((p_l_k, p_l_at), p_st)) fun p41 => Option.bind (papp p41.2.2 p41.1) fun q42 => some ((), (p41.2.1, q42))) fun p48 =>
 some (p48.2))
 else
 some (p_st))
def m_l_places_b1 (p_l_rows_here : (List Str)) (p_l_k : Int) (p_st : (Unit × (List (Int × Int)))) : Option ((Unit × (List (Int × Int)))) :=
 (Option.bind (Option.bind (Option.bind (o2 (at? p_l_rows_here p_l_k) (some ()) fun x y => some (x, y)) fun t => plenS t.1) fun n => prange1 n) fun xs => Option.bind (forN (fun x (s : (Unit × (List (Int × Int)))) => m_l_places_b2 p_l_rows_here p_l_k x s) xs (p_st)) fun s49 =>
 some (s49))
def m_l_places (a_l_rows_here : (List Str)) : Option (List (Int × Int)) :=
 (Option.bind (some (([] : List (Int × Int)), ())) fun p63 =>
 (Option.bind (Option.bind (some ((a_l_rows_here.length : Int))) fun n => prange1 n) fun xs => Option.bind (forN (fun x (s : (Unit × (List (Int × Int)))) => m_l_places_b1 a_l_rows_here x s) xs ((p63.2, p63.1))) fun s54 =>
 (some s54.2)))
abbrev s_l_places : Stmt := top 17
theorem sc_l_places : FnScope ["_law_rows_here", "_law_places_here", "_law_k", "_law_at"] ["_law_rows_here"] (defScope s_l_places) := ⟨rfl, rfl, rfl, by decide +kernel, rfl, by decide +kernel, by decide +kernel⟩
abbrev sp_l_places (K : Fg) : Sp := spP K (fun t : (List Str) × Unit => m_l_places t.1)
set_option maxHeartbeats 0 in
theorem ok_l_places {f : Addr} {fd : FuncData} (F : FunD K "_law_places" "_law_places" (defArgs s_l_places) (defBody s_l_places) (defScope s_l_places) [] [] f fd) (T : Tx K mg)  : FnOk P w K mg base CX0 1 f fd ["_law_rows_here"] (sp_l_places K) := by
  have sc := sc_l_places
  refine F.ok sc (fun vs H Q E h => ?_) (fun cdv A outer s H vs Q E hr h => ?_)
  · obtain ⟨Bs, t, r, ex, ⟨u0, _, rfl, hu0, hz⟩, hm, hQ⟩ := h
    cases hz
    rfl
  · obtain ⟨Bs, ⟨a_l_rows_here, ⟨⟩⟩, r, ex, ⟨u0, _, rfl, hu0, hz⟩, hm, hQ⟩ := h
    cases hz
    replace hu0 : rp K Bs u0 a_l_rows_here := hu0
    replace hm : m_l_places a_l_rows_here = some r := hm
    obtain ⟨Hs, eHs⟩ : ∃ Hs, Hs = H := ⟨_, rfl⟩
    subst eHs
    have N : Now noM Bs Hs oE emp Bs Hs () := nowE ex
    unfold m_l_places at hm
    refine ⟨_, PSs.nox (pss_cons (ps_set (i := 1) sc.nd rfl (.inl rfl) (pe_lst pa_nil)) (pss_cons (ps_for PassesOwn.never rfl (pi_range1 rfl T.free_range (pa_cons (pe_callB (call_len_K (K := K) rfl) rfl T.free_len boot_len (pa_cons (pv 0) pa_nil)) pa_nil)) (pg_name (i := 2) sc.nd rfl (.inl rfl)) (pss_one (ps_for PassesOwn.never rfl (pi_range1 rfl T.free_range (pa_cons (pe_callB (call_len_K (K := K) rfl) rfl T.free_len boot_len (pa_cons (pe_ix (ix_listK (K := K) rfl) (pv 0) (pv 2) (fun _ _ => rfl)) pa_nil)) pa_nil)) (pg_name (i := 3) sc.nd rfl (.inl rfl)) (pss_one (ps_if (pt_cmpR op_ne (pe_ix ix_str (pe_ix (ix_listK (K := K) rfl) (pv 0) (pv 2) (fun _ _ => rfl)) (pv 3) (fun _ _ => rfl)) pe_str (nomark _)) (pss_one (ps_expr (pe_bm PySem.F.plainAttrs_list PySem.F.slot_list_append PySem.F.type_list_append mt_append (pv 1) (pa_cons (pe_tup (pa_cons (pv 2) (pa_cons (pv 3) pa_nil))) pa_nil)))) pss_nil))))) (pss_one (ps_ret (pv 1))))), ?_⟩
    refine sq ?_
    refine st_asgL (K := K) hm N (Co.s (co_nil (α := (Int × Int)))) (by first | rfl | simp only [o2, Option.bind_assoc, Option.bind_some]) fun l_places_here1 s2 pl3 W4 B5 H6 hm N eb7 fp8 => ?_
    replace hu0 := Rp.mono eb7 hu0
    try dsimp only at hm
    refine gnx ?_
    refine sq ?_
    refine st_forN_r1 (K := K) (fun Be (s : (Unit × (List (Int × Int)))) B σ H => ∃ (W : Hp) (o2 : Option V) (o3 : Option V), Now noM Bs Hs (star oE (OwL (α := (Int × Int)) K pl3)) W B H s ∧ Ex B5 B ∧ Ex Be B ∧ σ = [some u0, some (.ref pl3), o2, o3]) hm N.ex (ca_cons (cp_cb rc_lenL (ca_cons (cp_var rfl hu0) ca_nil)) ca_nil) (by first | rfl | simp only [o2, Option.bind_assoc, Option.bind_some]) (fun Be H1 g => ⟨_, _, _, N.pure g, g.b, Ex.refl _, rfl⟩) ?_ ?_
    · rintro Be x9 s10 B12 σ H13 v14 c15 N16 ⟨W11, _, _, N, eb21, ee22, rfl⟩ hv17 hm hn18
      unfold m_l_places_b1 at hm
      replace hu0 := Rp.mono eb21 hu0
      refine gnm ?_
      refine st_forN_r1 (K := K) (fun Be (s : (Unit × (List (Int × Int)))) B σ H => ∃ (W : Hp) (o3 : Option V), Now noM Bs Hs (star oE (OwL (α := (Int × Int)) K pl3)) W B H s ∧ Ex B12 B ∧ Ex Be B ∧ σ = [some u0, some (.ref pl3), some v14, o3]) hm N.ex (ca_cons (cp_cb rc_lenS (ca_cons (cp_op r2_ixL (cp_var rfl hu0) (cp_var rfl hv17)) ca_nil)) ca_nil) (by first | rfl | simp only [o2, Option.bind_assoc, Option.bind_some]) (fun Be H1 g => ⟨_, _, N.pure g, g.b, Ex.refl _, rfl⟩) ?_ ?_
      · rintro Be x23 s24 B26 σ H27 v28 c29 N30 ⟨W25, _, N, eb35, ee36, rfl⟩ hv31 hm hn32
        unfold m_l_places_b2 at hm
        replace eb21 := eb21.trans eb35
        replace ee22 := ee22.trans eb35
        replace hu0 := Rp.mono eb35 hu0
        replace hv17 := Rp.mono eb35 hv17
        refine gnm ?_
        refine st_if hm N.ex (ct_test (cp_op r2_ne (cp_op r2_ixS (cp_op r2_ixL (cp_var rfl hu0) (cp_var rfl hv17)) (cp_var rfl hv31)) cp_str)) (by first | rfl | simp only [o2, Option.bind_assoc, Option.bind_some]) (fun B37 H38 hc40 hm g39 => ?_) (fun B37 H38 hc40 hm g39 => ?_)
        · replace N := N.pure g39
          replace eb21 := eb21.trans g39.b
          replace ee22 := ee22.trans g39.b
          replace eb35 := eb35.trans g39.b
          replace ee36 := ee36.trans g39.b
          replace hu0 := Rp.mono g39.b hu0
          replace hv17 := Rp.mono g39.b hv17
          replace hv31 := Rp.mono g39.b hv31
          refine st_dropS (K := K) hm N (cs_append ln_r rfl (Cp.s (cp_tup2 (ca_cons (cp_var rfl hv17) (ca_cons (cp_var rfl hv31) ca_nil))))) (by first | rfl | simp only [o2, Option.bind_assoc, Option.bind_some]) fun _ s43 W44 B45 H46 hm N eb47 => ?_
          try dsimp only at hm
          replace eb21 := eb21.trans eb47
          replace ee22 := ee22.trans eb47
          replace eb35 := eb35.trans eb47
          replace ee36 := ee36.trans eb47
          replace hu0 := Rp.mono eb47 hu0
          replace hv17 := Rp.mono eb47 hv17
          replace hv31 := Rp.mono eb47 hv31
          cases hm
          exact hn32 _ _ _ ⟨_, _, N, eb35, ee36, rfl⟩
        · replace N := N.pure g39
          replace eb21 := eb21.trans g39.b
          replace ee22 := ee22.trans g39.b
          replace eb35 := eb35.trans g39.b
          replace ee36 := ee36.trans g39.b
          replace hu0 := Rp.mono g39.b hu0
          replace hv17 := Rp.mono g39.b hv17
          replace hv31 := Rp.mono g39.b hv31
          refine nxt ?_
          cases hm
          exact hn32 _ _ _ ⟨_, _, N, eb35, ee36, rfl⟩
      · rintro Be s49 B51 σ H52 hm ⟨W50, _, N, eb53, _, rfl⟩
        replace eb21 := eb21.trans eb53
        replace ee22 := ee22.trans eb53
        replace hu0 := Rp.mono eb53 hu0
        replace hv17 := Rp.mono eb53 hv17
        cases hm
        exact hn18 _ _ _ ⟨_, _, _, N, eb21, ee22, rfl⟩
    · rintro Be s54 B56 σ H57 hm ⟨W55, _, _, N, eb58, _, rfl⟩
      replace hu0 := Rp.mono eb58 hu0
      refine gnx ?_
      obtain ⟨W59, B60, N, eb61, h62⟩ := N.freeze fp8
      replace hu0 := Rp.mono eb61 hu0
      refine st_ret (K := K) hm N.ex (cp_var rfl h62) rfl fun v B1 H1 g hv => ?_
      exact hQ v B1 H1 (N.g.then g) hv
def m_l_near_b2 (p_l_places_here : (List (Int × Int))) (p_l_cell_here : Int) (p_l_other : Int) (p_st : ((Unit × (List (List Int))) × (List Int))) : Option (((Unit × (List (List Int))) × (List Int))) :=
 (Option.bind (Option.bind (o2 (o2 (Option.bind (at? p_l_places_here p_l_cell_here) fun x => some (x.1)) (Option.bind (at? p_l_places_here p_l_other) fun x => some (x.1)) fun x y => some (x - y)) (some ()) fun x y => some (x, y)) fun t => some (pabs t.1)) fun l_down45 =>
 (Option.bind (Option.bind (o2 (o2 (Option.bind (at? p_l_places_here p_l_cell_here) fun x => some (x.2)) (Option.bind (at? p_l_places_here p_l_other) fun x => some (x.2)) fun x y => some (x - y)) (some ()) fun x y => some (x, y)) fun t => some (pabs t.1)) fun l_over51 =>
 (Option.bind (some ((decide ((l_down45 + l_over51) = (1 : Int))))) fun b => if b = true then
 (Option.bind (Option.bind (some (p_l_other, p_st)) fun p61 => Option.bind (papp p61.2.2 p61.1) fun q62 => some ((), (p61.2.1, q62))) fun p68 =>
 some (p68.2))
 else
 some (p_st))))
def m_l_near_b1 (p_l_places_here : (List (Int × Int))) (p_l_cell_here : Int) (p_st : (Unit × (List (List Int)))) : Option ((Unit × (List (List Int)))) :=
 (Option.bind (some (([] : List Int), p_st)) fun p86 =>
 (Option.bind (Option.bind (some ((p_l_places_here.length : Int))) fun n => prange1 n) fun xs => Option.bind (forN (fun x (s : ((Unit × (List (List Int))) × (List Int))) => m_l_near_b2 p_l_places_here p_l_cell_here x s) xs ((p86.2, p86.1))) fun s69 =>
 (Option.bind (Option.bind (some (s69.2, s69.1)) fun p78 => Option.bind (papp p78.2.2 p78.1) fun q79 => some ((), (p78.2.1, q79))) fun p85 =>
 some (p85.2))))
def m_l_near (a_l_places_here : (List (Int × Int))) : Option (List (List Int)) :=
 (Option.bind (some (([] : List (List Int)), ())) fun p96 =>
 (Option.bind (Option.bind (some ((a_l_places_here.length : Int))) fun n => prange1 n) fun xs => Option.bind (forN (fun x (s : (Unit × (List (List Int)))) => m_l_near_b1 a_l_places_here x s) xs ((p96.2, p96.1))) fun s87 =>
 (some s87.2)))
abbrev s_l_near : Stmt := top 18
theorem sc_l_near : FnScope ["_law_places_here", "_law_near_here", "_law_cell_here", "_law_row", "_law_other", "_law_down", "_law_over"] ["_law_places_here"] (defScope s_l_near) := ⟨rfl, rfl, rfl, by decide +kernel, rfl, by decide +kernel, by decide +kernel⟩
abbrev sp_l_near (K : Fg) : Sp := spP K (fun t : (List (Int × Int)) × Unit => m_l_near t.1)
set_option maxHeartbeats 0 in
theorem ok_l_near {f : Addr} {fd : FuncData} (F : FunD K "_law_near" "_law_near" (defArgs s_l_near) (defBody s_l_near) (defScope s_l_near) [] [] f fd) (T : Tx K mg)  : FnOk P w K mg base CX0 1 f fd ["_law_places_here"] (sp_l_near K) := by
  have sc := sc_l_near
  refine F.ok sc (fun vs H Q E h => ?_) (fun cdv A outer s H vs Q E hr h => ?_)
  · obtain ⟨Bs, t, r, ex, ⟨u0, _, rfl, hu0, hz⟩, hm, hQ⟩ := h
    cases hz
    rfl
  · obtain ⟨Bs, ⟨a_l_places_here, ⟨⟩⟩, r, ex, ⟨u0, _, rfl, hu0, hz⟩, hm, hQ⟩ := h
    cases hz
    replace hu0 : rp K Bs u0 a_l_places_here := hu0
    replace hm : m_l_near a_l_places_here = some r := hm
    obtain ⟨Hs, eHs⟩ : ∃ Hs, Hs = H := ⟨_, rfl⟩
    subst eHs
    have N : Now noM Bs Hs oE emp Bs Hs () := nowE ex
    unfold m_l_near at hm
    refine ⟨_, PSs.nox (pss_cons (ps_set (i := 1) sc.nd rfl (.inl rfl) (pe_lst pa_nil)) (pss_cons (ps_for PassesOwn.never rfl (pi_range1 rfl T.free_range (pa_cons (pe_callB (call_len_K (K := K) rfl) rfl T.free_len boot_len (pa_cons (pv 0) pa_nil)) pa_nil)) (pg_name (i := 2) sc.nd rfl (.inl rfl)) (pss_cons (ps_set (i := 3) sc.nd rfl (.inl rfl) (pe_lst pa_nil)) (pss_cons (ps_for PassesOwn.never rfl (pi_range1 rfl T.free_range (pa_cons (pe_callB (call_len_K (K := K) rfl) rfl T.free_len boot_len (pa_cons (pv 0) pa_nil)) pa_nil)) (pg_name (i := 4) sc.nd rfl (.inl rfl)) (pss_cons (ps_set (i := 5) sc.nd rfl (.inl rfl) (pe_callB call_abs rfl T.free_abs boot_abs (pa_cons (pe_op op_sub (pe_ix (ix_tupK (K := K) rfl) (pe_ix (ix_listK (K := K) rfl) (pv 0) (pv 2) (fun _ _ => rfl)) pe_int (fun _ _ => rfl)) (pe_ix (ix_tupK (K := K) rfl) (pe_ix (ix_listK (K := K) rfl) (pv 0) (pv 4) (fun _ _ => rfl)) pe_int (fun _ _ => rfl))) pa_nil))) (pss_cons (ps_set (i := 6) sc.nd rfl (.inl rfl) (pe_callB call_abs rfl T.free_abs boot_abs (pa_cons (pe_op op_sub (pe_ix (ix_tupK (K := K) rfl) (pe_ix (ix_listK (K := K) rfl) (pv 0) (pv 2) (fun _ _ => rfl)) pe_int (fun _ _ => rfl)) (pe_ix (ix_tupK (K := K) rfl) (pe_ix (ix_listK (K := K) rfl) (pv 0) (pv 4) (fun _ _ => rfl)) pe_int (fun _ _ => rfl))) pa_nil))) (pss_one (ps_if (pt_cmpR op_eq (pe_op op_add (pv 5) (pv 6)) pe_int (nomark _)) (pss_one (ps_expr (pe_bm PySem.F.plainAttrs_list PySem.F.slot_list_append PySem.F.type_list_append mt_append (pv 3) (pa_cons (pv 4) pa_nil)))) pss_nil))))) (pss_one (ps_expr (pe_bm PySem.F.plainAttrs_list PySem.F.slot_list_append PySem.F.type_list_append mt_append (pv 1) (pa_cons (pv 3) pa_nil))))))) (pss_one (ps_ret (pv 1))))), ?_⟩
    refine sq ?_
    refine st_asgL (K := K) hm N (Co.s (co_nil (α := (List Int)))) (by first | rfl | simp only [o2, Option.bind_assoc, Option.bind_some]) fun l_near_here1 s2 pl3 W4 B5 H6 hm N eb7 fp8 => ?_
    replace hu0 := Rp.mono eb7 hu0
    try dsimp only at hm
    refine gnx ?_
    refine sq ?_
    refine st_forN_r1 (K := K) (fun Be (s : (Unit × (List (List Int)))) B σ H => ∃ (W : Hp) (o2 : Option V) (o3 : Option V) (o4 : Option V) (o5 : Option V) (o6 : Option V), Now noM Bs Hs (star oE (OwL (α := (List Int)) K pl3)) W B H s ∧ Ex B5 B ∧ Ex Be B ∧ σ = [some u0, some (.ref pl3), o2, o3, o4, o5, o6]) hm N.ex (ca_cons (cp_cb rc_lenL (ca_cons (cp_var rfl hu0) ca_nil)) ca_nil) (by first | rfl | simp only [o2, Option.bind_assoc, Option.bind_some]) (fun Be H1 g => ⟨_, _, _, _, _, _, N.pure g, g.b, Ex.refl _, rfl⟩) ?_ ?_
    · rintro Be x9 s10 B12 σ H13 v14 c15 N16 ⟨W11, _, _, _, _, _, N, eb21, ee22, rfl⟩ hv17 hm hn18
      unfold m_l_near_b1 at hm
      replace hu0 := Rp.mono eb21 hu0
      refine gnm ?_
      refine sq ?_
      refine st_asgL (K := K) hm N (Co.s (co_nil (α := Int))) (by first | rfl | simp only [o2, Option.bind_assoc, Option.bind_some]) fun l_row23 s24 pl25 W26 B27 H28 hm N eb29 fp30 => ?_
      replace eb21 := eb21.trans eb29
      replace ee22 := ee22.trans eb29
      replace hu0 := Rp.mono eb29 hu0
      replace hv17 := Rp.mono eb29 hv17
      try dsimp only at hm
      refine gnx ?_
      refine sq ?_
      refine st_forN_r1 (K := K) (fun Be (s : ((Unit × (List (List Int))) × (List Int))) B σ H => ∃ (W : Hp) (o4 : Option V) (o5 : Option V) (o6 : Option V), Now noM Bs Hs (star (star oE (OwL (α := (List Int)) K pl3)) (OwL (α := Int) K pl25)) W B H s ∧ Ex B27 B ∧ Ex Be B ∧ σ = [some u0, some (.ref pl3), some v14, some (.ref pl25), o4, o5, o6]) hm N.ex (ca_cons (cp_cb rc_lenL (ca_cons (cp_var rfl hu0) ca_nil)) ca_nil) (by first | rfl | simp only [o2, Option.bind_assoc, Option.bind_some]) (fun Be H1 g => ⟨_, _, _, _, N.pure g, g.b, Ex.refl _, rfl⟩) ?_ ?_
      · rintro Be x31 s32 B34 σ H35 v36 c37 N38 ⟨W33, _, _, _, N, eb43, ee44, rfl⟩ hv39 hm hn40
        unfold m_l_near_b2 at hm
        replace eb21 := eb21.trans eb43
        replace ee22 := ee22.trans eb43
        replace hu0 := Rp.mono eb43 hu0
        replace hv17 := Rp.mono eb43 hv17
        refine gnm ?_
        refine sq ?_
        refine st_asg (K := K) hm N.ex (cp_cb rc_abs (ca_cons (cp_op r2_sub (cp_item2_0 (cp_op r2_ixL (cp_var rfl hu0) (cp_var rfl hv17))) (cp_item2_0 (cp_op r2_ixL (cp_var rfl hu0) (cp_var rfl hv39)))) ca_nil)) (by first | rfl | simp only [o2, Option.bind_assoc, Option.bind_some]) fun l_down45 v46 B47 H48 _ hm g49 h50 => ?_
        replace N := N.pure g49
        replace eb21 := eb21.trans g49.b
        replace ee22 := ee22.trans g49.b
        replace eb43 := eb43.trans g49.b
        replace ee44 := ee44.trans g49.b
        replace hu0 := Rp.mono g49.b hu0
        replace hv17 := Rp.mono g49.b hv17
        replace hv39 := Rp.mono g49.b hv39
        refine gnx ?_
        refine sq ?_
        refine st_asg (K := K) hm N.ex (cp_cb rc_abs (ca_cons (cp_op r2_sub (cp_item2_1 (cp_op r2_ixL (cp_var rfl hu0) (cp_var rfl hv17))) (cp_item2_1 (cp_op r2_ixL (cp_var rfl hu0) (cp_var rfl hv39)))) ca_nil)) (by first | rfl | simp only [o2, Option.bind_assoc, Option.bind_some]) fun l_over51 v52 B53 H54 _ hm g55 h56 => ?_
        replace N := N.pure g55
        replace eb21 := eb21.trans g55.b
        replace ee22 := ee22.trans g55.b
        replace eb43 := eb43.trans g55.b
        replace ee44 := ee44.trans g55.b
        replace hu0 := Rp.mono g55.b hu0
        replace hv17 := Rp.mono g55.b hv17
        replace hv39 := Rp.mono g55.b hv39
        replace h50 := Rp.mono g55.b h50
        refine gnx ?_
        refine st_if hm N.ex (ct_test (cp_op r2_eq (cp_op r2_add (cp_var rfl h50) (cp_var rfl h56)) cp_int)) rfl (fun B57 H58 hc60 hm g59 => ?_) (fun B57 H58 hc60 hm g59 => ?_)
        · replace N := N.pure g59
          replace eb21 := eb21.trans g59.b
          replace ee22 := ee22.trans g59.b
          replace eb43 := eb43.trans g59.b
          replace ee44 := ee44.trans g59.b
          replace hu0 := Rp.mono g59.b hu0
          replace hv17 := Rp.mono g59.b hv17
          replace hv39 := Rp.mono g59.b hv39
          replace h50 := Rp.mono g59.b h50
          replace h56 := Rp.mono g59.b h56
          refine st_dropS (K := K) hm N (cs_append ln_r rfl (Cp.s (cp_var rfl hv39))) (by first | rfl | simp only [o2, Option.bind_assoc, Option.bind_some]) fun _ s63 W64 B65 H66 hm N eb67 => ?_
          try dsimp only at hm
          replace eb21 := eb21.trans eb67
          replace ee22 := ee22.trans eb67
          replace eb43 := eb43.trans eb67
          replace ee44 := ee44.trans eb67
          replace hu0 := Rp.mono eb67 hu0
          replace hv17 := Rp.mono eb67 hv17
          replace hv39 := Rp.mono eb67 hv39
          replace h50 := Rp.mono eb67 h50
          replace h56 := Rp.mono eb67 h56
          cases hm
          exact hn40 _ _ _ ⟨_, _, _, _, N, eb43, ee44, rfl⟩
        · replace N := N.pure g59
          replace eb21 := eb21.trans g59.b
          replace ee22 := ee22.trans g59.b
          replace eb43 := eb43.trans g59.b
          replace ee44 := ee44.trans g59.b
          replace hu0 := Rp.mono g59.b hu0
          replace hv17 := Rp.mono g59.b hv17
          replace hv39 := Rp.mono g59.b hv39
          replace h50 := Rp.mono g59.b h50
          replace h56 := Rp.mono g59.b h56
          refine nxt ?_
          cases hm
          exact hn40 _ _ _ ⟨_, _, _, _, N, eb43, ee44, rfl⟩
      · rintro Be s69 B71 σ H72 hm ⟨W70, _, _, _, N, eb73, _, rfl⟩
        replace eb21 := eb21.trans eb73
        replace ee22 := ee22.trans eb73
        replace hu0 := Rp.mono eb73 hu0
        replace hv17 := Rp.mono eb73 hv17
        refine gnx ?_
        obtain ⟨W74, B75, N, eb76, h77⟩ := N.freeze fp30
        replace eb21 := eb21.trans eb76
        replace ee22 := ee22.trans eb76
        replace hu0 := Rp.mono eb76 hu0
        replace hv17 := Rp.mono eb76 hv17
        refine st_dropS (K := K) hm N (cs_append ln_r rfl (Cp.s (cp_var rfl h77))) (by first | rfl | simp only [o2, Option.bind_assoc, Option.bind_some]) fun _ s80 W81 B82 H83 hm N eb84 => ?_
        try dsimp only at hm
        replace eb21 := eb21.trans eb84
        replace ee22 := ee22.trans eb84
        replace hu0 := Rp.mono eb84 hu0
        replace hv17 := Rp.mono eb84 hv17
        replace h77 := Rp.mono eb84 h77
        cases hm
        exact hn18 _ _ _ ⟨_, _, _, _, _, _, N, eb21, ee22, rfl⟩
    · rintro Be s87 B89 σ H90 hm ⟨W88, _, _, _, _, _, N, eb91, _, rfl⟩
      replace hu0 := Rp.mono eb91 hu0
      refine gnx ?_
      obtain ⟨W92, B93, N, eb94, h95⟩ := N.freeze fp8
      replace hu0 := Rp.mono eb94 hu0
      refine st_ret (K := K) hm N.ex (cp_var rfl h95) rfl fun v B1 H1 g hv => ?_
      exact hQ v B1 H1 (N.g.then g) hv
def m_l_doors (a_l_rows_here : (List Str)) (a_l_places_here : (List (Int × Int))) : Option (List Int) :=
 (Option.bind (some ((a_l_places_here.length : Int))) fun n => Option.bind (prange1 n) fun xs => Option.bind (pbig xs) fun xs => lcF (fun x_l_cell_here => (o2 (o2 (o2 (some a_l_rows_here) (Option.bind (at? a_l_places_here x_l_cell_here) fun x => some (x.1)) fun x y => at? x y) (Option.bind (at? a_l_places_here x_l_cell_here) fun x => some (x.2)) fun x y => atS? x y) (some ("+abcdefgh" : Str)) fun x y => inS x y)) (fun x_l_cell_here => (some x_l_cell_here)) xs)
abbrev s_l_doors : Stmt := top 19
theorem sc_l_doors : FnScope ["_law_rows_here", "_law_places_here", "_law_cell_here"] ["_law_rows_here", "_law_places_here"] (defScope s_l_doors) := ⟨rfl, rfl, rfl, by decide +kernel, rfl, by decide +kernel, by decide +kernel⟩
abbrev sp_l_doors (K : Fg) : Sp := spP K (fun t : (List Str) × (List (Int × Int)) × Unit => m_l_doors t.1 t.2.1)
set_option maxHeartbeats 0 in
theorem ok_l_doors {f : Addr} {fd : FuncData} (F : FunD K "_law_doors" "_law_doors" (defArgs s_l_doors) (defBody s_l_doors) (defScope s_l_doors) [] [] f fd) (T : Tx K mg)  : FnOk P w K mg base CX0 1 f fd ["_law_rows_here", "_law_places_here"] (sp_l_doors K) := by
  have sc := sc_l_doors
  refine F.ok sc (fun vs H Q E h => ?_) (fun cdv A outer s H vs Q E hr h => ?_)
  · obtain ⟨Bs, t, r, ex, ⟨u0, _, rfl, hu0, ⟨u1, _, rfl, hu1, hz⟩⟩, hm, hQ⟩ := h
    cases hz
    rfl
  · obtain ⟨Bs, ⟨a_l_rows_here, a_l_places_here, ⟨⟩⟩, r, ex, ⟨u0, _, rfl, hu0, ⟨u1, _, rfl, hu1, hz⟩⟩, hm, hQ⟩ := h
    cases hz
    replace hu0 : rp K Bs u0 a_l_rows_here := hu0
    replace hu1 : rp K Bs u1 a_l_places_here := hu1
    replace hm : m_l_doors a_l_rows_here a_l_places_here = some r := hm
    obtain ⟨Hs, eHs⟩ : ∃ Hs, Hs = H := ⟨_, rfl⟩
    subst eHs
    have N : Now noM Bs Hs oE emp Bs Hs () := nowE ex
    unfold m_l_doors at hm
    refine ⟨_, PSs.nox (pss_one (ps_ret (pe_lc (own := [("_law_cell_here", 2)]) (g := gName 2) rfl sc.nd (pi_range1 rfl T.free_range (pa_cons (pe_callB (call_len_K (K := K) rfl) rfl T.free_len boot_len (pa_cons (pv 1) pa_nil)) pa_nil)) (blkOk_by (N := ["_law_rows_here", "_law_places_here", "_law_cell_here"]) (sc := defScope s_l_doors) (by decide +kernel)) (fun _ _ _ _ _ => pg_name (i := 2) sc.nd rfl (Or.inl rfl)) (fun _ _ _ _ _ => pts_one (pt_cmpR op_inS (pe_ix ix_str (pe_ix (ix_listK (K := K) rfl) (pv 0) (pe_ix (ix_tupK (K := K) rfl) (pe_ix (ix_listK (K := K) rfl) (pv 1) (pv 2) (fun _ _ => rfl)) pe_int (fun _ _ => rfl)) (fun _ _ => rfl)) (pe_ix (ix_tupK (K := K) rfl) (pe_ix (ix_listK (K := K) rfl) (pv 1) (pv 2) (fun _ _ => rfl)) pe_int (fun _ _ => rfl)) (fun _ _ => rfl)) pe_str rfl)) (fun _ _ _ _ _ => (pv 2))))), ?_⟩
    refine st_ret (K := K) hm N.ex (Co.cp (co_lcR (t := fun x_l_cell_here => (o2 (o2 (o2 (some a_l_rows_here) (Option.bind (at? a_l_places_here x_l_cell_here) fun x => some (x.1)) fun x y => at? x y) (Option.bind (at? a_l_places_here x_l_cell_here) fun x => some (x.2)) fun x y => atS? x y) (some ("+abcdefgh" : Str)) fun x y => inS x y)) (f := fun x_l_cell_here => (some x_l_cell_here)) (cp_cb rc_lenL (ca_cons (cp_var rfl hu1) ca_nil)) fun x_l_cell_here B1x vx ebx hx => ⟨_, fun _ _ _ hq => hq, rfl, ((ct_test (cp_op r2_inS (cp_op r2_ixS (cp_op r2_ixL (cp_var rfl (Rp.mono ebx hu0)) (cp_item2_0 (cp_op r2_ixL (cp_var rfl (Rp.mono ebx hu1)) (cp_var rfl hx)))) (cp_item2_1 (cp_op r2_ixL (cp_var rfl (Rp.mono ebx hu1)) (cp_var rfl hx)))) cp_str))).to (by first | rfl | simp only [o2, Option.bind_assoc, Option.bind_some]), ((cp_var rfl hx)).to (by first | rfl | simp only [o2, Option.bind_assoc, Option.bind_some])⟩)) (by first | rfl | simp only [o2, Option.bind_assoc, Option.bind_some]) fun v B1 H1 g hv => ?_
    exact hQ v B1 H1 (N.g.then g) hv
def m_l_stations_b2 (p_l_rows_here : (List Str)) (p_l_places_here : (List (Int × Int))) (p_l_k : Int) (p_l_cell_here : Int) (p_st : ((Unit × (List (List Int))) × (List Int))) : Option (((Unit × (List (List Int))) × (List Int))) :=
 (Option.bind (o2 (o2 (some p_l_rows_here) (Option.bind (at? p_l_places_here p_l_cell_here) fun x => some (x.1)) fun x y => at? x y) (Option.bind (at? p_l_places_here p_l_cell_here) fun x => some (x.2)) fun x y => atS? x y) fun l_tile_here45 =>
 (Option.bind (Option.bind (o2 (some l_tile_here45) (atS? ("ABCDEFGH" : Str) p_l_k) fun x y => some ((decide (x = y)))) fun a => if a = true then some true else (o2 (some l_tile_here45) (atS? ("abcdefgh" : Str) p_l_k) fun x y => some ((decide (x = y))))) fun b => if b = true then
 (Option.bind (Option.bind (some (p_l_cell_here, p_st)) fun p55 => Option.bind (papp p55.2.2 p55.1) fun q56 => some ((), (p55.2.1, q56))) fun p62 =>
 some (p62.2))
 else
 some (p_st)))
def m_l_stations_b1 (p_l_rows_here : (List Str)) (p_l_places_here : (List (Int × Int))) (p_l_k : Int) (p_st : (Unit × (List (List Int)))) : Option ((Unit × (List (List Int)))) :=
 (Option.bind (some (([] : List Int), p_st)) fun p84 =>
 (Option.bind (Option.bind (some ((p_l_places_here.length : Int))) fun n => prange1 n) fun xs => Option.bind (forN (fun x (s : ((Unit × (List (List Int))) × (List Int))) => m_l_stations_b2 p_l_rows_here p_l_places_here p_l_k x s) xs ((p84.2, p84.1))) fun s63 =>
 (Option.bind (some ((decide (((s63.2.length : Int)) > (0 : Int))))) fun b => if b = true then
 (Option.bind (Option.bind (some (s63.2, s63.1)) fun p76 => Option.bind (papp p76.2.2 p76.1) fun q77 => some ((), (p76.2.1, q77))) fun p83 =>
 some (p83.2))
 else
 some (s63.1))))
def m_l_stations (a_l_rows_here : (List Str)) (a_l_places_here : (List (Int × Int))) : Option (List (List Int)) :=
 (Option.bind (some (([] : List (List Int)), ())) fun p94 =>
 (Option.bind (Option.bind (some (8 : Int)) fun n => prange1 n) fun xs => Option.bind (forN (fun x (s : (Unit × (List (List Int)))) => m_l_stations_b1 a_l_rows_here a_l_places_here x s) xs ((p94.2, p94.1))) fun s85 =>
 (some s85.2)))
abbrev s_l_stations : Stmt := top 20
theorem sc_l_stations : FnScope ["_law_rows_here", "_law_places_here", "_law_stations_here", "_law_k", "_law_row", "_law_cell_here", "_law_tile_here"] ["_law_rows_here", "_law_places_here"] (defScope s_l_stations) := ⟨rfl, rfl, rfl, by decide +kernel, rfl, by decide +kernel, by decide +kernel⟩
abbrev sp_l_stations (K : Fg) : Sp := spP K (fun t : (List Str) × (List (Int × Int)) × Unit => m_l_stations t.1 t.2.1)
set_option maxHeartbeats 0 in
theorem ok_l_stations {f : Addr} {fd : FuncData} (F : FunD K "_law_stations" "_law_stations" (defArgs s_l_stations) (defBody s_l_stations) (defScope s_l_stations) [] [] f fd) (T : Tx K mg)  : FnOk P w K mg base CX0 1 f fd ["_law_rows_here", "_law_places_here"] (sp_l_stations K) := by
  have sc := sc_l_stations
  refine F.ok sc (fun vs H Q E h => ?_) (fun cdv A outer s H vs Q E hr h => ?_)
  · obtain ⟨Bs, t, r, ex, ⟨u0, _, rfl, hu0, ⟨u1, _, rfl, hu1, hz⟩⟩, hm, hQ⟩ := h
    cases hz
    rfl
  · obtain ⟨Bs, ⟨a_l_rows_here, a_l_places_here, ⟨⟩⟩, r, ex, ⟨u0, _, rfl, hu0, ⟨u1, _, rfl, hu1, hz⟩⟩, hm, hQ⟩ := h
    cases hz
    replace hu0 : rp K Bs u0 a_l_rows_here := hu0
    replace hu1 : rp K Bs u1 a_l_places_here := hu1
    replace hm : m_l_stations a_l_rows_here a_l_places_here = some r := hm
    obtain ⟨Hs, eHs⟩ : ∃ Hs, Hs = H := ⟨_, rfl⟩
    subst eHs
    have N : Now noM Bs Hs oE emp Bs Hs () := nowE ex
    unfold m_l_stations at hm
    refine ⟨_, PSs.nox (pss_cons (ps_set (i := 2) sc.nd rfl (.inl rfl) (pe_lst pa_nil)) (pss_cons (ps_for PassesOwn.never rfl (pi_range1 rfl T.free_range (pa_cons pe_int pa_nil)) (pg_name (i := 3) sc.nd rfl (.inl rfl)) (pss_cons (ps_set (i := 4) sc.nd rfl (.inl rfl) (pe_lst pa_nil)) (pss_cons (ps_for PassesOwn.never rfl (pi_range1 rfl T.free_range (pa_cons (pe_callB (call_len_K (K := K) rfl) rfl T.free_len boot_len (pa_cons (pv 1) pa_nil)) pa_nil)) (pg_name (i := 5) sc.nd rfl (.inl rfl)) (pss_cons (ps_set (i := 6) sc.nd rfl (.inl rfl) (pe_ix ix_str (pe_ix (ix_listK (K := K) rfl) (pv 0) (pe_ix (ix_tupK (K := K) rfl) (pe_ix (ix_listK (K := K) rfl) (pv 1) (pv 5) (fun _ _ => rfl)) pe_int (fun _ _ => rfl)) (fun _ _ => rfl)) (pe_ix (ix_tupK (K := K) rfl) (pe_ix (ix_listK (K := K) rfl) (pv 1) (pv 5) (fun _ _ => rfl)) pe_int (fun _ _ => rfl)) (fun _ _ => rfl))) (pss_one (ps_if (PW.pt (pw_or (pt_cmpR op_eq (pv 6) (pe_ix ix_str pe_str (pv 3) (fun _ _ => rfl)) (nomark _)) (pw_or1 (pt_cmpR op_eq (pv 6) (pe_ix ix_str pe_str (pv 3) (fun _ _ => rfl)) (nomark _))))) (pss_one (ps_expr (pe_bm PySem.F.plainAttrs_list PySem.F.slot_list_append PySem.F.type_list_append mt_append (pv 4) (pa_cons (pv 5) pa_nil)))) pss_nil)))) (pss_one (ps_if (pt_cmpR op_gt (pe_callB (call_len_K (K := K) rfl) rfl T.free_len boot_len (pa_cons (pv 4) pa_nil)) pe_int (nomark _)) (pss_one (ps_expr (pe_bm PySem.F.plainAttrs_list PySem.F.slot_list_append PySem.F.type_list_append mt_append (pv 2) (pa_cons (pv 4) pa_nil)))) pss_nil))))) (pss_one (ps_ret (pv 2))))), ?_⟩
    refine sq ?_
    refine st_asgL (K := K) hm N (Co.s (co_nil (α := (List Int)))) (by first | rfl | simp only [o2, Option.bind_assoc, Option.bind_some]) fun l_stations_here1 s2 pl3 W4 B5 H6 hm N eb7 fp8 => ?_
    replace hu0 := Rp.mono eb7 hu0
    replace hu1 := Rp.mono eb7 hu1
    try dsimp only at hm
    refine gnx ?_
    refine sq ?_
    refine st_forN_r1 (K := K) (fun Be (s : (Unit × (List (List Int)))) B σ H => ∃ (W : Hp) (o3 : Option V) (o4 : Option V) (o5 : Option V) (o6 : Option V), Now noM Bs Hs (star oE (OwL (α := (List Int)) K pl3)) W B H s ∧ Ex B5 B ∧ Ex Be B ∧ σ = [some u0, some u1, some (.ref pl3), o3, o4, o5, o6]) hm N.ex (ca_cons cp_int ca_nil) (by first | rfl | simp only [o2, Option.bind_assoc, Option.bind_some]) (fun Be H1 g => ⟨_, _, _, _, _, N.pure g, g.b, Ex.refl _, rfl⟩) ?_ ?_
    · rintro Be x9 s10 B12 σ H13 v14 c15 N16 ⟨W11, _, _, _, _, N, eb21, ee22, rfl⟩ hv17 hm hn18
      unfold m_l_stations_b1 at hm
      replace hu0 := Rp.mono eb21 hu0
      replace hu1 := Rp.mono eb21 hu1
      refine gnm ?_
      refine sq ?_
      refine st_asgL (K := K) hm N (Co.s (co_nil (α := Int))) (by first | rfl | simp only [o2, Option.bind_assoc, Option.bind_some]) fun l_row23 s24 pl25 W26 B27 H28 hm N eb29 fp30 => ?_
      replace eb21 := eb21.trans eb29
      replace ee22 := ee22.trans eb29
      replace hu0 := Rp.mono eb29 hu0
      replace hu1 := Rp.mono eb29 hu1
      replace hv17 := Rp.mono eb29 hv17
      try dsimp only at hm
      refine gnx ?_
      refine sq ?_
      refine st_forN_r1 (K := K) (fun Be (s : ((Unit × (List (List Int))) × (List Int))) B σ H => ∃ (W : Hp) (o5 : Option V) (o6 : Option V), Now noM Bs Hs (star (star oE (OwL (α := (List Int)) K pl3)) (OwL (α := Int) K pl25)) W B H s ∧ Ex B27 B ∧ Ex Be B ∧ σ = [some u0, some u1, some (.ref pl3), some v14, some (.ref pl25), o5, o6]) hm N.ex (ca_cons (cp_cb rc_lenL (ca_cons (cp_var rfl hu1) ca_nil)) ca_nil) (by first | rfl | simp only [o2, Option.bind_assoc, Option.bind_some]) (fun Be H1 g => ⟨_, _, _, N.pure g, g.b, Ex.refl _, rfl⟩) ?_ ?_
      · rintro Be x31 s32 B34 σ H35 v36 c37 N38 ⟨W33, _, _, N, eb43, ee44, rfl⟩ hv39 hm hn40
        unfold m_l_stations_b2 at hm
        replace eb21 := eb21.trans eb43
        replace ee22 := ee22.trans eb43
        replace hu0 := Rp.mono eb43 hu0
        replace hu1 := Rp.mono eb43 hu1
        replace hv17 := Rp.mono eb43 hv17
        refine gnm ?_
        refine sq ?_
        refine st_asg (K := K) hm N.ex (cp_op r2_ixS (cp_op r2_ixL (cp_var rfl hu0) (cp_item2_0 (cp_op r2_ixL (cp_var rfl hu1) (cp_var rfl hv39)))) (cp_item2_1 (cp_op r2_ixL (cp_var rfl hu1) (cp_var rfl hv39)))) (by first | rfl | simp only [o2, Option.bind_assoc, Option.bind_some]) fun l_tile_here45 v46 B47 H48 _ hm g49 h50 => ?_
        replace N := N.pure g49
        replace eb21 := eb21.trans g49.b
        replace ee22 := ee22.trans g49.b
        replace eb43 := eb43.trans g49.b
        replace ee44 := ee44.trans g49.b
        replace hu0 := Rp.mono g49.b hu0
        replace hu1 := Rp.mono g49.b hu1
        replace hv17 := Rp.mono g49.b hv17
        replace hv39 := Rp.mono g49.b hv39
        refine gnx ?_
        refine st_if hm N.ex (ct_or (ct_test (cp_op r2_eq (cp_var rfl h50) (cp_op r2_ixS cp_str (cp_var rfl hv17)))) (ct_test (cp_op r2_eq (cp_var rfl h50) (cp_op r2_ixS cp_str (cp_var rfl hv17))))) (by first | rfl | simp only [o2, Option.bind_assoc, Option.bind_some]) (fun B51 H52 hc54 hm g53 => ?_) (fun B51 H52 hc54 hm g53 => ?_)
        · replace N := N.pure g53
          replace eb21 := eb21.trans g53.b
          replace ee22 := ee22.trans g53.b
          replace eb43 := eb43.trans g53.b
          replace ee44 := ee44.trans g53.b
          replace hu0 := Rp.mono g53.b hu0
          replace hu1 := Rp.mono g53.b hu1
          replace hv17 := Rp.mono g53.b hv17
          replace hv39 := Rp.mono g53.b hv39
          replace h50 := Rp.mono g53.b h50
          refine st_dropS (K := K) hm N (cs_append ln_r rfl (Cp.s (cp_var rfl hv39))) (by first | rfl | simp only [o2, Option.bind_assoc, Option.bind_some]) fun _ s57 W58 B59 H60 hm N eb61 => ?_
          try dsimp only at hm
          replace eb21 := eb21.trans eb61
          replace ee22 := ee22.trans eb61
          replace eb43 := eb43.trans eb61
          replace ee44 := ee44.trans eb61
          replace hu0 := Rp.mono eb61 hu0
          replace hu1 := Rp.mono eb61 hu1
          replace hv17 := Rp.mono eb61 hv17
          replace hv39 := Rp.mono eb61 hv39
          replace h50 := Rp.mono eb61 h50
          cases hm
          exact hn40 _ _ _ ⟨_, _, _, N, eb43, ee44, rfl⟩
        · replace N := N.pure g53
          replace eb21 := eb21.trans g53.b
          replace ee22 := ee22.trans g53.b
          replace eb43 := eb43.trans g53.b
          replace ee44 := ee44.trans g53.b
          replace hu0 := Rp.mono g53.b hu0
          replace hu1 := Rp.mono g53.b hu1
          replace hv17 := Rp.mono g53.b hv17
          replace hv39 := Rp.mono g53.b hv39
          replace h50 := Rp.mono g53.b h50
          refine nxt ?_
          cases hm
          exact hn40 _ _ _ ⟨_, _, _, N, eb43, ee44, rfl⟩
      · rintro Be s63 B65 σ H66 hm ⟨W64, _, _, N, eb67, _, rfl⟩
        replace eb21 := eb21.trans eb67
        replace ee22 := ee22.trans eb67
        replace hu0 := Rp.mono eb67 hu0
        replace hu1 := Rp.mono eb67 hu1
        replace hv17 := Rp.mono eb67 hv17
        refine gnx ?_
        obtain ⟨W68, B69, N, eb70, h71⟩ := N.freeze fp30
        replace eb21 := eb21.trans eb70
        replace ee22 := ee22.trans eb70
        replace hu0 := Rp.mono eb70 hu0
        replace hu1 := Rp.mono eb70 hu1
        replace hv17 := Rp.mono eb70 hv17
        refine st_if hm N.ex (ct_test (cp_op r2_gt (cp_cb rc_lenL (ca_cons (cp_var rfl h71) ca_nil)) cp_int)) rfl (fun B72 H73 hc75 hm g74 => ?_) (fun B72 H73 hc75 hm g74 => ?_)
        · replace N := N.pure g74
          replace eb21 := eb21.trans g74.b
          replace ee22 := ee22.trans g74.b
          replace hu0 := Rp.mono g74.b hu0
          replace hu1 := Rp.mono g74.b hu1
          replace hv17 := Rp.mono g74.b hv17
          replace h71 := Rp.mono g74.b h71
          refine st_dropS (K := K) hm N (cs_append ln_r rfl (Cp.s (cp_var rfl h71))) (by first | rfl | simp only [o2, Option.bind_assoc, Option.bind_some]) fun _ s78 W79 B80 H81 hm N eb82 => ?_
          try dsimp only at hm
          replace eb21 := eb21.trans eb82
          replace ee22 := ee22.trans eb82
          replace hu0 := Rp.mono eb82 hu0
          replace hu1 := Rp.mono eb82 hu1
          replace hv17 := Rp.mono eb82 hv17
          replace h71 := Rp.mono eb82 h71
          cases hm
          exact hn18 _ _ _ ⟨_, _, _, _, _, N, eb21, ee22, rfl⟩
        · replace N := N.pure g74
          replace eb21 := eb21.trans g74.b
          replace ee22 := ee22.trans g74.b
          replace hu0 := Rp.mono g74.b hu0
          replace hu1 := Rp.mono g74.b hu1
          replace hv17 := Rp.mono g74.b hv17
          replace h71 := Rp.mono g74.b h71
          refine nxt ?_
          cases hm
          exact hn18 _ _ _ ⟨_, _, _, _, _, N, eb21, ee22, rfl⟩
    · rintro Be s85 B87 σ H88 hm ⟨W86, _, _, _, _, N, eb89, _, rfl⟩
      replace hu0 := Rp.mono eb89 hu0
      replace hu1 := Rp.mono eb89 hu1
      refine gnx ?_
      obtain ⟨W90, B91, N, eb92, h93⟩ := N.freeze fp8
      replace hu0 := Rp.mono eb92 hu0
      replace hu1 := Rp.mono eb92 hu1
      refine st_ret (K := K) hm N.ex (cp_var rfl h93) rfl fun v B1 H1 g hv => ?_
      exact hQ v B1 H1 (N.g.then g) hv
def n_l_made (st0 : (List Int))  : Option ((H3 (List (List Int)) (List Int) (List (List Int))) × (List Int)) :=
 (Option.bind (Option.bind (m_l_rows st0 ()) fun q1 => some (q1.1, q1.2)) fun p22 =>
 (Option.bind (m_l_places p22.1) fun l_places_here10 =>
 (Option.bind (m_l_near l_places_here10) fun l_near_here16 =>
 (Option.bind (Option.bind (o2 (some l_near_here16) (o2 (m_l_doors p22.1 l_places_here10) (o2 (m_l_stations p22.1 l_places_here10) (some ()) fun x y => some (x, y)) fun x y => some (x, y)) fun x y => some (x, y)) fun t => some (H3.mk t.1 t.2.1 t.2.2.1)) fun x => some (x, p22.2)))))
def m_l_made (s : (List Int)) (t : Unit) : Option ((H3 (List (List Int)) (List Int) (List (List Int))) × (List Int)) := n_l_made s 
abbrev s_l_made : Stmt := top 21
theorem sc_l_made : FnScope ["_law_box", "_law_rows_here", "_law_places_here", "_law_near_here"] ["_law_box"] (defScope s_l_made) := ⟨rfl, rfl, rfl, by decide +kernel, rfl, by decide +kernel, by decide +kernel⟩
abbrev sp_l_made (K : Fg) : Sp := spM K (fun pa => (OwBox K pa)) m_l_made
set_option maxHeartbeats 0 in
theorem ok_l_made {f : Addr} {fd : FuncData} (F : FunD K "_law_made" "_law_made" (defArgs s_l_made) (defBody s_l_made) (defScope s_l_made) [] [] f fd) (T : Tx K mg) (c_l_doors : Fc P w K mg base 1 "_law_doors" ["_law_rows_here", "_law_places_here"] (sp_l_doors K)) (c_l_near : Fc P w K mg base 1 "_law_near" ["_law_places_here"] (sp_l_near K)) (c_l_places : Fc P w K mg base 1 "_law_places" ["_law_rows_here"] (sp_l_places K)) (c_l_rows : Fc P w K mg base 3 "_law_rows" ["_law_box"] (sp_l_rows K)) (c_l_stations : Fc P w K mg base 1 "_law_stations" ["_law_rows_here", "_law_places_here"] (sp_l_stations K)) : FnOk P w K mg base CX0 4 f fd ["_law_box"] (sp_l_made K) := by
  have sc := sc_l_made
  refine F.ok sc (fun vs H Q E h => ?_) (fun cdv A outer s H vs Q E hr h => ?_)
  · obtain ⟨pa, us, W0, Bs, st0, t, r, s9, rfl, _, _, _, _, hz, _⟩ := h
    cases hz
    rfl
  · obtain ⟨pa, us, W0, Bs, st0, ⟨⟩, r, s9, rfl, ex, wx, dj, ow, hz, hm, hQ⟩ := h
    cases hz
    replace hm : n_l_made st0  = some (r, s9) := hm
    obtain ⟨Hs, eHs⟩ : ∃ Hs, Hs = H := ⟨_, rfl⟩
    subst eHs
    have N : Now (dom W0) Bs Hs (OwBox K pa) W0 Bs Hs st0 := now0 ex wx dj ow
    unfold n_l_made at hm
    refine ⟨_, PSs.nox (pss_cons (ps_set (i := 1) sc.nd rfl (.inl rfl) (pe_fc c_l_rows hr (by decide) rfl (pa_cons (pv 0) pa_nil))) (pss_cons (ps_set (i := 2) sc.nd rfl (.inl rfl) (pe_fc c_l_places hr (by decide) rfl (pa_cons (pv 1) pa_nil))) (pss_cons (ps_set (i := 3) sc.nd rfl (.inl rfl) (pe_fc c_l_near hr (by decide) rfl (pa_cons (pv 2) pa_nil))) (pss_one (ps_ret (pe_lst (pa_cons (pv 3) (pa_cons (pe_fc c_l_doors hr (by decide) rfl (pa_cons (pv 1) (pa_cons (pv 2) pa_nil))) (pa_cons (pe_fc c_l_stations hr (by decide) rfl (pa_cons (pv 1) (pa_cons (pv 2) pa_nil))) pa_nil))))))))), ?_⟩
    refine sq ?_
    refine st_asgS (K := K) hm N (cs_callM ln_id rfl csa_nil) (by first | rfl | simp only [o2, Option.bind_assoc, Option.bind_some]) fun l_rows_here2 s3 v4 W5 B6 H7 hm N eb8 h9 => ?_
    try dsimp only at hm
    refine gnx ?_
    refine sq ?_
    refine st_asg (K := K) hm N.ex (cp_call0 (ca_cons0 (cp_var rfl h9) ca_nil0)) (by first | rfl | simp only [o2, Option.bind_assoc, Option.bind_some]) fun l_places_here10 v11 B12 H13 _ hm g14 h15 => ?_
    replace N := N.pure g14
    replace h9 := Rp.mono g14.b h9
    refine gnx ?_
    refine sq ?_
    refine st_asg (K := K) hm N.ex (cp_call0 (ca_cons0 (cp_var rfl h15) ca_nil0)) (by first | rfl | simp only [o2, Option.bind_assoc, Option.bind_some]) fun l_near_here16 v17 B18 H19 _ hm g20 h21 => ?_
    replace N := N.pure g20
    replace h9 := Rp.mono g20.b h9
    replace h15 := Rp.mono g20.b h15
    refine gnx ?_
    refine st_retF (K := K) (m' := (Option.bind (o2 (some l_near_here16) (o2 (m_l_doors l_rows_here2 l_places_here10) (o2 (m_l_stations l_rows_here2 l_places_here10) (some ()) fun x y => some (x, y)) fun x y => some (x, y)) fun x y => some (x, y)) fun t => some (H3.mk t.1 t.2.1 t.2.2.1))) hm N.ex (cp_h3 (ca_cons (cp_var rfl h21) (ca_cons (cp_call0 (ca_cons0 (cp_var rfl h9) (ca_cons0 (cp_var rfl h15) ca_nil0))) (ca_cons (cp_call0 (ca_cons0 (cp_var rfl h9) (ca_cons0 (cp_var rfl h15) ca_nil0))) ca_nil)))) (by first | rfl | simp only [o2, Option.bind_assoc, Option.bind_some]) fun x v B1 H1 hm g hv => ?_
    cases hm
    replace N := N.pure g
    exact hQ _ _ _ _ N.sw N.p hv
def m_l_is_int (a_l_x : (Option Int)) : Option Bool :=
 (Option.bind (some (a_l_x.isSome)) fun a => if a = true then (some (!(false))) else some false)
abbrev s_l_is_int : Stmt := top 22
theorem sc_l_is_int : FnScope ["_law_x"] ["_law_x"] (defScope s_l_is_int) := ⟨rfl, rfl, rfl, by decide +kernel, rfl, by decide +kernel, by decide +kernel⟩
abbrev sp_l_is_int (K : Fg) : Sp := spP K (fun t : (Option Int) × Unit => m_l_is_int t.1)
set_option maxHeartbeats 0 in
theorem ok_l_is_int {f : Addr} {fd : FuncData} (F : FunD K "_law_is_int" "_law_is_int" (defArgs s_l_is_int) (defBody s_l_is_int) (defScope s_l_is_int) [] [] f fd) (T : Tx K mg)  : FnOk P w K mg base CX0 1 f fd ["_law_x"] (sp_l_is_int K) := by
  have sc := sc_l_is_int
  refine F.ok sc (fun vs H Q E h => ?_) (fun cdv A outer s H vs Q E hr h => ?_)
  · obtain ⟨Bs, t, r, ex, ⟨u0, _, rfl, hu0, hz⟩, hm, hQ⟩ := h
    cases hz
    rfl
  · obtain ⟨Bs, ⟨a_l_x, ⟨⟩⟩, r, ex, ⟨u0, _, rfl, hu0, hz⟩, hm, hQ⟩ := h
    cases hz
    replace hu0 : rp K Bs u0 a_l_x := hu0
    replace hm : m_l_is_int a_l_x = some r := hm
    obtain ⟨Hs, eHs⟩ : ∃ Hs, Hs = H := ⟨_, rfl⟩
    subst eHs
    have N : Now noM Bs Hs oE emp Bs Hs () := nowE ex
    unfold m_l_is_int at hm
    refine ⟨_, PSs.nox (pss_one (ps_ret (pe_and (pe_callB (call_isiK_ (K := K) rfl) rfl T.free_isinstance boot_isinstance (pa_cons (pv 0) (pa_cons (pe_bltn (v := .ty "int") rfl T.free_int boot_int rfl) pa_nil))) (pe_one (pe_not (pe_callB (call_isiK_ (K := K) rfl) rfl T.free_isinstance boot_isinstance (pa_cons (pv 0) (pa_cons (pe_bltn (v := .ty "bool") rfl T.free_bool boot_bool rfl) pa_nil)))))))), ?_⟩
    refine st_ret (K := K) hm N.ex (cp_andV (cp_isi isi_oint (cp_var rfl hu0)) (cp_notV (cp_isi isi_oint_bool (cp_var rfl hu0)))) (by first | rfl | simp only [o2, Option.bind_assoc, Option.bind_some]) fun v B1 H1 g hv => ?_
    exact hQ v B1 H1 (N.g.then g) hv
def m_l_some_b1 (p_l_many : Int) (p_l_most : Int) (p_l_k : Int) (p_st : ((List Int) × (List Int))) : Option (((List Int) × (List Int))) :=
 (Option.bind (Option.bind (draw p_st.1 (p_l_many, ())) fun q26 => some (q26.1, (q26.2, p_st.2))) fun p50 =>
 (Option.bind (some (((!decide (p50.1 ∈ p50.2.2))), p50.2)) fun b49 => if b49.1 = true then
 (Option.bind (Option.bind (some (p50.1, b49.2)) fun p41 => Option.bind (papp p41.2.2 p41.1) fun q42 => some ((), (p41.2.1, q42))) fun p48 =>
 some (p48.2))
 else
 some (b49.2)))
def n_l_some (st0 : (List Int)) (a_l_many : Int) (a_l_most : Int) : Option ((List Int) × (List Int)) :=
 (Option.bind (some (([] : List Int), st0)) fun p61 =>
 (Option.bind (Option.bind (draw (p61.2, p61.1).1 ((a_l_most + (1 : Int)), ())) fun q10 => some (q10.1, (q10.2, (p61.2, p61.1).2))) fun p51 => Option.bind (Option.bind (some p51.1) fun n => prange1 n) fun xs => Option.bind (forN (fun x (s : ((List Int) × (List Int))) => m_l_some_b1 a_l_many a_l_most x s) xs (p51.2)) fun s52 =>
 (Option.bind (some s52.2) fun x => some (x, s52.1))))
def m_l_some (s : (List Int)) (t : Int × Int × Unit) : Option ((List Int) × (List Int)) := n_l_some s t.1 t.2.1
abbrev s_l_some : Stmt := top 28
theorem sc_l_some : FnScope ["_law_box", "_law_many", "_law_most", "_law_cells", "_law_k", "_law_cell_here"] ["_law_box", "_law_many", "_law_most"] (defScope s_l_some) := ⟨rfl, rfl, rfl, by decide +kernel, rfl, by decide +kernel, by decide +kernel⟩
abbrev sp_l_some (K : Fg) : Sp := spM K (fun pa => (OwBox K pa)) m_l_some
set_option maxHeartbeats 0 in
theorem ok_l_some {f : Addr} {fd : FuncData} (F : FunD K "_law_some" "_law_some" (defArgs s_l_some) (defBody s_l_some) (defScope s_l_some) [] [] f fd) (T : Tx K mg) (c_l_draw : Fc P w K mg base 1 "_law_draw" ["_law_box", "_law_many"] (sp_l_draw K)) : FnOk P w K mg base CX0 2 f fd ["_law_box", "_law_many", "_law_most"] (sp_l_some K) := by
  have sc := sc_l_some
  refine F.ok sc (fun vs H Q E h => ?_) (fun cdv A outer s H vs Q E hr h => ?_)
  · obtain ⟨pa, us, W0, Bs, st0, t, r, s9, rfl, _, _, _, _, ⟨u0, _, rfl, hu0, ⟨u1, _, rfl, hu1, hz⟩⟩, _⟩ := h
    cases hz
    rfl
  · obtain ⟨pa, us, W0, Bs, st0, ⟨a_l_many, a_l_most, ⟨⟩⟩, r, s9, rfl, ex, wx, dj, ow, ⟨u0, _, rfl, hu0, ⟨u1, _, rfl, hu1, hz⟩⟩, hm, hQ⟩ := h
    cases hz
    replace hu0 : rp K Bs u0 a_l_many := hu0
    replace hu1 : rp K Bs u1 a_l_most := hu1
    replace hm : n_l_some st0 a_l_many a_l_most = some (r, s9) := hm
    obtain ⟨Hs, eHs⟩ : ∃ Hs, Hs = H := ⟨_, rfl⟩
    subst eHs
    have N : Now (dom W0) Bs Hs (OwBox K pa) W0 Bs Hs st0 := now0 ex wx dj ow
    unfold n_l_some at hm
    refine ⟨_, PSs.nox (pss_cons (ps_set (i := 3) sc.nd rfl (.inl rfl) (pe_lst pa_nil)) (pss_cons (ps_for PassesOwn.never rfl (pi_range1 rfl T.free_range (pa_cons (pe_fc c_l_draw hr (by decide) rfl (pa_cons (pv 0) (pa_cons (pe_op op_add (pv 2) pe_int) pa_nil))) pa_nil)) (pg_name (i := 4) sc.nd rfl (.inl rfl)) (pss_cons (ps_set (i := 5) sc.nd rfl (.inl rfl) (pe_fc c_l_draw hr (by decide) rfl (pa_cons (pv 0) (pa_cons (pv 1) pa_nil)))) (pss_one (ps_if (pt_cmpR (op_notIn_seqK (K := K) rfl) (pv 5) (pv 3) rfl) (pss_one (ps_expr (pe_bm PySem.F.plainAttrs_list PySem.F.slot_list_append PySem.F.type_list_append mt_append (pv 3) (pa_cons (pv 5) pa_nil)))) pss_nil)))) (pss_one (ps_ret (pv 3))))), ?_⟩
    refine sq ?_
    refine st_asgL (K := K) hm N (Co.s (co_nil (α := Int))) (by first | rfl | simp only [o2, Option.bind_assoc, Option.bind_some]) fun l_cells1 s2 pl3 W4 B5 H6 hm N eb7 fp8 => ?_
    replace hu0 := Rp.mono eb7 hu0
    replace hu1 := Rp.mono eb7 hu1
    try dsimp only at hm
    refine gnx ?_
    refine sq ?_
    refine st_forN_r1S (K := K) (fun Be (s : ((List Int) × (List Int))) B σ H => ∃ (W : Hp) (o4 : Option V) (o5 : Option V), Now (dom W0) Bs Hs (star (OwBox K pa) (OwL (α := Int) K pl3)) W B H s ∧ Ex B5 B ∧ Ex Be B ∧ σ = [some (.ref pa), some u0, some u1, some (.ref pl3), o4, o5]) hm N (cs_callM ln_l rfl (csa_cons (Cp.s (cp_op r2_add (cp_var rfl hu1) cp_int)) csa_nil)) (by first | rfl | simp only [o2, Option.bind_assoc, Option.bind_some]) (fun Be H1 W1 _ s1 N eb => ⟨W1, _, _, N, eb, Ex.refl _, rfl⟩) ?_ ?_
    · rintro Be x11 s12 B14 σ H15 v16 c17 N18 ⟨W13, _, _, N, eb23, ee24, rfl⟩ hv19 hm hn20
      unfold m_l_some_b1 at hm
      replace hu0 := Rp.mono eb23 hu0
      replace hu1 := Rp.mono eb23 hu1
      refine gnm ?_
      refine sq ?_
      refine st_asgS (K := K) hm N (cs_callM ln_l rfl (csa_cons (Cp.s (cp_var rfl hu0)) csa_nil)) (by first | rfl | simp only [o2, Option.bind_assoc, Option.bind_some]) fun l_cell_here27 s28 v29 W30 B31 H32 hm N eb33 h34 => ?_
      try dsimp only at hm
      replace eb23 := eb23.trans eb33
      replace ee24 := ee24.trans eb33
      replace hu0 := Rp.mono eb33 hu0
      replace hu1 := Rp.mono eb33 hu1
      replace hv19 := Rp.mono eb33 hv19
      refine gnx ?_
      refine st_ifS hm N (cst_view fun W1 B1 s e1 d1 hP => (ct_test (cp_op r2_ninL (cp_var rfl (Rp.mono (e1.trans (ex_uni_r d1)) h34)) (cp_var rfl (ol_rp ln_r hP d1))))) (by first | rfl | simp only [o2, Option.bind_assoc, Option.bind_some]) (fun s35 W36 B37 H38 hc39 hm N eb40 => ?_) (fun s35 W36 B37 H38 hc39 hm N eb40 => ?_)
      · try dsimp only at hm
        replace eb23 := eb23.trans eb40
        replace ee24 := ee24.trans eb40
        replace hu0 := Rp.mono eb40 hu0
        replace hu1 := Rp.mono eb40 hu1
        replace hv19 := Rp.mono eb40 hv19
        replace h34 := Rp.mono eb40 h34
        refine st_dropS (K := K) hm N (cs_append ln_r rfl (Cp.s (cp_var rfl h34))) (by first | rfl | simp only [o2, Option.bind_assoc, Option.bind_some]) fun _ s43 W44 B45 H46 hm N eb47 => ?_
        try dsimp only at hm
        replace eb23 := eb23.trans eb47
        replace ee24 := ee24.trans eb47
        replace hu0 := Rp.mono eb47 hu0
        replace hu1 := Rp.mono eb47 hu1
        replace hv19 := Rp.mono eb47 hv19
        replace h34 := Rp.mono eb47 h34
        cases hm
        exact hn20 _ _ _ ⟨_, _, _, N, eb23, ee24, rfl⟩
      · try dsimp only at hm
        replace eb23 := eb23.trans eb40
        replace ee24 := ee24.trans eb40
        replace hu0 := Rp.mono eb40 hu0
        replace hu1 := Rp.mono eb40 hu1
        replace hv19 := Rp.mono eb40 hv19
        replace h34 := Rp.mono eb40 h34
        refine nxt ?_
        cases hm
        exact hn20 _ _ _ ⟨_, _, _, N, eb23, ee24, rfl⟩
    · rintro Be s52 B54 σ H55 hm ⟨W53, _, _, N, eb56, _, rfl⟩
      replace hu0 := Rp.mono eb56 hu0
      replace hu1 := Rp.mono eb56 hu1
      refine gnx ?_
      obtain ⟨W57, B58, N, eb59, h60⟩ := N.freeze fp8
      replace hu0 := Rp.mono eb59 hu0
      replace hu1 := Rp.mono eb59 hu1
      refine st_retF (K := K) (m' := (some s52.2)) hm N.ex (cp_var rfl h60) rfl fun x v B1 H1 hm g hv => ?_
      cases hm
      replace N := N.pure g
      exact hQ _ _ _ _ N.sw N.p hv
def m_l_around (a_l_near_here : (List (List Int))) (a_l_doors_here : (List Int)) (a_l_position : Int) : Option (List Int) :=
 (Option.bind (some ((decide (a_l_position = ((a_l_near_here.length : Int)))))) fun b => if b = true then
 (some a_l_doors_here)
 else
 (Option.bind (some ((decide (a_l_position ∈ a_l_doors_here)))) fun b => if b = true then
 (Option.bind (at? a_l_near_here a_l_position) fun x => Option.bind (plst [((a_l_near_here.length : Int))]) fun y => plst (x ++ y))
 else
 (at? a_l_near_here a_l_position)))
abbrev s_l_around : Stmt := top 29
theorem sc_l_around : FnScope ["_law_near_here", "_law_doors_here", "_law_position"] ["_law_near_here", "_law_doors_here", "_law_position"] (defScope s_l_around) := ⟨rfl, rfl, rfl, by decide +kernel, rfl, by decide +kernel, by decide +kernel⟩
abbrev sp_l_around (K : Fg) : Sp := spP K (fun t : (List (List Int)) × (List Int) × Int × Unit => m_l_around t.1 t.2.1 t.2.2.1)
set_option maxHeartbeats 0 in
theorem ok_l_around {f : Addr} {fd : FuncData} (F : FunD K "_law_around" "_law_around" (defArgs s_l_around) (defBody s_l_around) (defScope s_l_around) [] [] f fd) (T : Tx K mg)  : FnOk P w K mg base CX0 1 f fd ["_law_near_here", "_law_doors_here", "_law_position"] (sp_l_around K) := by
  have sc := sc_l_around
  refine F.ok sc (fun vs H Q E h => ?_) (fun cdv A outer s H vs Q E hr h => ?_)
  · obtain ⟨Bs, t, r, ex, ⟨u0, _, rfl, hu0, ⟨u1, _, rfl, hu1, ⟨u2, _, rfl, hu2, hz⟩⟩⟩, hm, hQ⟩ := h
    cases hz
    rfl
  · obtain ⟨Bs, ⟨a_l_near_here, a_l_doors_here, a_l_position, ⟨⟩⟩, r, ex, ⟨u0, _, rfl, hu0, ⟨u1, _, rfl, hu1, ⟨u2, _, rfl, hu2, hz⟩⟩⟩, hm, hQ⟩ := h
    cases hz
    replace hu0 : rp K Bs u0 a_l_near_here := hu0
    replace hu1 : rp K Bs u1 a_l_doors_here := hu1
    replace hu2 : rp K Bs u2 a_l_position := hu2
    replace hm : m_l_around a_l_near_here a_l_doors_here a_l_position = some r := hm
    obtain ⟨Hs, eHs⟩ : ∃ Hs, Hs = H := ⟨_, rfl⟩
    subst eHs
    have N : Now noM Bs Hs oE emp Bs Hs () := nowE ex
    unfold m_l_around at hm
    refine ⟨_, PSs.nox (pss_cons (ps_if (pt_cmpR op_eq (pv 2) (pe_callB (call_len_K (K := K) rfl) rfl T.free_len boot_len (pa_cons (pv 0) pa_nil)) (nomark _)) (pss_one (ps_ret (pv 1))) pss_nil) (pss_cons (ps_if (pt_cmpR (op_in_seqK (K := K) rfl) (pv 2) (pv 1) rfl) (pss_one (ps_ret (pe_op op_cat (pe_ix (ix_listK (K := K) rfl) (pv 0) (pv 2) (fun _ _ => rfl)) (pe_lst (pa_cons (pe_callB (call_len_K (K := K) rfl) rfl T.free_len boot_len (pa_cons (pv 0) pa_nil)) pa_nil))))) pss_nil) (pss_one (ps_ret (pe_ix (ix_listK (K := K) rfl) (pv 0) (pv 2) (fun _ _ => rfl)))))), ?_⟩
    refine sq ?_
    refine st_if hm N.ex (ct_test (cp_op r2_eq (cp_var rfl hu2) (cp_cb rc_lenL (ca_cons (cp_var rfl hu0) ca_nil)))) rfl (fun B1 H2 hc4 hm g3 => ?_) (fun B1 H2 hc4 hm g3 => ?_)
    · replace N := N.pure g3
      replace hu0 := Rp.mono g3.b hu0
      replace hu1 := Rp.mono g3.b hu1
      replace hu2 := Rp.mono g3.b hu2
      refine st_ret (K := K) hm N.ex (cp_var rfl hu1) rfl fun v B1 H1 g hv => ?_
      exact hQ v B1 H1 (N.g.then g) hv
    · replace N := N.pure g3
      replace hu0 := Rp.mono g3.b hu0
      replace hu1 := Rp.mono g3.b hu1
      replace hu2 := Rp.mono g3.b hu2
      refine nxt ?_
      refine gnx ?_
      refine sq ?_
      refine st_if hm N.ex (ct_test (cp_op r2_inL (cp_var rfl hu2) (cp_var rfl hu1))) rfl (fun B5 H6 hc8 hm g7 => ?_) (fun B5 H6 hc8 hm g7 => ?_)
      · replace N := N.pure g7
        replace hu0 := Rp.mono g7.b hu0
        replace hu1 := Rp.mono g7.b hu1
        replace hu2 := Rp.mono g7.b hu2
        refine st_ret (K := K) hm N.ex (Co.cp (co_cat (cp_op r2_ixL (cp_var rfl hu0) (cp_var rfl hu2)) (Co.cp (co_lst (Cl.cons (cp_cb rc_lenL (ca_cons (cp_var rfl hu0) ca_nil)) Cl.nil))))) (by first | rfl | simp only [o2, Option.bind_assoc, Option.bind_some]) fun v B1 H1 g hv => ?_
        exact hQ v B1 H1 (N.g.then g) hv
      · replace N := N.pure g7
        replace hu0 := Rp.mono g7.b hu0
        replace hu1 := Rp.mono g7.b hu1
        replace hu2 := Rp.mono g7.b hu2
        refine nxt ?_
        refine gnx ?_
        refine st_ret (K := K) hm N.ex (cp_op r2_ixL (cp_var rfl hu0) (cp_var rfl hu2)) (by first | rfl | simp only [o2, Option.bind_assoc, Option.bind_some]) fun v B1 H1 g hv => ?_
        exact hQ v B1 H1 (N.g.then g) hv
def n_Floor___init__ (a_near : (List (List Int))) (a_doors : (List Int)) (a_stations : (List (List Int))) (a_places : (List (Int × Int))) : Option ((List (List Int)) × Int × Int × (List Int) × (List (List Int)) × (List (Int × Int)) × Unit) :=
 (Option.bind (Option.bind (some a_near) fun xs => Option.bind (pbig xs) fun xs => lcF (fun x_row => (some true)) (fun x_row => (some x_row)) xs) fun x1 =>
 (Option.bind (some ((((x1, ()).1.length : Int)), (x1, ()))) fun p38 =>
 (Option.bind (some ((((p38.2.1, (p38.1, ())).1.length : Int)), (p38.2.1, (p38.1, ())))) fun p37 =>
 (Option.bind (some a_doors) fun x19 =>
 (Option.bind (Option.bind (some a_stations) fun xs => Option.bind (pbig xs) fun xs => lcF (fun x_row => (some true)) (fun x_row => (some x_row)) xs) fun x25 =>
 (Option.bind (Option.bind (some a_places) fun xs => Option.bind (pbig xs) fun xs => lcF (fun x_row => (some true)) (fun x_row => (some (x_row.1, x_row.2))) xs) fun x31 =>
 some ((((p37.2.1, (p37.2.2.1, (p37.1, ()))).1, ((p37.2.1, (p37.2.2.1, (p37.1, ()))).2.1, ((p37.2.1, (p37.2.2.1, (p37.1, ()))).2.2.1, (x19, ())))).1, (((p37.2.1, (p37.2.2.1, (p37.1, ()))).1, ((p37.2.1, (p37.2.2.1, (p37.1, ()))).2.1, ((p37.2.1, (p37.2.2.1, (p37.1, ()))).2.2.1, (x19, ())))).2.1, (((p37.2.1, (p37.2.2.1, (p37.1, ()))).1, ((p37.2.1, (p37.2.2.1, (p37.1, ()))).2.1, ((p37.2.1, (p37.2.2.1, (p37.1, ()))).2.2.1, (x19, ())))).2.2.1, (((p37.2.1, (p37.2.2.1, (p37.1, ()))).1, ((p37.2.1, (p37.2.2.1, (p37.1, ()))).2.1, ((p37.2.1, (p37.2.2.1, (p37.1, ()))).2.2.1, (x19, ())))).2.2.2.1, (x25, ()))))).1, ((((p37.2.1, (p37.2.2.1, (p37.1, ()))).1, ((p37.2.1, (p37.2.2.1, (p37.1, ()))).2.1, ((p37.2.1, (p37.2.2.1, (p37.1, ()))).2.2.1, (x19, ())))).1, (((p37.2.1, (p37.2.2.1, (p37.1, ()))).1, ((p37.2.1, (p37.2.2.1, (p37.1, ()))).2.1, ((p37.2.1, (p37.2.2.1, (p37.1, ()))).2.2.1, (x19, ())))).2.1, (((p37.2.1, (p37.2.2.1, (p37.1, ()))).1, ((p37.2.1, (p37.2.2.1, (p37.1, ()))).2.1, ((p37.2.1, (p37.2.2.1, (p37.1, ()))).2.2.1, (x19, ())))).2.2.1, (((p37.2.1, (p37.2.2.1, (p37.1, ()))).1, ((p37.2.1, (p37.2.2.1, (p37.1, ()))).2.1, ((p37.2.1, (p37.2.2.1, (p37.1, ()))).2.2.1, (x19, ())))).2.2.2.1, (x25, ()))))).2.1, ((((p37.2.1, (p37.2.2.1, (p37.1, ()))).1, ((p37.2.1, (p37.2.2.1, (p37.1, ()))).2.1, ((p37.2.1, (p37.2.2.1, (p37.1, ()))).2.2.1, (x19, ())))).1, (((p37.2.1, (p37.2.2.1, (p37.1, ()))).1, ((p37.2.1, (p37.2.2.1, (p37.1, ()))).2.1, ((p37.2.1, (p37.2.2.1, (p37.1, ()))).2.2.1, (x19, ())))).2.1, (((p37.2.1, (p37.2.2.1, (p37.1, ()))).1, ((p37.2.1, (p37.2.2.1, (p37.1, ()))).2.1, ((p37.2.1, (p37.2.2.1, (p37.1, ()))).2.2.1, (x19, ())))).2.2.1, (((p37.2.1, (p37.2.2.1, (p37.1, ()))).1, ((p37.2.1, (p37.2.2.1, (p37.1, ()))).2.1, ((p37.2.1, (p37.2.2.1, (p37.1, ()))).2.2.1, (x19, ())))).2.2.2.1, (x25, ()))))).2.2.1, ((((p37.2.1, (p37.2.2.1, (p37.1, ()))).1, ((p37.2.1, (p37.2.2.1, (p37.1, ()))).2.1, ((p37.2.1, (p37.2.2.1, (p37.1, ()))).2.2.1, (x19, ())))).1, (((p37.2.1, (p37.2.2.1, (p37.1, ()))).1, ((p37.2.1, (p37.2.2.1, (p37.1, ()))).2.1, ((p37.2.1, (p37.2.2.1, (p37.1, ()))).2.2.1, (x19, ())))).2.1, (((p37.2.1, (p37.2.2.1, (p37.1, ()))).1, ((p37.2.1, (p37.2.2.1, (p37.1, ()))).2.1, ((p37.2.1, (p37.2.2.1, (p37.1, ()))).2.2.1, (x19, ())))).2.2.1, (((p37.2.1, (p37.2.2.1, (p37.1, ()))).1, ((p37.2.1, (p37.2.2.1, (p37.1, ()))).2.1, ((p37.2.1, (p37.2.2.1, (p37.1, ()))).2.2.1, (x19, ())))).2.2.2.1, (x25, ()))))).2.2.2.1, ((((p37.2.1, (p37.2.2.1, (p37.1, ()))).1, ((p37.2.1, (p37.2.2.1, (p37.1, ()))).2.1, ((p37.2.1, (p37.2.2.1, (p37.1, ()))).2.2.1, (x19, ())))).1, (((p37.2.1, (p37.2.2.1, (p37.1, ()))).1, ((p37.2.1, (p37.2.2.1, (p37.1, ()))).2.1, ((p37.2.1, (p37.2.2.1, (p37.1, ()))).2.2.1, (x19, ())))).2.1, (((p37.2.1, (p37.2.2.1, (p37.1, ()))).1, ((p37.2.1, (p37.2.2.1, (p37.1, ()))).2.1, ((p37.2.1, (p37.2.2.1, (p37.1, ()))).2.2.1, (x19, ())))).2.2.1, (((p37.2.1, (p37.2.2.1, (p37.1, ()))).1, ((p37.2.1, (p37.2.2.1, (p37.1, ()))).2.1, ((p37.2.1, (p37.2.2.1, (p37.1, ()))).2.2.1, (x19, ())))).2.2.2.1, (x25, ()))))).2.2.2.2.1, (x31, ()))))))))))))
def m_Floor___init__ (t : (List (List Int)) × (List Int) × (List (List Int)) × (List (Int × Int)) × Unit) : Option ((List (List Int)) × Int × Int × (List Int) × (List (List Int)) × (List (Int × Int)) × Unit) := n_Floor___init__ t.1 t.2.1 t.2.2.1 t.2.2.2.1
abbrev s_Floor___init__ : Stmt := inClass (top 5) 0
theorem sc_Floor___init__ : FnScope ["self", "near", "doors", "stations", "places", "row", "column"] ["self", "near", "doors", "stations", "places"] (defScope s_Floor___init__) := ⟨rfl, rfl, rfl, by decide +kernel, rfl, by decide +kernel, by decide +kernel⟩
abbrev sp_Floor___init__ (K : Fg) : Sp := spI K "Floor" (OwRec (τ := ((List (List Int)) × Int × Int × (List Int) × (List (List Int)) × (List (Int × Int)) × Unit)) K "Floor" nm_Floor) m_Floor___init__
set_option maxHeartbeats 0 in
theorem ok_Floor___init__ {f : Addr} {fd : FuncData} (F : FunD K "__init__" "Floor.__init__" (defArgs s_Floor___init__) (defBody s_Floor___init__) (defScope s_Floor___init__) [] [] f fd) (T : Tx K mg)  : FnOk P w K mg base CX0 1 f fd ["self", "near", "doors", "stations", "places"] (sp_Floor___init__ K) := by
  have sc := sc_Floor___init__
  refine F.ok sc (fun vs H Q E h => ?_) (fun cdv A outer s H vs Q E hr h => ?_)
  · obtain ⟨pa, us, dxa, Bs, t, s9, rfl, _, _, _, _, _, _, ⟨u0, _, rfl, hu0, ⟨u1, _, rfl, hu1, ⟨u2, _, rfl, hu2, ⟨u3, _, rfl, hu3, hz⟩⟩⟩⟩, _⟩ := h
    cases hz
    rfl
  · obtain ⟨pa, us, dxa, Bs, ⟨a_near, a_doors, a_stations, a_places, ⟨⟩⟩, s9, rfl, ha, hdx, ne, ex, nb, nd, ⟨u0, _, rfl, hu0, ⟨u1, _, rfl, hu1, ⟨u2, _, rfl, hu2, ⟨u3, _, rfl, hu3, hz⟩⟩⟩⟩, hm, hQ⟩ := h
    cases hz
    replace hu0 : rp K Bs u0 a_near := hu0
    replace hu1 : rp K Bs u1 a_doors := hu1
    replace hu2 : rp K Bs u2 a_stations := hu2
    replace hu3 : rp K Bs u3 a_places := hu3
    replace hm : n_Floor___init__ a_near a_doors a_stations a_places = some s9 := hm
    obtain ⟨Hs, eHs⟩ : ∃ Hs, Hs = H := ⟨_, rfl⟩
    subst eHs
    have N := now_init (K := K) (C := "Floor") ex ha nb
    unfold n_Floor___init__ at hm
    refine ⟨_, PSs.nox (pss_cons (ps_fld (pv 0) (pe_lc (own := [("row", 5)]) (g := gName 5) (tt := tYes) rfl sc.nd (pi_list (pv 1)) (blkOk_by (N := ["self", "near", "doors", "stations", "places", "row", "column"]) (sc := defScope s_Floor___init__) (by decide +kernel)) (fun _ _ _ _ _ => pg_name (i := 5) sc.nd rfl (Or.inl rfl)) (fun _ _ _ _ _ => pts_nil) (fun _ _ _ _ _ => (pe_callTy (call_list_ofK (K := K) rfl) rfl T.free_list boot_list (pa_cons (pv 5) pa_nil)))) rfl) (pss_cons (ps_fld (pv 0) (pe_callB (call_len_K (K := K) rfl) rfl T.free_len boot_len (pa_cons (pe_fldK (K := K) rfl (pv 0) rfl) pa_nil)) rfl) (pss_cons (ps_fld (pv 0) (pe_callB (call_len_K (K := K) rfl) rfl T.free_len boot_len (pa_cons (pe_fldK (K := K) rfl (pv 0) rfl) pa_nil)) rfl) (pss_cons (ps_fld (pv 0) (pe_callTy (call_list_ofK (K := K) rfl) rfl T.free_list boot_list (pa_cons (pv 2) pa_nil)) rfl) (pss_cons (ps_fld (pv 0) (pe_lc (own := [("row", 5)]) (g := gName 5) (tt := tYes) rfl sc.nd (pi_list (pv 3)) (blkOk_by (N := ["self", "near", "doors", "stations", "places", "row", "column"]) (sc := defScope s_Floor___init__) (by decide +kernel)) (fun _ _ _ _ _ => pg_name (i := 5) sc.nd rfl (Or.inl rfl)) (fun _ _ _ _ _ => pts_nil) (fun _ _ _ _ _ => (pe_callTy (call_list_ofK (K := K) rfl) rfl T.free_list boot_list (pa_cons (pv 5) pa_nil)))) rfl) (pss_one (ps_fld (pv 0) (pe_lc (own := [("row", 5), ("column", 6)]) (g := gTup K 2 (gCons (gName 5) (gCons (gName 6) gNil))) (tt := tYes) rfl sc.nd (pi_list (pv 4)) (blkOk_by (N := ["self", "near", "doors", "stations", "places", "row", "column"]) (sc := defScope s_Floor___init__) (by decide +kernel)) (fun _ _ _ _ _ => (pg_tup rfl (pgs_cons (pg_name (i := 5) sc.nd rfl (Or.inl rfl)) (pgs_cons (pg_name (i := 6) sc.nd rfl (Or.inl rfl)) pgs_nil)))) (fun _ _ _ _ _ => pts_nil) (fun _ _ _ _ _ => (pe_tup (pa_cons (pv 5) (pa_cons (pv 6) pa_nil))))) rfl))))))), ?_⟩
    refine sq ?_
    refine st_addF (K := K) (nm := []) (nm' := ["near"]) (ad_nil) (by decide) rfl T.cls_Floor T.noat_Floor_near hm N (Co.cp (co_lcL (t := fun x_row => (some true)) (f := fun x_row => (some x_row)) (cp_var rfl hu0) fun x_row B1x vx ebx hx => ⟨_, fun _ _ _ hq => hq, rfl, (ct_yes).to (by first | rfl | simp only [o2, Option.bind_assoc, Option.bind_some]), ((Co.cp (co_listof (cp_var rfl hx)))).to (by first | rfl | simp only [o2, Option.bind_assoc, Option.bind_some])⟩)) (by first | rfl | simp only [o2, Option.bind_assoc, Option.bind_some]) fun x1 W2 B3 H4 hm N eb5 => ?_
    replace hu0 := Rp.mono eb5 hu0
    replace hu1 := Rp.mono eb5 hu1
    replace hu2 := Rp.mono eb5 hu2
    replace hu3 := Rp.mono eb5 hu3
    refine gnx ?_
    refine sq ?_
    refine st_addFS (K := K) (nm := ["near"]) (nm' := ["near", "size"]) (ad_cons (ad_nil)) (by decide) rfl T.cls_Floor T.noat_Floor_size hm N (cs_view fun W1 B1 s e1 d1 hP => (cp_cb rc_lenL (ca_cons (cp_recfld ln_id (fd_here) rfl T.cls_Floor T.noat_Floor_near hP d1) ca_nil))) (by first | rfl | simp only [o2, Option.bind_assoc, Option.bind_some]) fun x7 s12 W8 B9 H10 hm N eb11 => ?_
    replace hu0 := Rp.mono eb11 hu0
    replace hu1 := Rp.mono eb11 hu1
    replace hu2 := Rp.mono eb11 hu2
    replace hu3 := Rp.mono eb11 hu3
    try dsimp only at hm
    refine gnx ?_
    refine sq ?_
    refine st_addFS (K := K) (nm := ["near", "size"]) (nm' := ["near", "size", "depot"]) (ad_cons (ad_cons (ad_nil))) (by decide) rfl T.cls_Floor T.noat_Floor_depot hm N (cs_view fun W1 B1 s e1 d1 hP => (cp_cb rc_lenL (ca_cons (cp_recfld ln_id (fd_here) rfl T.cls_Floor T.noat_Floor_near hP d1) ca_nil))) (by first | rfl | simp only [o2, Option.bind_assoc, Option.bind_some]) fun x13 s18 W14 B15 H16 hm N eb17 => ?_
    replace hu0 := Rp.mono eb17 hu0
    replace hu1 := Rp.mono eb17 hu1
    replace hu2 := Rp.mono eb17 hu2
    replace hu3 := Rp.mono eb17 hu3
    try dsimp only at hm
    refine gnx ?_
    refine sq ?_
    refine st_addF (K := K) (nm := ["near", "size", "depot"]) (nm' := ["near", "size", "depot", "doors"]) (ad_cons (ad_cons (ad_cons (ad_nil)))) (by decide) rfl T.cls_Floor T.noat_Floor_doors hm N (Co.cp (co_listof (cp_var rfl hu1))) rfl fun x19 W20 B21 H22 hm N eb23 => ?_
    replace hu0 := Rp.mono eb23 hu0
    replace hu1 := Rp.mono eb23 hu1
    replace hu2 := Rp.mono eb23 hu2
    replace hu3 := Rp.mono eb23 hu3
    refine gnx ?_
    refine sq ?_
    refine st_addF (K := K) (nm := ["near", "size", "depot", "doors"]) (nm' := ["near", "size", "depot", "doors", "stations"]) (ad_cons (ad_cons (ad_cons (ad_cons (ad_nil))))) (by decide) rfl T.cls_Floor T.noat_Floor_stations hm N (Co.cp (co_lcL (t := fun x_row => (some true)) (f := fun x_row => (some x_row)) (cp_var rfl hu2) fun x_row B1x vx ebx hx => ⟨_, fun _ _ _ hq => hq, rfl, (ct_yes).to (by first | rfl | simp only [o2, Option.bind_assoc, Option.bind_some]), ((Co.cp (co_listof (cp_var rfl hx)))).to (by first | rfl | simp only [o2, Option.bind_assoc, Option.bind_some])⟩)) (by first | rfl | simp only [o2, Option.bind_assoc, Option.bind_some]) fun x25 W26 B27 H28 hm N eb29 => ?_
    replace hu0 := Rp.mono eb29 hu0
    replace hu1 := Rp.mono eb29 hu1
    replace hu2 := Rp.mono eb29 hu2
    replace hu3 := Rp.mono eb29 hu3
    refine gnx ?_
    refine st_addF (K := K) (nm := ["near", "size", "depot", "doors", "stations"]) (nm' := ["near", "size", "depot", "doors", "stations", "places"]) (ad_cons (ad_cons (ad_cons (ad_cons (ad_cons (ad_nil)))))) (by decide) rfl T.cls_Floor T.noat_Floor_places hm N (Co.cp (co_lcL (t := fun x_row => (some true)) (f := fun x_row => (some (x_row.1, x_row.2))) (cp_var rfl hu3) fun x_row B1x vx ebx hx => (by obtain ⟨ax, vx1, vx2, ex0, sx, hx1, hx2⟩ := hx; exact ⟨_, fun _ _ e9 hq => ⟨ax, [vx1, vx2], ex0, sqt_mono e9 sx, rfl, vx1, [vx2], rfl, vx2, [], rfl, rfl, hq⟩, rfl, (ct_yes).to (by first | rfl | simp only [o2, Option.bind_assoc, Option.bind_some]), ((cp_tup2 (ca_cons (cp_var rfl hx1) (ca_cons (cp_var rfl hx2) ca_nil)))).to (by first | rfl | simp only [o2, Option.bind_assoc, Option.bind_some])⟩))) (by first | rfl | simp only [o2, Option.bind_assoc, Option.bind_some]) fun x31 W32 B33 H34 hm N eb35 => ?_
    replace hu0 := Rp.mono eb35 hu0
    replace hu1 := Rp.mono eb35 hu1
    replace hu2 := Rp.mono eb35 hu2
    replace hu3 := Rp.mono eb35 hu3
    cases hm
    exact hQ _ _ _ N.sw N.p
def m_Floor_around (a_self : KFloor) (a_position : Int) : Option (List Int) :=
 (Option.bind (some ((decide (a_position = a_self.v.2.2.1)))) fun b => if b = true then
 (some a_self.v.2.2.2.1)
 else
 (Option.bind (Option.bind (at? a_self.v.1 a_position) fun x => some (x, ())) fun p51 =>
 (Option.bind (Option.bind (some ((decide (a_position ∈ a_self.v.2.2.2.1)))) fun b50 => if b50 = true then
 (Option.bind (Option.bind (some (a_self.v.2.2.1, (p51.2, p51.1))) fun p23 => Option.bind (papp p23.2.2 p23.1) fun q24 => some ((), (p23.2.1, q24))) fun p30 =>
 (some (p30.2)))
 else
 (some ((p51.2, p51.1)))) fun z41 =>
 (some z41.2))))
abbrev s_Floor_around : Stmt := inClass (top 5) 1
theorem sc_Floor_around : FnScope ["self", "position", "row"] ["self", "position"] (defScope s_Floor_around) := ⟨rfl, rfl, rfl, by decide +kernel, rfl, by decide +kernel, by decide +kernel⟩
abbrev sp_Floor_around (K : Fg) : Sp := spP K (fun t : KFloor × Int × Unit => m_Floor_around t.1 t.2.1)
set_option maxHeartbeats 0 in
theorem ok_Floor_around {f : Addr} {fd : FuncData} (F : FunD K "around" "Floor.around" (defArgs s_Floor_around) (defBody s_Floor_around) (defScope s_Floor_around) [] [] f fd) (T : Tx K mg)  : FnOk P w K mg base CX0 1 f fd ["self", "position"] (sp_Floor_around K) := by
  have sc := sc_Floor_around
  refine F.ok sc (fun vs H Q E h => ?_) (fun cdv A outer s H vs Q E hr h => ?_)
  · obtain ⟨Bs, t, r, ex, ⟨u0, _, rfl, hu0, ⟨u1, _, rfl, hu1, hz⟩⟩, hm, hQ⟩ := h
    cases hz
    rfl
  · obtain ⟨Bs, ⟨a_self, a_position, ⟨⟩⟩, r, ex, ⟨u0, _, rfl, hu0, ⟨u1, _, rfl, hu1, hz⟩⟩, hm, hQ⟩ := h
    cases hz
    replace hu0 : rp K Bs u0 a_self := hu0
    replace hu1 : rp K Bs u1 a_position := hu1
    replace hm : m_Floor_around a_self a_position = some r := hm
    obtain ⟨Hs, eHs⟩ : ∃ Hs, Hs = H := ⟨_, rfl⟩
    subst eHs
    have N : Now noM Bs Hs oE emp Bs Hs () := nowE ex
    unfold m_Floor_around at hm
    refine ⟨_, PSs.nox (pss_cons (ps_if (pt_cmpR op_eq (pv 1) (pe_fldK (K := K) rfl (pv 0) rfl) (nomark _)) (pss_one (ps_ret (pe_callTy (call_list_ofK (K := K) rfl) rfl T.free_list boot_list (pa_cons (pe_fldK (K := K) rfl (pv 0) rfl) pa_nil)))) pss_nil) (pss_cons (ps_set (i := 2) sc.nd rfl (.inl rfl) (pe_callTy (call_list_ofK (K := K) rfl) rfl T.free_list boot_list (pa_cons (pe_ix (ix_listK (K := K) rfl) (pe_fldK (K := K) rfl (pv 0) rfl) (pv 1) (fun _ _ => rfl)) pa_nil))) (pss_cons (ps_if (pt_cmpR (op_in_seqK (K := K) rfl) (pv 1) (pe_fldK (K := K) rfl (pv 0) rfl) rfl) (pss_one (ps_expr (pe_bm PySem.F.plainAttrs_list PySem.F.slot_list_append PySem.F.type_list_append mt_append (pv 2) (pa_cons (pe_fldK (K := K) rfl (pv 0) rfl) pa_nil)))) pss_nil) (pss_one (ps_ret (pv 2)))))), ?_⟩
    refine sq ?_
    refine st_if hm N.ex (ct_test (cp_op r2_eq (cp_var rfl hu1) (cp_kfld fd_Floor_depot T.cls_Floor T.noat_Floor_depot (cp_var rfl hu0)))) rfl (fun B1 H2 hc4 hm g3 => ?_) (fun B1 H2 hc4 hm g3 => ?_)
    · replace N := N.pure g3
      replace hu0 := Rp.mono g3.b hu0
      replace hu1 := Rp.mono g3.b hu1
      refine st_ret (K := K) hm N.ex (Co.cp (co_listof (cp_kfld fd_Floor_doors T.cls_Floor T.noat_Floor_doors (cp_var rfl hu0)))) rfl fun v B1 H1 g hv => ?_
      exact hQ v B1 H1 (N.g.then g) hv
    · replace N := N.pure g3
      replace hu0 := Rp.mono g3.b hu0
      replace hu1 := Rp.mono g3.b hu1
      refine nxt ?_
      refine gnx ?_
      refine sq ?_
      refine st_asgL (K := K) hm N (Co.s (co_listof (cp_op r2_ixL (cp_kfld fd_Floor_near T.cls_Floor T.noat_Floor_near (cp_var rfl hu0)) (cp_var rfl hu1)))) (by first | rfl | simp only [o2, Option.bind_assoc, Option.bind_some]) fun row5 s6 pl7 W8 B9 H10 hm N eb11 fp12 => ?_
      replace hu0 := Rp.mono eb11 hu0
      replace hu1 := Rp.mono eb11 hu1
      try dsimp only at hm
      refine gnx ?_
      refine sq ?_
      refine st_ifJ hm (fun (z : (Unit × (List Int))) σ H => ∃ (W B : Hp), Now noM Bs Hs (star oE (OwL (α := Int) K pl7)) W B H z ∧ Ex B9 B ∧ σ = [some u0, some u1, some (.ref pl7)]) N.ex (ct_test (cp_op r2_inL (cp_var rfl hu1) (cp_kfld fd_Floor_doors T.cls_Floor T.noat_Floor_doors (cp_var rfl hu0)))) (by first | rfl | simp only [o2, Option.bind_assoc, Option.bind_some]) ?_ ?_ ?_
      · intro z13 B16 H17 N18 hc19 hm g20 hn21
        have ej22 := g20.b
        replace N := N.pure g20
        replace hu0 := Rp.mono g20.b hu0
        replace hu1 := Rp.mono g20.b hu1
        refine st_dropS (K := K) hm N (cs_append ln_r rfl (Cp.s (cp_kfld fd_Floor_depot T.cls_Floor T.noat_Floor_depot (cp_var rfl hu0)))) (by first | rfl | simp only [o2, Option.bind_assoc, Option.bind_some]) fun _ s25 W26 B27 H28 hm N eb29 => ?_
        try dsimp only at hm
        replace ej22 := ej22.trans eb29
        replace hu0 := Rp.mono eb29 hu0
        replace hu1 := Rp.mono eb29 hu1
        cases hm
        exact hn21 _ _ ⟨_, _, N, ej22, rfl⟩
      · intro z31 B34 H35 N36 hc37 hm g38 hn39
        have ej40 := g38.b
        replace N := N.pure g38
        replace hu0 := Rp.mono g38.b hu0
        replace hu1 := Rp.mono g38.b hu1
        refine nxt ?_
        cases hm
        exact hn39 _ _ ⟨_, _, N, ej40, rfl⟩
      · rintro z41 σ H44 hm ⟨W42, B43, N, eb45, rfl⟩
        replace hu0 := Rp.mono eb45 hu0
        replace hu1 := Rp.mono eb45 hu1
        refine gnx ?_
        obtain ⟨W46, B47, N, eb48, h49⟩ := N.freeze fp12
        replace hu0 := Rp.mono eb48 hu0
        replace hu1 := Rp.mono eb48 hu1
        refine st_ret (K := K) hm N.ex (cp_var rfl h49) rfl fun v B1 H1 g hv => ?_
        exact hQ v B1 H1 (N.g.then g) hv
def m_floor_of (a_near : (List (List Int))) (a_doors : (List Int)) (a_stations : (List (List Int))) : Option KFloor :=
 (Option.bind (Option.bind (some ((a_near.length : Int))) fun n => Option.bind (prange1 n) fun xs => Option.bind (pbig xs) fun xs => lcF (fun x_cell => (some true)) (fun x_cell => (some ((0 : Int), x_cell))) xs) fun places1 =>
 (Option.bind (m_Floor___init__ (a_near, a_doors, a_stations, places1, ())) fun x => some (KR.mk x : KFloor)))
abbrev s_floor_of : Stmt := top 6
theorem sc_floor_of : FnScope ["near", "doors", "stations", "places", "cell"] ["near", "doors", "stations"] (defScope s_floor_of) := ⟨rfl, rfl, rfl, by decide +kernel, rfl, by decide +kernel, by decide +kernel⟩
abbrev sp_floor_of (K : Fg) : Sp := spP K (fun t : (List (List Int)) × (List Int) × (List (List Int)) × Unit => m_floor_of t.1 t.2.1 t.2.2.1)
set_option maxHeartbeats 0 in
theorem ok_floor_of {f : Addr} {fd : FuncData} (F : FunD K "floor_of" "floor_of" (defArgs s_floor_of) (defBody s_floor_of) (defScope s_floor_of) [] [] f fd) (T : Tx K mg) (c_Floor___init__ : Mc P w K mg base 1 "Floor" "__init__" ["self", "near", "doors", "stations", "places"] (sp_Floor___init__ K)) : FnOk P w K mg base CX0 3 f fd ["near", "doors", "stations"] (sp_floor_of K) := by
  have sc := sc_floor_of
  refine F.ok sc (fun vs H Q E h => ?_) (fun cdv A outer s H vs Q E hr h => ?_)
  · obtain ⟨Bs, t, r, ex, ⟨u0, _, rfl, hu0, ⟨u1, _, rfl, hu1, ⟨u2, _, rfl, hu2, hz⟩⟩⟩, hm, hQ⟩ := h
    cases hz
    rfl
  · obtain ⟨Bs, ⟨a_near, a_doors, a_stations, ⟨⟩⟩, r, ex, ⟨u0, _, rfl, hu0, ⟨u1, _, rfl, hu1, ⟨u2, _, rfl, hu2, hz⟩⟩⟩, hm, hQ⟩ := h
    cases hz
    replace hu0 : rp K Bs u0 a_near := hu0
    replace hu1 : rp K Bs u1 a_doors := hu1
    replace hu2 : rp K Bs u2 a_stations := hu2
    replace hm : m_floor_of a_near a_doors a_stations = some r := hm
    obtain ⟨Hs, eHs⟩ : ∃ Hs, Hs = H := ⟨_, rfl⟩
    subst eHs
    have N : Now noM Bs Hs oE emp Bs Hs () := nowE ex
    unfold m_floor_of at hm
    refine ⟨_, PSs.nox (pss_cons (ps_setLc (i := 3) (own := [("cell", 4)]) (g := gName 4) (tt := tYes) rfl sc.nd rfl rfl (sw_true rfl rfl rfl (by decide +kernel)) (pi_range1 rfl T.free_range (pa_cons (pe_callB (call_len_K (K := K) rfl) rfl T.free_len boot_len (pa_cons (pv 0) pa_nil)) pa_nil)) (blkOk_by (N := ["near", "doors", "stations", "places", "cell"]) (sc := defScope s_floor_of) (by decide +kernel)) (fun _ _ _ _ _ => pg_name (i := 4) sc.nd rfl (Or.inl rfl)) (fun _ _ _ _ _ => pts_nil) (fun _ _ _ _ _ => (pe_tup (pa_cons pe_int (pa_cons (pv 4) pa_nil))))) (pss_one (ps_ret (pe_mkc T.mk_Floor c_Floor___init__ hr (by decide) rfl T.glo_Floor (pa_cons (pv 0) (pa_cons (pv 1) (pa_cons (pv 2) (pa_cons (pv 3) pa_nil)))))))), ?_⟩
    refine sq ?_
    refine st_asg (K := K) hm N.ex (Co.cp (co_lcR (t := fun x_cell => (some true)) (f := fun x_cell => (some ((0 : Int), x_cell))) (cp_cb rc_lenL (ca_cons (cp_var rfl hu0) ca_nil)) fun x_cell B1x vx ebx hx => ⟨_, fun _ _ _ hq => hq, rfl, (ct_yes).to (by first | rfl | simp only [o2, Option.bind_assoc, Option.bind_some]), ((cp_tup2 (ca_cons cp_int (ca_cons (cp_var rfl hx) ca_nil)))).to (by first | rfl | simp only [o2, Option.bind_assoc, Option.bind_some])⟩)) (by first | rfl | simp only [o2, Option.bind_assoc, Option.bind_some]) fun places1 v2 B3 H4 _ hm g5 h6 => ?_
    replace N := N.pure g5
    replace hu0 := Rp.mono g5.b hu0
    replace hu1 := Rp.mono g5.b hu1
    replace hu2 := Rp.mono g5.b hu2
    refine gnx ?_
    refine st_ret (K := K) hm N.ex (cp_mk0 (ca_cons0 (cp_var rfl hu0) (ca_cons0 (cp_var rfl hu1) (ca_cons0 (cp_var rfl hu2) (ca_cons0 (cp_var rfl h6) ca_nil0))))) (by first | rfl | simp only [o2, Option.bind_assoc, Option.bind_some]) fun v B1 H1 g hv => ?_
    exact hQ v B1 H1 (N.g.then g) hv
def m_distances_b3 (p_floor : KFloor) (p_closed : (List Int)) (p_aims : (List Int)) (p_position : Int) (p_place : Int) (p_other : Int) (p_st : ((Unit × (List (Option Int))) × (List Int))) : Option (((Unit × (List (Option Int))) × (List Int))) :=
 (Option.bind (Option.bind (Option.bind (some ((!decide (p_other ∈ p_closed)))) fun a => if a = true then (Option.bind (at? p_st.1.2 p_other) fun x => some (x.isNone)) else some false) fun x => some (x, p_st)) fun b144 => if b144.1 = true then
 (Option.bind (Option.bind (Option.bind (Option.bind (o2 (Option.bind (at? b144.2.1.2 p_position) fun x => x) (some (1 : Int)) fun x y => some (x + y)) fun x => some (some x)) fun x => some (x, b144.2)) fun p133 => Option.bind (some (p_other, p133.2)) fun q134 => Option.bind (pset q134.2.1.2 q134.1 p133.1) fun z => some (z, q134.2)) fun p143 =>
 (Option.bind (Option.bind (some (p_other, ((p143.2.1.1, p143.1), p143.2.2))) fun p135 => Option.bind (papp p135.2.2 p135.1) fun q136 => some ((), (p135.2.1, q136))) fun p142 =>
 some (p142.2)))
 else
 some (b144.2))
def m_distances_b2 (p_floor : KFloor) (p_closed : (List Int)) (p_aims : (List Int)) (p_st : ((Unit × (List (Option Int))) × (List Int))) (p_place : Int) : Option (((Unit × (List (Option Int))) × (List Int)) × Int) :=
 (Option.bind (Option.bind (at? p_st.2 p_place) fun x => some (x, p_st)) fun p150 =>
 (Option.bind (Option.bind (some (1 : Int)) fun y => some (p_place + y)) fun place101 =>
 (Option.bind (m_Floor_around p_floor p150.1) fun xs => Option.bind (forN (fun x (s : ((Unit × (List (Option Int))) × (List Int))) => m_distances_b3 p_floor p_closed p_aims p150.1 place101 x s) xs (p150.2)) fun s145 =>
 some (s145, place101))))
def m_distances_b1 (p_floor : KFloor) (p_closed : (List Int)) (p_aims : (List Int)) (p_cell : Int) (p_st : ((Unit × (List (Option Int))) × (List Int))) : Option (((Unit × (List (Option Int))) × (List Int))) :=
 (Option.bind (Option.bind (Option.bind (some ((!decide (p_cell ∈ p_closed)))) fun a => if a = true then (Option.bind (at? p_st.1.2 p_cell) fun x => some (x.isNone)) else some false) fun x => some (x, p_st)) fun b54 => if b54.1 = true then
 (Option.bind (Option.bind (some ((some (0 : Int)), b54.2)) fun p43 => Option.bind (some (p_cell, p43.2)) fun q44 => Option.bind (pset q44.2.1.2 q44.1 p43.1) fun z => some (z, q44.2)) fun p53 =>
 (Option.bind (Option.bind (some (p_cell, ((p53.2.1.1, p53.1), p53.2.2))) fun p45 => Option.bind (papp p45.2.2 p45.1) fun q46 => some ((), (p45.2.1, q46))) fun p52 =>
 some (p52.2)))
 else
 some (b54.2))
def m_distances (a_floor : KFloor) (a_closed : (List Int)) (a_aims : (List Int)) : Option (List (Option Int)) :=
 (Option.bind (Option.bind (Option.bind (some (a_floor.v.2.1 + (1 : Int))) fun n => Option.bind (prange1 n) fun xs => Option.bind (pbig xs) fun xs => lcF (fun x_position => (some true)) (fun x_position => (some (none : (Option Int)))) xs) fun x => some (x, ())) fun p164 =>
 (Option.bind (some (([] : List Int), (p164.2, p164.1))) fun p163 =>
 (Option.bind (some (psort a_aims)) fun xs => Option.bind (forN (fun x (s : ((Unit × (List (Option Int))) × (List Int))) => m_distances_b1 a_floor a_closed a_aims x s) xs ((p163.2, p163.1))) fun s55 =>
 (Option.bind (some (0 : Int)) fun place60 =>
 (Option.bind (whN (fun (s66 : ((Unit × (List (Option Int))) × (List Int)) × Int) => (some ((decide (s66.2 < ((s66.1.2.length : Int))))))) (fun (s : ((Unit × (List (Option Int))) × (List Int)) × Int) => m_distances_b2 a_floor a_closed a_aims s.1 s.2) 1000000 (s55, place60)) fun s151 =>
 (some ((s151.1.1.1, s151.1.2), s151.1.1.2).2))))))
abbrev s_distances : Stmt := top 2
theorem sc_distances : FnScope ["floor", "closed", "aims", "position", "found", "queue", "cell", "place", "other"] ["floor", "closed", "aims"] (defScope s_distances) := ⟨rfl, rfl, rfl, by decide +kernel, rfl, by decide +kernel, by decide +kernel⟩
abbrev sp_distances (K : Fg) : Sp := spP K (fun t : KFloor × (List Int) × (List Int) × Unit => m_distances t.1 t.2.1 t.2.2.1)
set_option maxHeartbeats 0 in
theorem ok_distances {f : Addr} {fd : FuncData} (F : FunD K "distances" "distances" (defArgs s_distances) (defBody s_distances) (defScope s_distances) [] [] f fd) (T : Tx K mg) (c_Floor_around : Mc P w K mg base 1 "Floor" "around" ["self", "position"] (sp_Floor_around K)) : FnOk P w K mg base CX0 2 f fd ["floor", "closed", "aims"] (sp_distances K) := by
  have sc := sc_distances
  refine F.ok sc (fun vs H Q E h => ?_) (fun cdv A outer s H vs Q E hr h => ?_)
  · obtain ⟨Bs, t, r, ex, ⟨u0, _, rfl, hu0, ⟨u1, _, rfl, hu1, ⟨u2, _, rfl, hu2, hz⟩⟩⟩, hm, hQ⟩ := h
    cases hz
    rfl
  · obtain ⟨Bs, ⟨a_floor, a_closed, a_aims, ⟨⟩⟩, r, ex, ⟨u0, _, rfl, hu0, ⟨u1, _, rfl, hu1, ⟨u2, _, rfl, hu2, hz⟩⟩⟩, hm, hQ⟩ := h
    cases hz
    replace hu0 : rp K Bs u0 a_floor := hu0
    replace hu1 : rp K Bs u1 a_closed := hu1
    replace hu2 : rp K Bs u2 a_aims := hu2
    replace hm : m_distances a_floor a_closed a_aims = some r := hm
    obtain ⟨Hs, eHs⟩ : ∃ Hs, Hs = H := ⟨_, rfl⟩
    subst eHs
    have N : Now noM Bs Hs oE emp Bs Hs () := nowE ex
    unfold m_distances at hm
    refine ⟨_, PSs.nox (pss_cons (ps_setLc (i := 4) (own := [("position", 3)]) (g := gName 3) (tt := tYes) rfl sc.nd rfl rfl (sw_true rfl rfl rfl (by decide +kernel)) (pi_range1 rfl T.free_range (pa_cons (pe_op op_add (pe_fldK (K := K) rfl (pv 0) rfl) pe_int) pa_nil)) (blkOk_by (N := ["floor", "closed", "aims", "position", "found", "queue", "cell", "place", "other"]) (sc := defScope s_distances) (by decide +kernel)) (fun _ _ _ _ _ => pg_name (i := 3) sc.nd rfl (Or.inl rfl)) (fun _ _ _ _ _ => pts_nil) (fun _ _ _ _ _ => pe_non)) (pss_cons (ps_set (i := 5) sc.nd rfl (.inl rfl) (pe_lst pa_nil)) (pss_cons (ps_for PassesOwn.never rfl (pi_list (pe_callB (cr_sortedIK (K := K) rfl) rfl T.free_sorted boot_sorted (pa_cons (pv 2) pa_nil))) (pg_name (i := 6) sc.nd rfl (.inl rfl)) (pss_one (ps_if (PW.pt (pw_and (pt_cmpR (op_notIn_seqK (K := K) rfl) (pv 6) (pv 1) rfl) (pw_and1 (pt_cmp (pc_isN (pe_ix (ix_listK (K := K) rfl) (pv 4) (pv 6) (fun _ _ => rfl))))))) (pss_cons (ps_asg pe_int (pg_sub (pv 4) (pv 6) set_list)) (pss_one (ps_expr (pe_bm PySem.F.plainAttrs_list PySem.F.slot_list_append PySem.F.type_list_append mt_append (pv 5) (pa_cons (pv 6) pa_nil))))) pss_nil))) (pss_cons (ps_set (i := 7) sc.nd rfl (.inl rfl) pe_int) (pss_cons (ps_while PassesOwn.never (pt_cmpR op_lt (pv 7) (pe_callB (call_len_K (K := K) rfl) rfl T.free_len boot_len (pa_cons (pv 5) pa_nil)) (nomark _)) (pss_cons (ps_set (i := 3) sc.nd rfl (.inl rfl) (pe_ix (ix_listK (K := K) rfl) (pv 5) (pv 7) (fun _ _ => rfl))) (pss_cons (ps_aug (i := 7) sc.nd rfl (.inl rfl) pe_int ip_add) (pss_one (ps_for PassesOwn.never rfl (pi_list (pe_mfc (pv 0) T.cls_Floor c_Floor_around hr (by decide) (pa_cons (pv 3) pa_nil))) (pg_name (i := 8) sc.nd rfl (.inl rfl)) (pss_one (ps_if (PW.pt (pw_and (pt_cmpR (op_notIn_seqK (K := K) rfl) (pv 8) (pv 1) rfl) (pw_and1 (pt_cmp (pc_isN (pe_ix (ix_listK (K := K) rfl) (pv 4) (pv 8) (fun _ _ => rfl))))))) (pss_cons (ps_asg (pe_op op_add (pe_ix (ix_listK (K := K) rfl) (pv 4) (pv 3) (fun _ _ => rfl)) pe_int) (pg_sub (pv 4) (pv 8) set_list)) (pss_one (ps_expr (pe_bm PySem.F.plainAttrs_list PySem.F.slot_list_append PySem.F.type_list_append mt_append (pv 5) (pa_cons (pv 8) pa_nil))))) pss_nil))))))) (pss_one (ps_ret (pv 4)))))))), ?_⟩
    refine sq ?_
    refine st_asgL (K := K) hm N (Co.s (co_lcR (t := fun x_position => (some true)) (f := fun x_position => (some (none : (Option Int)))) (cp_op r2_add (cp_kfld fd_Floor_size T.cls_Floor T.noat_Floor_size (cp_var rfl hu0)) cp_int) fun x_position B1x vx ebx hx => ⟨_, fun _ _ _ hq => hq, rfl, (ct_yes).to (by first | rfl | simp only [o2, Option.bind_assoc, Option.bind_some]), ((cp_nonO (α := Int))).to (by first | rfl | simp only [o2, Option.bind_assoc, Option.bind_some])⟩)) (by first | rfl | simp only [o2, Option.bind_assoc, Option.bind_some]) fun found1 s2 pl3 W4 B5 H6 hm N eb7 fp8 => ?_
    replace hu0 := Rp.mono eb7 hu0
    replace hu1 := Rp.mono eb7 hu1
    replace hu2 := Rp.mono eb7 hu2
    try dsimp only at hm
    refine gnx ?_
    refine sq ?_
    refine st_asgL (K := K) hm N (Co.s (co_nil (α := Int))) (by first | rfl | simp only [o2, Option.bind_assoc, Option.bind_some]) fun queue9 s10 pl11 W12 B13 H14 hm N eb15 fp16 => ?_
    replace hu0 := Rp.mono eb15 hu0
    replace hu1 := Rp.mono eb15 hu1
    replace hu2 := Rp.mono eb15 hu2
    try dsimp only at hm
    refine gnx ?_
    refine sq ?_
    refine st_forN_list (K := K) (fun Be (s : ((Unit × (List (Option Int))) × (List Int))) B σ H => ∃ (W : Hp) (o3 : Option V) (o6 : Option V) (o7 : Option V) (o8 : Option V), Now noM Bs Hs (star (star oE (OwL (α := (Option Int)) K pl3)) (OwL (α := Int) K pl11)) W B H s ∧ Ex B13 B ∧ Ex Be B ∧ σ = [some u0, some u1, some u2, o3, some (.ref pl3), some (.ref pl11), o6, o7, o8]) hm N.ex (Co.cp (co_sorted (cp_var rfl hu2))) (by first | rfl | simp only [o2, Option.bind_assoc, Option.bind_some]) (fun Be s B σ H h => by obtain ⟨_, _, _, _, _, N, _, ee, _⟩ := h; exact ⟨ee, N.ex⟩) (fun Be H1 g => ⟨_, _, _, _, _, N.pure g, g.b, Ex.refl _, rfl⟩) ?_ ?_
    · rintro Be x17 s18 B20 σ H21 v22 c23 N24 ⟨W19, _, _, _, _, N, eb29, ee30, rfl⟩ hv25 hm hn26
      unfold m_distances_b1 at hm
      replace hu0 := Rp.mono eb29 hu0
      replace hu1 := Rp.mono eb29 hu1
      replace hu2 := Rp.mono eb29 hu2
      refine gnm ?_
      refine st_ifS hm N (cst_view fun W1 B1 s e1 d1 hP => (ct_and (ct_test (cp_op r2_ninL (cp_var rfl (Rp.mono (e1.trans (ex_uni_r d1)) hv25)) (cp_var rfl (Rp.mono (e1.trans (ex_uni_r d1)) hu1)))) (ct_B (cp_isN (cp_op r2_ixL (cp_var rfl (ol_rp (ln_l.comp ln_r) hP d1)) (cp_var rfl (Rp.mono (e1.trans (ex_uni_r d1)) hv25))))))) (by first | rfl | simp only [o2, Option.bind_assoc, Option.bind_some]) (fun s31 W32 B33 H34 hc35 hm N eb36 => ?_) (fun s31 W32 B33 H34 hc35 hm N eb36 => ?_)
      · try dsimp only at hm
        replace eb29 := eb29.trans eb36
        replace ee30 := ee30.trans eb36
        replace hu0 := Rp.mono eb36 hu0
        replace hu1 := Rp.mono eb36 hu1
        replace hu2 := Rp.mono eb36 hu2
        replace hv25 := Rp.mono eb36 hv25
        refine sq ?_
        refine st_setL (K := K) (m := fun _ => none) (ln_l.comp ln_r) rfl hm N (Cp.s (Cp.opt cp_int)) (Cp.s (cp_var rfl hv25)) (by first | rfl | simp only [o2, Option.bind_assoc, Option.bind_some]) fun x37 s38 W39 B40 H41 hm N eb42 => ?_
        try dsimp only at hm
        replace eb29 := eb29.trans eb42
        replace ee30 := ee30.trans eb42
        replace hu0 := Rp.mono eb42 hu0
        replace hu1 := Rp.mono eb42 hu1
        replace hu2 := Rp.mono eb42 hu2
        replace hv25 := Rp.mono eb42 hv25
        refine gnx ?_
        refine st_dropS (K := K) hm N (cs_append ln_r rfl (Cp.s (cp_var rfl hv25))) (by first | rfl | simp only [o2, Option.bind_assoc, Option.bind_some]) fun _ s47 W48 B49 H50 hm N eb51 => ?_
        try dsimp only at hm
        replace eb29 := eb29.trans eb51
        replace ee30 := ee30.trans eb51
        replace hu0 := Rp.mono eb51 hu0
        replace hu1 := Rp.mono eb51 hu1
        replace hu2 := Rp.mono eb51 hu2
        replace hv25 := Rp.mono eb51 hv25
        cases hm
        exact hn26 _ _ _ ⟨_, _, _, _, _, N, eb29, ee30, rfl⟩
      · try dsimp only at hm
        replace eb29 := eb29.trans eb36
        replace ee30 := ee30.trans eb36
        replace hu0 := Rp.mono eb36 hu0
        replace hu1 := Rp.mono eb36 hu1
        replace hu2 := Rp.mono eb36 hu2
        replace hv25 := Rp.mono eb36 hv25
        refine nxt ?_
        cases hm
        exact hn26 _ _ _ ⟨_, _, _, _, _, N, eb29, ee30, rfl⟩
    · rintro Be s55 B57 σ H58 hm ⟨W56, _, _, _, _, N, eb59, _, rfl⟩
      replace hu0 := Rp.mono eb59 hu0
      replace hu1 := Rp.mono eb59 hu1
      replace hu2 := Rp.mono eb59 hu2
      refine gnx ?_
      refine sq ?_
      refine st_asg (K := K) hm N.ex cp_int rfl fun place60 v61 B62 H63 _ hm g64 h65 => ?_
      replace N := N.pure g64
      replace hu0 := Rp.mono g64.b hu0
      replace hu1 := Rp.mono g64.b hu1
      replace hu2 := Rp.mono g64.b hu2
      refine gnx ?_
      refine sq ?_
      refine st_whN (fun (s : ((Unit × (List (Option Int))) × (List Int)) × Int) B σ H => ∃ (W : Hp) (w_place : V) (o3 : Option V) (o6 : Option V) (o8 : Option V), Now noM Bs Hs (star (star oE (OwL (α := (Option Int)) K pl3)) (OwL (α := Int) K pl11)) W B H s.1 ∧ Ex B62 B ∧ σ = [some u0, some u1, some u2, o3, some (.ref pl3), some (.ref pl11), o6, some w_place, o8] ∧ rp K B w_place s.2) hm ⟨_, v61, _, _, _, N, Ex.refl _, rfl, h65⟩ ?_ ?_ ?_
      · rintro s66 B68 σ H69 x73 Q74 ⟨W67, w71, _, _, _, N, eb70, rfl, h72⟩ hx75 q76
        replace hu0 := Rp.mono eb70 hu0
        replace hu1 := Rp.mono eb70 hu1
        replace hu2 := Rp.mono eb70 hu2
        refine wh_testS hx75 N (cst_view fun W1 B1 s e1 d1 hP => (ct_test (cp_op r2_lt (cp_var rfl (Rp.mono (e1.trans (ex_uni_r d1)) h72)) (cp_cb rc_lenL (ca_cons (cp_var rfl (ol_rp ln_r hP d1)) ca_nil))))) (by first | rfl | simp only [o2, Option.bind_assoc, Option.bind_some]) fun W77 B78 H79 N eb80 => ?_
        replace eb70 := eb70.trans eb80
        replace hu0 := Rp.mono eb80 hu0
        replace hu1 := Rp.mono eb80 hu1
        replace hu2 := Rp.mono eb80 hu2
        replace h72 := Rp.mono eb80 h72
        exact q76 _ _ ⟨_, w71, _, _, _, N, eb70, rfl, h72⟩
      · rintro s81 B83 σ H84 c88 N89 ⟨W82, w86, _, _, _, N, eb85, rfl, h87⟩ hm hn90
        unfold m_distances_b2 at hm
        replace hu0 := Rp.mono eb85 hu0
        replace hu1 := Rp.mono eb85 hu1
        replace hu2 := Rp.mono eb85 hu2
        refine sq ?_
        refine st_asgS (K := K) hm N (cs_view fun W1 B1 s e1 d1 hP => (cp_op r2_ixL (cp_var rfl (ol_rp ln_r hP d1)) (cp_var rfl (Rp.mono (e1.trans (ex_uni_r d1)) h87)))) (by first | rfl | simp only [o2, Option.bind_assoc, Option.bind_some]) fun position93 s94 v95 W96 B97 H98 hm N eb99 h100 => ?_
        try dsimp only at hm
        replace eb85 := eb85.trans eb99
        replace hu0 := Rp.mono eb99 hu0
        replace hu1 := Rp.mono eb99 hu1
        replace hu2 := Rp.mono eb99 hu2
        replace h87 := Rp.mono eb99 h87
        refine gnx ?_
        refine sq ?_
        refine st_aug (K := K) hm N.ex rfl h87 r2_ipadd cp_int (by first | rfl | simp only [o2, Option.bind_assoc, Option.bind_some]) fun place101 v102 B103 H104 hm g105 h106 => ?_
        replace N := N.pure g105
        replace eb85 := eb85.trans g105.b
        replace hu0 := Rp.mono g105.b hu0
        replace hu1 := Rp.mono g105.b hu1
        replace hu2 := Rp.mono g105.b hu2
        replace h100 := Rp.mono g105.b h100
        refine gnx ?_
        refine st_forN_list (K := K) (fun Be (s : ((Unit × (List (Option Int))) × (List Int))) B σ H => ∃ (W : Hp) (o6 : Option V) (o8 : Option V), Now noM Bs Hs (star (star oE (OwL (α := (Option Int)) K pl3)) (OwL (α := Int) K pl11)) W B H s ∧ Ex B103 B ∧ Ex Be B ∧ σ = [some u0, some u1, some u2, some v95, some (.ref pl3), some (.ref pl11), o6, some v102, o8]) hm N.ex (cp_methK0 no_Floor_around (cp_var rfl hu0) (ca_cons0 (cp_var rfl h100) ca_nil0)) (by first | rfl | simp only [o2, Option.bind_assoc, Option.bind_some]) (fun Be s B σ H h => by obtain ⟨_, _, _, N, _, ee, _⟩ := h; exact ⟨ee, N.ex⟩) (fun Be H1 g => ⟨_, _, _, N.pure g, g.b, Ex.refl _, rfl⟩) ?_ ?_
        · rintro Be x107 s108 B110 σ H111 v112 c113 N114 ⟨W109, _, _, N, eb119, ee120, rfl⟩ hv115 hm hn116
          unfold m_distances_b3 at hm
          replace eb85 := eb85.trans eb119
          replace hu0 := Rp.mono eb119 hu0
          replace hu1 := Rp.mono eb119 hu1
          replace hu2 := Rp.mono eb119 hu2
          replace h100 := Rp.mono eb119 h100
          replace h106 := Rp.mono eb119 h106
          refine gnm ?_
          refine st_ifS hm N (cst_view fun W1 B1 s e1 d1 hP => (ct_and (ct_test (cp_op r2_ninL (cp_var rfl (Rp.mono (e1.trans (ex_uni_r d1)) hv115)) (cp_var rfl (Rp.mono (e1.trans (ex_uni_r d1)) hu1)))) (ct_B (cp_isN (cp_op r2_ixL (cp_var rfl (ol_rp (ln_l.comp ln_r) hP d1)) (cp_var rfl (Rp.mono (e1.trans (ex_uni_r d1)) hv115))))))) (by first | rfl | simp only [o2, Option.bind_assoc, Option.bind_some]) (fun s121 W122 B123 H124 hc125 hm N eb126 => ?_) (fun s121 W122 B123 H124 hc125 hm N eb126 => ?_)
          · try dsimp only at hm
            replace eb85 := eb85.trans eb126
            replace eb119 := eb119.trans eb126
            replace ee120 := ee120.trans eb126
            replace hu0 := Rp.mono eb126 hu0
            replace hu1 := Rp.mono eb126 hu1
            replace hu2 := Rp.mono eb126 hu2
            replace h100 := Rp.mono eb126 h100
            replace h106 := Rp.mono eb126 h106
            replace hv115 := Rp.mono eb126 hv115
            refine sq ?_
            refine st_setL (K := K) (m := fun _ => none) (ln_l.comp ln_r) rfl hm N (cs_view fun W1 B1 s e1 d1 hP => (Cp.opt (cp_op r2_add (Cp.got (cp_op r2_ixL (cp_var rfl (ol_rp (ln_l.comp ln_r) hP d1)) (cp_var rfl (Rp.mono (e1.trans (ex_uni_r d1)) h100)))) cp_int))) (Cp.s (cp_var rfl hv115)) (by first | rfl | simp only [o2, Option.bind_assoc, Option.bind_some]) fun x127 s128 W129 B130 H131 hm N eb132 => ?_
            try dsimp only at hm
            replace eb85 := eb85.trans eb132
            replace eb119 := eb119.trans eb132
            replace ee120 := ee120.trans eb132
            replace hu0 := Rp.mono eb132 hu0
            replace hu1 := Rp.mono eb132 hu1
            replace hu2 := Rp.mono eb132 hu2
            replace h100 := Rp.mono eb132 h100
            replace h106 := Rp.mono eb132 h106
            replace hv115 := Rp.mono eb132 hv115
            refine gnx ?_
            refine st_dropS (K := K) hm N (cs_append ln_r rfl (Cp.s (cp_var rfl hv115))) (by first | rfl | simp only [o2, Option.bind_assoc, Option.bind_some]) fun _ s137 W138 B139 H140 hm N eb141 => ?_
            try dsimp only at hm
            replace eb85 := eb85.trans eb141
            replace eb119 := eb119.trans eb141
            replace ee120 := ee120.trans eb141
            replace hu0 := Rp.mono eb141 hu0
            replace hu1 := Rp.mono eb141 hu1
            replace hu2 := Rp.mono eb141 hu2
            replace h100 := Rp.mono eb141 h100
            replace h106 := Rp.mono eb141 h106
            replace hv115 := Rp.mono eb141 hv115
            cases hm
            exact hn116 _ _ _ ⟨_, _, _, N, eb119, ee120, rfl⟩
          · try dsimp only at hm
            replace eb85 := eb85.trans eb126
            replace eb119 := eb119.trans eb126
            replace ee120 := ee120.trans eb126
            replace hu0 := Rp.mono eb126 hu0
            replace hu1 := Rp.mono eb126 hu1
            replace hu2 := Rp.mono eb126 hu2
            replace h100 := Rp.mono eb126 h100
            replace h106 := Rp.mono eb126 h106
            replace hv115 := Rp.mono eb126 hv115
            refine nxt ?_
            cases hm
            exact hn116 _ _ _ ⟨_, _, _, N, eb119, ee120, rfl⟩
        · rintro Be s145 B147 σ H148 hm ⟨W146, _, _, N, eb149, _, rfl⟩
          replace eb85 := eb85.trans eb149
          replace hu0 := Rp.mono eb149 hu0
          replace hu1 := Rp.mono eb149 hu1
          replace hu2 := Rp.mono eb149 hu2
          replace h100 := Rp.mono eb149 h100
          replace h106 := Rp.mono eb149 h106
          cases hm
          exact hn90 _ _ _ ⟨_, v102, _, _, _, N, eb85, rfl, h106⟩
      · rintro s151 B153 σ H154 hm ⟨W152, w156, _, _, _, N, eb155, rfl, h157⟩
        replace hu0 := Rp.mono eb155 hu0
        replace hu1 := Rp.mono eb155 hu1
        replace hu2 := Rp.mono eb155 hu2
        refine gnx ?_
        replace N := N.swap
        obtain ⟨W158, B159, N, eb160, h161⟩ := N.freeze fp8
        replace hu0 := Rp.mono eb160 hu0
        replace hu1 := Rp.mono eb160 hu1
        replace hu2 := Rp.mono eb160 hu2
        replace h157 := Rp.mono eb160 h157
        obtain ⟨W162, N⟩ := N.drop
        refine st_ret (K := K) hm N.ex (cp_var rfl h161) rfl fun v B1 H1 g hv => ?_
        exact hQ v B1 H1 (N.g.then g) hv
def m_nearer (a_floor : KFloor) (a_closed : (List Int)) (a_aims : (List Int)) (a_position : Int) : Option (List Int) :=
 (Option.bind (m_distances a_floor a_closed a_aims) fun found1 =>
 (Option.bind (at? found1 a_position) fun here7 =>
 (Option.bind (Option.bind (some (here7.isNone)) fun a => if a = true then some true else (some ((decide (here7 = (some (0 : Int))))))) fun b => if b = true then
 (some ([] : List Int))
 else
 (Option.bind (m_Floor_around a_floor a_position) fun xs => Option.bind (pbig xs) fun xs => lcF (fun x_other => (Option.bind (Option.bind (at? found1 x_other) fun x => some (x.isSome)) fun a => if a = true then (o2 (at? found1 x_other) (Option.bind (o2 here7 (some (1 : Int)) fun x y => some (x - y)) fun x => some (some x)) fun x y => some ((decide (x = y)))) else some false)) (fun x_other => (some x_other)) xs))))
abbrev s_nearer : Stmt := top 3
theorem sc_nearer : FnScope ["floor", "closed", "aims", "position", "found", "here", "other"] ["floor", "closed", "aims", "position"] (defScope s_nearer) := ⟨rfl, rfl, rfl, by decide +kernel, rfl, by decide +kernel, by decide +kernel⟩
abbrev sp_nearer (K : Fg) : Sp := spP K (fun t : KFloor × (List Int) × (List Int) × Int × Unit => m_nearer t.1 t.2.1 t.2.2.1 t.2.2.2.1)
set_option maxHeartbeats 0 in
theorem ok_nearer {f : Addr} {fd : FuncData} (F : FunD K "nearer" "nearer" (defArgs s_nearer) (defBody s_nearer) (defScope s_nearer) [] [] f fd) (T : Tx K mg) (c_Floor_around : Mc P w K mg base 1 "Floor" "around" ["self", "position"] (sp_Floor_around K)) (c_distances : Fc P w K mg base 2 "distances" ["floor", "closed", "aims"] (sp_distances K)) : FnOk P w K mg base CX0 3 f fd ["floor", "closed", "aims", "position"] (sp_nearer K) := by
  have sc := sc_nearer
  refine F.ok sc (fun vs H Q E h => ?_) (fun cdv A outer s H vs Q E hr h => ?_)
  · obtain ⟨Bs, t, r, ex, ⟨u0, _, rfl, hu0, ⟨u1, _, rfl, hu1, ⟨u2, _, rfl, hu2, ⟨u3, _, rfl, hu3, hz⟩⟩⟩⟩, hm, hQ⟩ := h
    cases hz
    rfl
  · obtain ⟨Bs, ⟨a_floor, a_closed, a_aims, a_position, ⟨⟩⟩, r, ex, ⟨u0, _, rfl, hu0, ⟨u1, _, rfl, hu1, ⟨u2, _, rfl, hu2, ⟨u3, _, rfl, hu3, hz⟩⟩⟩⟩, hm, hQ⟩ := h
    cases hz
    replace hu0 : rp K Bs u0 a_floor := hu0
    replace hu1 : rp K Bs u1 a_closed := hu1
    replace hu2 : rp K Bs u2 a_aims := hu2
    replace hu3 : rp K Bs u3 a_position := hu3
    replace hm : m_nearer a_floor a_closed a_aims a_position = some r := hm
    obtain ⟨Hs, eHs⟩ : ∃ Hs, Hs = H := ⟨_, rfl⟩
    subst eHs
    have N : Now noM Bs Hs oE emp Bs Hs () := nowE ex
    unfold m_nearer at hm
    refine ⟨_, PSs.nox (pss_cons (ps_set (i := 4) sc.nd rfl (.inr rfl) (pe_fc c_distances hr (by decide) rfl (pa_cons (pv 0) (pa_cons (pv 1) (pa_cons (pv 2) pa_nil))))) (pss_cons (ps_set (i := 5) sc.nd rfl (.inr rfl) (pe_ix (ix_listK (K := K) rfl) (pv 4) (pv 3) (fun _ _ => rfl))) (pss_cons (ps_if (PW.pt (pw_or (pt_cmp (pc_isN (pv 5))) (pw_or1 (pt_cmpR op_eq (pv 5) pe_int (nomark _))))) (pss_one (ps_ret (pe_lst pa_nil))) pss_nil) (pss_one (ps_ret (pe_lc (own := [("other", 6)]) (g := gName 6) rfl sc.nd (pi_list (pe_mfc (pv 0) T.cls_Floor c_Floor_around hr (by decide) (pa_cons (pv 3) pa_nil))) (blkOk_by (N := ["floor", "closed", "aims", "position", "found", "here", "other"]) (sc := defScope s_nearer) (by decide +kernel)) (fun _ _ _ _ _ => pg_name (i := 6) sc.nd rfl (Or.inl rfl)) (fun _ _ _ _ _ => pts_one (PW.pt (pw_and (pt_cmp (pc_notN (pe_ix (ix_listK (K := K) rfl) (pv 4) (pv 6) (fun _ _ => rfl)))) (pw_and1 (pt_cmpR op_eq (pe_ix (ix_listK (K := K) rfl) (pv 4) (pv 6) (fun _ _ => rfl)) (pe_op op_sub (pv 5) pe_int) (nomark _)))))) (fun _ _ _ _ _ => (pv 6)))))))), ?_⟩
    refine sq ?_
    refine st_asg (K := K) hm N.ex (cp_call0 (ca_cons0 (cp_var rfl hu0) (ca_cons0 (cp_var rfl hu1) (ca_cons0 (cp_var rfl hu2) ca_nil0)))) (by first | rfl | simp only [o2, Option.bind_assoc, Option.bind_some]) fun found1 v2 B3 H4 _ hm g5 h6 => ?_
    replace N := N.pure g5
    replace hu0 := Rp.mono g5.b hu0
    replace hu1 := Rp.mono g5.b hu1
    replace hu2 := Rp.mono g5.b hu2
    replace hu3 := Rp.mono g5.b hu3
    refine gnx ?_
    refine sq ?_
    refine st_asg (K := K) hm N.ex (cp_op r2_ixL (cp_var rfl h6) (cp_var rfl hu3)) (by first | rfl | simp only [o2, Option.bind_assoc, Option.bind_some]) fun here7 v8 B9 H10 _ hm g11 h12 => ?_
    replace N := N.pure g11
    replace hu0 := Rp.mono g11.b hu0
    replace hu1 := Rp.mono g11.b hu1
    replace hu2 := Rp.mono g11.b hu2
    replace hu3 := Rp.mono g11.b hu3
    replace h6 := Rp.mono g11.b h6
    refine gnx ?_
    refine sq ?_
    refine st_if hm N.ex (ct_or (ct_B (cp_isN (cp_var rfl h12))) (ct_test (cp_op r2_eq (cp_var rfl h12) (Cp.opt cp_int)))) (by first | rfl | simp only [o2, Option.bind_assoc, Option.bind_some]) (fun B13 H14 hc16 hm g15 => ?_) (fun B13 H14 hc16 hm g15 => ?_)
    · replace N := N.pure g15
      replace hu0 := Rp.mono g15.b hu0
      replace hu1 := Rp.mono g15.b hu1
      replace hu2 := Rp.mono g15.b hu2
      replace hu3 := Rp.mono g15.b hu3
      replace h6 := Rp.mono g15.b h6
      replace h12 := Rp.mono g15.b h12
      refine st_ret (K := K) hm N.ex (Co.cp (co_nil (α := Int))) rfl fun v B1 H1 g hv => ?_
      exact hQ v B1 H1 (N.g.then g) hv
    · replace N := N.pure g15
      replace hu0 := Rp.mono g15.b hu0
      replace hu1 := Rp.mono g15.b hu1
      replace hu2 := Rp.mono g15.b hu2
      replace hu3 := Rp.mono g15.b hu3
      replace h6 := Rp.mono g15.b h6
      replace h12 := Rp.mono g15.b h12
      refine nxt ?_
      refine gnx ?_
      refine st_ret (K := K) hm N.ex (Co.cp (co_lcL (t := fun x_other => (Option.bind (Option.bind (at? found1 x_other) fun x => some (x.isSome)) fun a => if a = true then (o2 (at? found1 x_other) (Option.bind (o2 here7 (some (1 : Int)) fun x y => some (x - y)) fun x => some (some x)) fun x y => some ((decide (x = y)))) else some false)) (f := fun x_other => (some x_other)) (cp_methK0 no_Floor_around (cp_var rfl hu0) (ca_cons0 (cp_var rfl hu3) ca_nil0)) fun x_other B1x vx ebx hx => ⟨_, fun _ _ _ hq => hq, rfl, ((ct_and (ct_B (cp_notN (cp_op r2_ixL (cp_var rfl (Rp.mono ebx h6)) (cp_var rfl hx)))) (ct_test (cp_op r2_eq (cp_op r2_ixL (cp_var rfl (Rp.mono ebx h6)) (cp_var rfl hx)) (Cp.opt (cp_op r2_sub (Cp.got (cp_var rfl (Rp.mono ebx h12))) cp_int)))))).to (by first | rfl | simp only [o2, Option.bind_assoc, Option.bind_some]), ((cp_var rfl hx)).to (by first | rfl | simp only [o2, Option.bind_assoc, Option.bind_some])⟩)) (by first | rfl | simp only [o2, Option.bind_assoc, Option.bind_some]) fun v B1 H1 g hv => ?_
      exact hQ v B1 H1 (N.g.then g) hv
def m_l_is_cells_b2 (p_l_xs : (List Int)) (p_l_many : Int) (p_l_x : Int) : Option (Fl (Unit) (Bool)) :=
 (Option.bind (Option.bind (Option.bind (m_l_is_int (some p_l_x)) fun x => some (!x)) fun a => if a = true then some true else (Option.bind (o2 (some (0 : Int)) (some p_l_x) fun x y => Option.bind (some (decide (x ≤ y))) fun k => if k = true then Option.bind (some p_l_many) fun z => some (decide (y < z)) else some false) fun x => some (!x))) fun b => if b = true then
 (Option.bind (some false) fun x => some (.rt x))
 else
 some (.nx ()))
def m_l_is_cells_b1 (p_l_xs : (List Int)) (p_l_many : Int) (p_l_x : Int) : Option (Fl (Unit) (Bool)) :=
 (Option.bind (Option.bind (Option.bind (m_l_is_int (some p_l_x)) fun x => some (!x)) fun a => if a = true then some true else (Option.bind (o2 (some (0 : Int)) (some p_l_x) fun x y => Option.bind (some (decide (x ≤ y))) fun k => if k = true then Option.bind (some p_l_many) fun z => some (decide (y < z)) else some false) fun x => some (!x))) fun b => if b = true then
 (Option.bind (some false) fun x => some (.rt x))
 else
 some (.nx ()))
def m_l_is_cells (a_l_xs : (List Int)) (a_l_many : Int) : Option Bool :=
 (Option.bind (some (!(true))) fun b => if b = true then
 (some false)
 else
 (Option.bind (some a_l_xs) fun xs => Option.bind (forF (fun x (s : Unit) => m_l_is_cells_b1 a_l_xs a_l_many x) xs ()) fun f => match f with
 | .nx s23 =>
 (some true)
 | .bk _ => none
 | .rt r => some r))
abbrev s_l_is_cells : Stmt := top 23
theorem sc_l_is_cells : FnScope ["_law_xs", "_law_many", "_law_x"] ["_law_xs", "_law_many"] (defScope s_l_is_cells) := ⟨rfl, rfl, rfl, by decide +kernel, rfl, by decide +kernel, by decide +kernel⟩
abbrev sp_l_is_cells (K : Fg) : Sp := spP K (fun t : (List Int) × Int × Unit => m_l_is_cells t.1 t.2.1)
set_option maxHeartbeats 0 in
theorem ok_l_is_cells {f : Addr} {fd : FuncData} (F : FunD K "_law_is_cells" "_law_is_cells" (defArgs s_l_is_cells) (defBody s_l_is_cells) (defScope s_l_is_cells) [] [] f fd) (T : Tx K mg) (c_l_is_int : Fc P w K mg base 1 "_law_is_int" ["_law_x"] (sp_l_is_int K)) : FnOk P w K mg base CX0 2 f fd ["_law_xs", "_law_many"] (sp_l_is_cells K) := by
  have sc := sc_l_is_cells
  refine F.ok sc (fun vs H Q E h => ?_) (fun cdv A outer s H vs Q E hr h => ?_)
  · obtain ⟨Bs, t, r, ex, ⟨u0, _, rfl, hu0, ⟨u1, _, rfl, hu1, hz⟩⟩, hm, hQ⟩ := h
    cases hz
    rfl
  · obtain ⟨Bs, ⟨a_l_xs, a_l_many, ⟨⟩⟩, r, ex, ⟨u0, _, rfl, hu0, ⟨u1, _, rfl, hu1, hz⟩⟩, hm, hQ⟩ := h
    cases hz
    replace hu0 : rp K Bs u0 a_l_xs := hu0
    replace hu1 : rp K Bs u1 a_l_many := hu1
    replace hm : m_l_is_cells a_l_xs a_l_many = some r := hm
    obtain ⟨Hs, eHs⟩ : ∃ Hs, Hs = H := ⟨_, rfl⟩
    subst eHs
    have N : Now noM Bs Hs oE emp Bs Hs () := nowE ex
    unfold m_l_is_cells at hm
    refine ⟨_, PSs.nox (pss_cons (ps_if (pt_not (pt_val (pe_callB (call_isiK_ (K := K) rfl) rfl T.free_isinstance boot_isinstance (pa_cons (pv 0) (pa_cons (pe_bltn (v := .ty "list") rfl T.free_list boot_list rfl) pa_nil))))) (pss_one (ps_ret pe_bl)) pss_nil) (pss_cons (ps_for PassesOwn.never rfl (pi_list (pv 0)) (pg_name (i := 2) sc.nd rfl (.inl rfl)) (pss_one (ps_if (PW.pt (pw_or (pt_not (pt_val (pe_fc c_l_is_int hr (by decide) rfl (pa_cons (pv 2) pa_nil)))) (pw_or1 (pt_not (pt_chain op_le op_lt pe_int (pv 2) (pv 1)))))) (pss_one (ps_ret pe_bl)) pss_nil))) (pss_one (ps_ret pe_bl)))), ?_⟩
    refine sq ?_
    refine st_if hm N.ex (ct_not (ct_B (cp_isi isi_list (cp_var rfl hu0)))) rfl (fun B1 H2 hc4 hm g3 => ?_) (fun B1 H2 hc4 hm g3 => ?_)
    · replace N := N.pure g3
      replace hu0 := Rp.mono g3.b hu0
      replace hu1 := Rp.mono g3.b hu1
      refine st_ret (K := K) hm N.ex cp_bl rfl fun v B1 H1 g hv => ?_
      exact hQ v B1 H1 (N.g.then g) hv
    · replace N := N.pure g3
      replace hu0 := Rp.mono g3.b hu0
      replace hu1 := Rp.mono g3.b hu1
      refine nxt ?_
      refine gnx ?_
      refine sq ?_
      refine st_forF_list (K := K) (fun Be (s : Unit) B σ H => ∃ (W : Hp) (o2 : Option V), Now noM Bs Hs oE W B H () ∧ Ex B1 B ∧ Ex Be B ∧ σ = [some u0, some u1, o2]) hm N.ex (cp_var rfl hu0) (by first | rfl | simp only [o2, Option.bind_assoc, Option.bind_some]) (fun Be s B σ H h => by obtain ⟨_, _, N, _, ee, _⟩ := h; exact ⟨ee, N.ex⟩) (fun Be H1 g => ⟨_, _, N.pure g, g.b, Ex.refl _, rfl⟩) ?_ ?_
      · rintro Be x5 s6 B8 σ H9 v10 c11 N12 ⟨W7, _, N, eb17, ee18, rfl⟩ hv13 hm hn14 hk15 ht16
        unfold m_l_is_cells_b1 at hm
        replace hu0 := Rp.mono eb17 hu0
        replace hu1 := Rp.mono eb17 hu1
        refine gnm ?_
        refine st_if hm N.ex (ct_or (ct_not (ct_B (cp_call0 (ca_cons0 (Cp.opt (cp_var rfl hv13)) ca_nil0)))) (ct_not (ct_test (cp_chain r2_le r2_lt cp_int (cp_var rfl hv13) (cp_var rfl hu1))))) (by first | rfl | simp only [o2, Option.bind_assoc, Option.bind_some]) (fun B19 H20 hc22 hm g21 => ?_) (fun B19 H20 hc22 hm g21 => ?_)
        · replace N := N.pure g21
          replace eb17 := eb17.trans g21.b
          replace ee18 := ee18.trans g21.b
          replace hu0 := Rp.mono g21.b hu0
          replace hu1 := Rp.mono g21.b hu1
          replace hv13 := Rp.mono g21.b hv13
          refine st_retF (K := K) (m' := (some false)) hm N.ex cp_bl rfl fun x v B1 H1 hm g hv => ?_
          cases hm
          have hm := ht16 _ rfl
          cases hm
          exact hQ _ _ _ (N.g.then g) hv
        · replace N := N.pure g21
          replace eb17 := eb17.trans g21.b
          replace ee18 := ee18.trans g21.b
          replace hu0 := Rp.mono g21.b hu0
          replace hu1 := Rp.mono g21.b hu1
          replace hv13 := Rp.mono g21.b hv13
          refine nxt ?_
          cases hm
          exact hn14 _ _ _ _ rfl ⟨_, _, N, eb17, ee18, rfl⟩
      · rintro Be s23 B25 σ H26 hm ⟨W24, _, N, eb27, _, rfl⟩
        replace hu0 := Rp.mono eb27 hu0
        replace hu1 := Rp.mono eb27 hu1
        refine gnx ?_
        refine st_ret (K := K) hm N.ex cp_bl rfl fun v B1 H1 g hv => ?_
        exact hQ v B1 H1 (N.g.then g) hv
def m_l_less (a_l_a : (Option Int)) (a_l_b : (Option Int)) : Option Bool :=
 (Option.bind (some (a_l_a.isNone)) fun b => if b = true then
 (some false)
 else
 (Option.bind (some (a_l_b.isNone)) fun a => if a = true then some true else (o2 a_l_a a_l_b fun x y => some ((decide (x < y))))))
abbrev s_l_less : Stmt := top 30
theorem sc_l_less : FnScope ["_law_a", "_law_b"] ["_law_a", "_law_b"] (defScope s_l_less) := ⟨rfl, rfl, rfl, by decide +kernel, rfl, by decide +kernel, by decide +kernel⟩
abbrev sp_l_less (K : Fg) : Sp := spP K (fun t : (Option Int) × (Option Int) × Unit => m_l_less t.1 t.2.1)
set_option maxHeartbeats 0 in
theorem ok_l_less {f : Addr} {fd : FuncData} (F : FunD K "_law_less" "_law_less" (defArgs s_l_less) (defBody s_l_less) (defScope s_l_less) [] [] f fd) (T : Tx K mg)  : FnOk P w K mg base CX0 1 f fd ["_law_a", "_law_b"] (sp_l_less K) := by
  have sc := sc_l_less
  refine F.ok sc (fun vs H Q E h => ?_) (fun cdv A outer s H vs Q E hr h => ?_)
  · obtain ⟨Bs, t, r, ex, ⟨u0, _, rfl, hu0, ⟨u1, _, rfl, hu1, hz⟩⟩, hm, hQ⟩ := h
    cases hz
    rfl
  · obtain ⟨Bs, ⟨a_l_a, a_l_b, ⟨⟩⟩, r, ex, ⟨u0, _, rfl, hu0, ⟨u1, _, rfl, hu1, hz⟩⟩, hm, hQ⟩ := h
    cases hz
    replace hu0 : rp K Bs u0 a_l_a := hu0
    replace hu1 : rp K Bs u1 a_l_b := hu1
    replace hm : m_l_less a_l_a a_l_b = some r := hm
    obtain ⟨Hs, eHs⟩ : ∃ Hs, Hs = H := ⟨_, rfl⟩
    subst eHs
    have N : Now noM Bs Hs oE emp Bs Hs () := nowE ex
    unfold m_l_less at hm
    refine ⟨_, PSs.nox (pss_cons (ps_if (pt_cmp (pc_isN (pv 0))) (pss_one (ps_ret pe_bl)) pss_nil) (pss_one (ps_ret (pe_or (pe_cmp (pc_isN (pv 1))) (pe_one (pe_cmpR op_lt (pv 0) (pv 1) (nomark _))))))), ?_⟩
    refine sq ?_
    refine st_if hm N.ex (ct_B (cp_isN (cp_var rfl hu0))) rfl (fun B1 H2 hc4 hm g3 => ?_) (fun B1 H2 hc4 hm g3 => ?_)
    · replace N := N.pure g3
      replace hu0 := Rp.mono g3.b hu0
      replace hu1 := Rp.mono g3.b hu1
      refine st_ret (K := K) hm N.ex cp_bl rfl fun v B1 H1 g hv => ?_
      exact hQ v B1 H1 (N.g.then g) hv
    · replace N := N.pure g3
      replace hu0 := Rp.mono g3.b hu0
      replace hu1 := Rp.mono g3.b hu1
      refine nxt ?_
      refine gnx ?_
      refine st_ret (K := K) hm N.ex (cp_orV (cp_isN (cp_var rfl hu1)) (cp_op r2_lt (Cp.got (cp_var rfl hu0)) (Cp.got (cp_var rfl hu1)))) (by first | rfl | simp only [o2, Option.bind_assoc, Option.bind_some]) fun v B1 H1 g hv => ?_
      exact hQ v B1 H1 (N.g.then g) hv
def m_law_b3 (p_l_script : Scr) (p_l_made_here : (H3 (List (List Int)) (List Int) (List (List Int)))) (p_l_near_here : (List (List Int))) (p_l_floor : KFloor) (p_l_closed : (List Int)) (p_l_aims : (List Int)) (p_l_spans : (List (Option Int))) (p_l_wider : (List (Option Int))) (p_l_position : Int) (p_st : (List Int)) : Option (Fl ((List Int)) (Bool)) :=
 (Option.bind (Option.bind (o2 (at? p_l_wider p_l_position) (o2 (at? p_l_spans p_l_position) (some ()) fun x y => some (x, y)) fun x y => some (x, y)) fun t => m_l_less t.1 t.2.1) fun b => if b = true then
 (Option.bind (some false) fun x => some (.rt x))
 else
 some (.nx (p_st)))
def m_law_b2 (p_l_script : Scr) (p_l_made_here : (H3 (List (List Int)) (List Int) (List (List Int)))) (p_l_near_here : (List (List Int))) (p_l_floor : KFloor) (p_l_closed : (List Int)) (p_l_aims : (List Int)) (p_l_spans : (List (Option Int))) (p_l_position : Int) (p_l_other : Int) (p_st : ((List Int) × (List Int))) : Option (((List Int) × (List Int))) :=
 (Option.bind (Option.bind (Option.bind (at? p_l_spans p_l_position) fun x => some (x.isSome)) fun a => if a = true then (Option.bind (Option.bind (at? p_l_spans p_l_other) fun x => some (x.isSome)) fun a => if a = true then (o2 (Option.bind (o2 (Option.bind (at? p_l_spans p_l_other) fun x => x) (some (1 : Int)) fun x y => some (x + y)) fun x => some (some x)) (at? p_l_spans p_l_position) fun x y => some ((decide (x = y)))) else some false) else some false) fun b => if b = true then
 (Option.bind (Option.bind (some (p_l_other, p_st)) fun p97 => Option.bind (papp p97.2.2 p97.1) fun q98 => some ((), (p97.2.1, q98))) fun p104 =>
 some (p104.2))
 else
 some (p_st))
def m_law_b1 (p_l_script : Scr) (p_l_made_here : (H3 (List (List Int)) (List Int) (List (List Int)))) (p_l_near_here : (List (List Int))) (p_l_floor : KFloor) (p_l_closed : (List Int)) (p_l_aims : (List Int)) (p_l_spans : (List (Option Int))) (p_l_position : Int) (p_st : (List Int)) : Option (Fl ((List Int)) (Bool)) :=
 (Option.bind (some (([] : List Int), p_st)) fun p124 =>
 (Option.bind (m_l_around p_l_near_here (p_l_made_here.b) p_l_position) fun xs => Option.bind (forN (fun x (s : ((List Int) × (List Int))) => m_law_b2 p_l_script p_l_made_here p_l_near_here p_l_floor p_l_closed p_l_aims p_l_spans p_l_position x s) xs ((p124.2, p124.1))) fun s105 =>
 (Option.bind (m_nearer p_l_floor p_l_closed p_l_aims p_l_position) fun l_actual114 =>
 (Option.bind (Option.bind (Option.bind (m_l_is_cells l_actual114 (((p_l_near_here.length : Int)) + (1 : Int))) fun x => some (!x)) fun a => if a = true then some true else (some ((!decide (l_actual114 = s105.2))))) fun b => if b = true then
 (Option.bind (some false) fun x => some (.rt x))
 else
 some (.nx (s105.1))))))
def m_law (a_l_script : Scr) : Option Bool :=
 (Option.bind (m_l_digits a_l_script (0 : Int) (63 : Int)) fun ds1 =>
 (Option.bind (Option.bind (m_l_made ds1 ()) fun q8 => some (q8.1, q8.2)) fun p175 =>
 (Option.bind (some (p175.1.a)) fun l_near_here17 =>
 (Option.bind (m_floor_of l_near_here17 (p175.1.b) (p175.1.c)) fun l_floor23 =>
 (Option.bind (Option.bind (m_l_some p175.2 (((l_near_here17.length : Int)), (6 : Int), ())) fun q31 => some (q31.1, q31.2)) fun p174 =>
 (Option.bind (Option.bind (m_l_some p174.2 (((l_near_here17.length : Int)), (5 : Int), ())) fun q42 => some (q42.1, q42.2)) fun p173 =>
 (Option.bind (m_distances l_floor23 p174.1 p173.1) fun l_spans51 =>
 (Option.bind (Option.bind (some (((l_near_here17.length : Int)) + (1 : Int))) fun n => prange1 n) fun xs => Option.bind (forF (fun x (s : (List Int)) => m_law_b1 a_l_script p175.1 l_near_here17 l_floor23 p174.1 p173.1 l_spans51 x s) xs (p173.2)) fun f => match f with
 | .nx s125 =>
 (Option.bind (Option.bind (Option.bind (some (p174.1, s125)) fun p135 => Option.bind (Option.bind (Option.bind (Option.bind (draw p135.2 (((l_near_here17.length : Int)), ())) fun q131 => some (q131.1, q131.2)) fun p132 => Option.bind (some (([] : List Int), p132.2)) fun q133 => some (p132.1 :: q133.1, q133.2)) fun p134 => Option.bind (plst p134.1) fun z => some (z, p134.2)) fun q136 => Option.bind (plst (p135.1 ++ q136.1)) fun z => some (z, q136.2)) fun p138 => Option.bind (m_distances l_floor23 p138.1 p173.1) fun z140 => some (z140, p138.2)) fun p172 =>
 (Option.bind (Option.bind (some (((l_near_here17.length : Int)) + (1 : Int))) fun n => prange1 n) fun xs => Option.bind (forF (fun x (s : (List Int)) => m_law_b3 a_l_script p175.1 l_near_here17 l_floor23 p174.1 p173.1 l_spans51 p172.1 x s) xs (p172.2)) fun f => match f with
 | .nx s167 =>
 (o2 (m_distances l_floor23 p174.1 p173.1) (some l_spans51) fun x y => some ((decide (x = y))))
 | .bk _ => none
 | .rt r => some r))
 | .bk _ => none
 | .rt r => some r))))))))
abbrev s_law : Stmt := top 31
theorem sc_law : FnScope ["_law_script", "_law_box", "_law_made_here", "_law_near_here", "_law_floor", "_law_closed", "_law_aims", "_law_spans", "_law_position", "_law_due", "_law_other", "_law_actual", "_law_wider"] ["_law_script"] (defScope s_law) := ⟨rfl, rfl, rfl, by decide +kernel, rfl, by decide +kernel, by decide +kernel⟩
abbrev sp_law (K : Fg) : Sp := spP K (fun t : Scr × Unit => m_law t.1)
set_option maxHeartbeats 0 in
theorem ok_law {f : Addr} {fd : FuncData} (F : FunD K "law" "law" (defArgs s_law) (defBody s_law) (defScope s_law) [] [] f fd) (T : Tx K mg) (c_l_around : Fc P w K mg base 1 "_law_around" ["_law_near_here", "_law_doors_here", "_law_position"] (sp_l_around K)) (c_l_digits : Fc P w K mg base 2 "_law_digits" ["_law_script", "_law_first", "_law_last"] (sp_l_digits K)) (c_l_draw : Fc P w K mg base 1 "_law_draw" ["_law_box", "_law_many"] (sp_l_draw K)) (c_l_is_cells : Fc P w K mg base 2 "_law_is_cells" ["_law_xs", "_law_many"] (sp_l_is_cells K)) (c_l_less : Fc P w K mg base 1 "_law_less" ["_law_a", "_law_b"] (sp_l_less K)) (c_l_made : Fc P w K mg base 4 "_law_made" ["_law_box"] (sp_l_made K)) (c_l_some : Fc P w K mg base 2 "_law_some" ["_law_box", "_law_many", "_law_most"] (sp_l_some K)) (c_distances : Fc P w K mg base 2 "distances" ["floor", "closed", "aims"] (sp_distances K)) (c_floor_of : Fc P w K mg base 3 "floor_of" ["near", "doors", "stations"] (sp_floor_of K)) (c_nearer : Fc P w K mg base 3 "nearer" ["floor", "closed", "aims", "position"] (sp_nearer K)) : FnOk P w K mg base CX0 5 f fd ["_law_script"] (sp_law K) := by
  have sc := sc_law
  refine F.ok sc (fun vs H Q E h => ?_) (fun cdv A outer s H vs Q E hr h => ?_)
  · obtain ⟨Bs, t, r, ex, ⟨u0, _, rfl, hu0, hz⟩, hm, hQ⟩ := h
    cases hz
    rfl
  · obtain ⟨Bs, ⟨a_l_script, ⟨⟩⟩, r, ex, ⟨u0, _, rfl, hu0, hz⟩, hm, hQ⟩ := h
    cases hz
    replace hu0 : rp K Bs u0 a_l_script := hu0
    replace hm : m_law a_l_script = some r := hm
    obtain ⟨Hs, eHs⟩ : ∃ Hs, Hs = H := ⟨_, rfl⟩
    subst eHs
    have N : Now noM Bs Hs oE emp Bs Hs () := nowE ex
    unfold m_law at hm
    refine ⟨_, PSs.nox (pss_cons (ps_set (i := 1) sc.nd rfl (.inl rfl) (pe_lst (pa_cons (pe_fc c_l_digits hr (by decide) rfl (pa_cons (pv 0) (pa_cons pe_int (pa_cons pe_int pa_nil)))) (pa_cons pe_int pa_nil)))) (pss_cons (ps_set (i := 2) sc.nd rfl (.inl rfl) (pe_fc c_l_made hr (by decide) rfl (pa_cons (pv 1) pa_nil))) (pss_cons (ps_set (i := 3) sc.nd rfl (.inl rfl) (pe_ix (ix_listK (K := K) rfl) (pv 2) pe_int (fun _ _ => rfl))) (pss_cons (ps_set (i := 4) sc.nd rfl (.inl rfl) (pe_fc c_floor_of hr (by decide) rfl (pa_cons (pv 3) (pa_cons (pe_ix (ix_listK (K := K) rfl) (pv 2) pe_int (fun _ _ => rfl)) (pa_cons (pe_ix (ix_listK (K := K) rfl) (pv 2) pe_int (fun _ _ => rfl)) pa_nil))))) (pss_cons (ps_set (i := 5) sc.nd rfl (.inl rfl) (pe_fc c_l_some hr (by decide) rfl (pa_cons (pv 1) (pa_cons (pe_callB (call_len_K (K := K) rfl) rfl T.free_len boot_len (pa_cons (pv 3) pa_nil)) (pa_cons pe_int pa_nil))))) (pss_cons (ps_set (i := 6) sc.nd rfl (.inl rfl) (pe_fc c_l_some hr (by decide) rfl (pa_cons (pv 1) (pa_cons (pe_callB (call_len_K (K := K) rfl) rfl T.free_len boot_len (pa_cons (pv 3) pa_nil)) (pa_cons pe_int pa_nil))))) (pss_cons (ps_set (i := 7) sc.nd rfl (.inl rfl) (pe_fc c_distances hr (by decide) rfl (pa_cons (pv 4) (pa_cons (pv 5) (pa_cons (pv 6) pa_nil))))) (pss_cons (ps_for PassesOwn.never rfl (pi_range1 rfl T.free_range (pa_cons (pe_op op_add (pe_callB (call_len_K (K := K) rfl) rfl T.free_len boot_len (pa_cons (pv 3) pa_nil)) pe_int) pa_nil)) (pg_name (i := 8) sc.nd rfl (.inl rfl)) (pss_cons (ps_set (i := 9) sc.nd rfl (.inl rfl) (pe_lst pa_nil)) (pss_cons (ps_for PassesOwn.never rfl (pi_list (pe_fc c_l_around hr (by decide) rfl (pa_cons (pv 3) (pa_cons (pe_ix (ix_listK (K := K) rfl) (pv 2) pe_int (fun _ _ => rfl)) (pa_cons (pv 8) pa_nil))))) (pg_name (i := 10) sc.nd rfl (.inl rfl)) (pss_one (ps_if (PW.pt (pw_and (pt_cmp (pc_notN (pe_ix (ix_listK (K := K) rfl) (pv 7) (pv 8) (fun _ _ => rfl)))) (pw_and (pt_cmp (pc_notN (pe_ix (ix_listK (K := K) rfl) (pv 7) (pv 10) (fun _ _ => rfl)))) (pw_and1 (pt_cmpR op_eq (pe_op op_add (pe_ix (ix_listK (K := K) rfl) (pv 7) (pv 10) (fun _ _ => rfl)) pe_int) (pe_ix (ix_listK (K := K) rfl) (pv 7) (pv 8) (fun _ _ => rfl)) (nomark _)))))) (pss_one (ps_expr (pe_bm PySem.F.plainAttrs_list PySem.F.slot_list_append PySem.F.type_list_append mt_append (pv 9) (pa_cons (pv 10) pa_nil)))) pss_nil))) (pss_cons (ps_set (i := 11) sc.nd rfl (.inl rfl) (pe_fc c_nearer hr (by decide) rfl (pa_cons (pv 4) (pa_cons (pv 5) (pa_cons (pv 6) (pa_cons (pv 8) pa_nil)))))) (pss_one (ps_if (PW.pt (pw_or (pt_not (pt_val (pe_fc c_l_is_cells hr (by decide) rfl (pa_cons (pv 11) (pa_cons (pe_op op_add (pe_callB (call_len_K (K := K) rfl) rfl T.free_len boot_len (pa_cons (pv 3) pa_nil)) pe_int) pa_nil))))) (pw_or1 (pt_cmpR (op_nePK (K := K) rfl hr.units) (pv 11) (pv 9) (nomark _))))) (pss_one (ps_ret pe_bl)) pss_nil)))))) (pss_cons (ps_set (i := 12) sc.nd rfl (.inl rfl) (pe_fc c_distances hr (by decide) rfl (pa_cons (pv 4) (pa_cons (pe_op op_cat (pv 5) (pe_lst (pa_cons (pe_fc c_l_draw hr (by decide) rfl (pa_cons (pv 1) (pa_cons (pe_callB (call_len_K (K := K) rfl) rfl T.free_len boot_len (pa_cons (pv 3) pa_nil)) pa_nil))) pa_nil))) (pa_cons (pv 6) pa_nil))))) (pss_cons (ps_for PassesOwn.never rfl (pi_range1 rfl T.free_range (pa_cons (pe_op op_add (pe_callB (call_len_K (K := K) rfl) rfl T.free_len boot_len (pa_cons (pv 3) pa_nil)) pe_int) pa_nil)) (pg_name (i := 8) sc.nd rfl (.inl rfl)) (pss_one (ps_if (pt_val (pe_fc c_l_less hr (by decide) rfl (pa_cons (pe_ix (ix_listK (K := K) rfl) (pv 12) (pv 8) (fun _ _ => rfl)) (pa_cons (pe_ix (ix_listK (K := K) rfl) (pv 7) (pv 8) (fun _ _ => rfl)) pa_nil)))) (pss_one (ps_ret pe_bl)) pss_nil))) (pss_one (ps_ret (pe_cmpR (op_eqPK (K := K) rfl hr.units) (pe_fc c_distances hr (by decide) rfl (pa_cons (pv 4) (pa_cons (pv 5) (pa_cons (pv 6) pa_nil)))) (pv 7) (nomark _)))))))))))))), ?_⟩
    refine sq ?_
    refine st_box (K := K) hm N (cp_call0 (ca_cons0 (cp_var rfl hu0) (ca_cons0 cp_int (ca_cons0 cp_int ca_nil0)))) (by first | rfl | simp only [o2, Option.bind_assoc, Option.bind_some]) fun ds1 pb2 W3 B4 H5 hm N eb6 fp7 => ?_
    replace hu0 := Rp.mono eb6 hu0
    refine gnx ?_
    refine sq ?_
    refine st_asgS (K := K) hm N (cs_callM ln_id rfl csa_nil) (by first | rfl | simp only [o2, Option.bind_assoc, Option.bind_some]) fun l_made_here9 s10 v11 W12 B13 H14 hm N eb15 h16 => ?_
    try dsimp only at hm
    replace hu0 := Rp.mono eb15 hu0
    refine gnx ?_
    refine sq ?_
    refine st_asg (K := K) hm N.ex (cp_ih3_0 (cp_var rfl h16)) rfl fun l_near_here17 v18 B19 H20 _ hm g21 h22 => ?_
    replace N := N.pure g21
    replace hu0 := Rp.mono g21.b hu0
    replace h16 := Rp.mono g21.b h16
    refine gnx ?_
    refine sq ?_
    refine st_asg (K := K) hm N.ex (cp_call0 (ca_cons0 (cp_var rfl h22) (ca_cons0 (cp_ih3_1 (cp_var rfl h16)) (ca_cons0 (cp_ih3_2 (cp_var rfl h16)) ca_nil0)))) (by first | rfl | simp only [o2, Option.bind_assoc, Option.bind_some]) fun l_floor23 v24 B25 H26 _ hm g27 h28 => ?_
    replace N := N.pure g27
    replace hu0 := Rp.mono g27.b hu0
    replace h16 := Rp.mono g27.b h16
    replace h22 := Rp.mono g27.b h22
    refine gnx ?_
    refine sq ?_
    refine st_asgS (K := K) hm N (cs_callM ln_id rfl (csa_cons (Cp.s (cp_cb rc_lenL (ca_cons (cp_var rfl h22) ca_nil))) (csa_cons (Cp.s cp_int) csa_nil))) (by first | rfl | simp only [o2, Option.bind_assoc, Option.bind_some]) fun l_closed32 s33 v34 W35 B36 H37 hm N eb38 h39 => ?_
    try dsimp only at hm
    replace hu0 := Rp.mono eb38 hu0
    replace h16 := Rp.mono eb38 h16
    replace h22 := Rp.mono eb38 h22
    replace h28 := Rp.mono eb38 h28
    refine gnx ?_
    refine sq ?_
    refine st_asgS (K := K) hm N (cs_callM ln_id rfl (csa_cons (Cp.s (cp_cb rc_lenL (ca_cons (cp_var rfl h22) ca_nil))) (csa_cons (Cp.s cp_int) csa_nil))) (by first | rfl | simp only [o2, Option.bind_assoc, Option.bind_some]) fun l_aims43 s44 v45 W46 B47 H48 hm N eb49 h50 => ?_
    try dsimp only at hm
    replace hu0 := Rp.mono eb49 hu0
    replace h16 := Rp.mono eb49 h16
    replace h22 := Rp.mono eb49 h22
    replace h28 := Rp.mono eb49 h28
    replace h39 := Rp.mono eb49 h39
    refine gnx ?_
    refine sq ?_
    refine st_asg (K := K) hm N.ex (cp_call0 (ca_cons0 (cp_var rfl h28) (ca_cons0 (cp_var rfl h39) (ca_cons0 (cp_var rfl h50) ca_nil0)))) (by first | rfl | simp only [o2, Option.bind_assoc, Option.bind_some]) fun l_spans51 v52 B53 H54 _ hm g55 h56 => ?_
    replace N := N.pure g55
    replace hu0 := Rp.mono g55.b hu0
    replace h16 := Rp.mono g55.b h16
    replace h22 := Rp.mono g55.b h22
    replace h28 := Rp.mono g55.b h28
    replace h39 := Rp.mono g55.b h39
    replace h50 := Rp.mono g55.b h50
    refine gnx ?_
    refine sq ?_
    refine st_forF_r1 (K := K) (fun Be (s : (List Int)) B σ H => ∃ (W : Hp) (o8 : Option V) (o9 : Option V) (o10 : Option V) (o11 : Option V) (o12 : Option V), Now noM Bs Hs (OwBox K pb2) W B H s ∧ Ex B53 B ∧ Ex Be B ∧ σ = [some u0, some (.ref pb2), some v11, some v18, some v24, some v34, some v45, some v52, o8, o9, o10, o11, o12]) hm N.ex (ca_cons (cp_op r2_add (cp_cb rc_lenL (ca_cons (cp_var rfl h22) ca_nil)) cp_int) ca_nil) (by first | rfl | simp only [o2, Option.bind_assoc, Option.bind_some]) (fun Be H1 g => ⟨_, _, _, _, _, _, N.pure g, g.b, Ex.refl _, rfl⟩) ?_ ?_
    · rintro Be x57 s58 B60 σ H61 v62 c63 N64 ⟨W59, _, _, _, _, _, N, eb69, ee70, rfl⟩ hv65 hm hn66 hk67 ht68
      unfold m_law_b1 at hm
      replace hu0 := Rp.mono eb69 hu0
      replace h16 := Rp.mono eb69 h16
      replace h22 := Rp.mono eb69 h22
      replace h28 := Rp.mono eb69 h28
      replace h39 := Rp.mono eb69 h39
      replace h50 := Rp.mono eb69 h50
      replace h56 := Rp.mono eb69 h56
      refine gnm ?_
      refine sq ?_
      refine st_asgL (K := K) hm N (Co.s (co_nil (α := Int))) (by first | rfl | simp only [o2, Option.bind_assoc, Option.bind_some]) fun l_due71 s72 pl73 W74 B75 H76 hm N eb77 fp78 => ?_
      replace eb69 := eb69.trans eb77
      replace ee70 := ee70.trans eb77
      replace hu0 := Rp.mono eb77 hu0
      replace h16 := Rp.mono eb77 h16
      replace h22 := Rp.mono eb77 h22
      replace h28 := Rp.mono eb77 h28
      replace h39 := Rp.mono eb77 h39
      replace h50 := Rp.mono eb77 h50
      replace h56 := Rp.mono eb77 h56
      replace hv65 := Rp.mono eb77 hv65
      try dsimp only at hm
      refine gnx ?_
      refine sq ?_
      refine st_forN_list (K := K) (fun Be (s : ((List Int) × (List Int))) B σ H => ∃ (W : Hp) (o10 : Option V) (o11 : Option V) (o12 : Option V), Now noM Bs Hs (star (OwBox K pb2) (OwL (α := Int) K pl73)) W B H s ∧ Ex B75 B ∧ Ex Be B ∧ σ = [some u0, some (.ref pb2), some v11, some v18, some v24, some v34, some v45, some v52, some v62, some (.ref pl73), o10, o11, o12]) hm N.ex (cp_call0 (ca_cons0 (cp_var rfl h22) (ca_cons0 (cp_ih3_1 (cp_var rfl h16)) (ca_cons0 (cp_var rfl hv65) ca_nil0)))) (by first | rfl | simp only [o2, Option.bind_assoc, Option.bind_some]) (fun Be s B σ H h => by obtain ⟨_, _, _, _, N, _, ee, _⟩ := h; exact ⟨ee, N.ex⟩) (fun Be H1 g => ⟨_, _, _, _, N.pure g, g.b, Ex.refl _, rfl⟩) ?_ ?_
      · rintro Be x79 s80 B82 σ H83 v84 c85 N86 ⟨W81, _, _, _, N, eb91, ee92, rfl⟩ hv87 hm hn88
        unfold m_law_b2 at hm
        replace eb69 := eb69.trans eb91
        replace ee70 := ee70.trans eb91
        replace hu0 := Rp.mono eb91 hu0
        replace h16 := Rp.mono eb91 h16
        replace h22 := Rp.mono eb91 h22
        replace h28 := Rp.mono eb91 h28
        replace h39 := Rp.mono eb91 h39
        replace h50 := Rp.mono eb91 h50
        replace h56 := Rp.mono eb91 h56
        replace hv65 := Rp.mono eb91 hv65
        refine gnm ?_
        refine st_if hm N.ex (ct_and (ct_B (cp_notN (cp_op r2_ixL (cp_var rfl h56) (cp_var rfl hv65)))) (ct_and (ct_B (cp_notN (cp_op r2_ixL (cp_var rfl h56) (cp_var rfl hv87)))) (ct_test (cp_op r2_eq (Cp.opt (cp_op r2_add (Cp.got (cp_op r2_ixL (cp_var rfl h56) (cp_var rfl hv87))) cp_int)) (cp_op r2_ixL (cp_var rfl h56) (cp_var rfl hv65)))))) (by first | rfl | simp only [o2, Option.bind_assoc, Option.bind_some]) (fun B93 H94 hc96 hm g95 => ?_) (fun B93 H94 hc96 hm g95 => ?_)
        · replace N := N.pure g95
          replace eb69 := eb69.trans g95.b
          replace ee70 := ee70.trans g95.b
          replace eb91 := eb91.trans g95.b
          replace ee92 := ee92.trans g95.b
          replace hu0 := Rp.mono g95.b hu0
          replace h16 := Rp.mono g95.b h16
          replace h22 := Rp.mono g95.b h22
          replace h28 := Rp.mono g95.b h28
          replace h39 := Rp.mono g95.b h39
          replace h50 := Rp.mono g95.b h50
          replace h56 := Rp.mono g95.b h56
          replace hv65 := Rp.mono g95.b hv65
          replace hv87 := Rp.mono g95.b hv87
          refine st_dropS (K := K) hm N (cs_append ln_r rfl (Cp.s (cp_var rfl hv87))) (by first | rfl | simp only [o2, Option.bind_assoc, Option.bind_some]) fun _ s99 W100 B101 H102 hm N eb103 => ?_
          try dsimp only at hm
          replace eb69 := eb69.trans eb103
          replace ee70 := ee70.trans eb103
          replace eb91 := eb91.trans eb103
          replace ee92 := ee92.trans eb103
          replace hu0 := Rp.mono eb103 hu0
          replace h16 := Rp.mono eb103 h16
          replace h22 := Rp.mono eb103 h22
          replace h28 := Rp.mono eb103 h28
          replace h39 := Rp.mono eb103 h39
          replace h50 := Rp.mono eb103 h50
          replace h56 := Rp.mono eb103 h56
          replace hv65 := Rp.mono eb103 hv65
          replace hv87 := Rp.mono eb103 hv87
          cases hm
          exact hn88 _ _ _ ⟨_, _, _, _, N, eb91, ee92, rfl⟩
        · replace N := N.pure g95
          replace eb69 := eb69.trans g95.b
          replace ee70 := ee70.trans g95.b
          replace eb91 := eb91.trans g95.b
          replace ee92 := ee92.trans g95.b
          replace hu0 := Rp.mono g95.b hu0
          replace h16 := Rp.mono g95.b h16
          replace h22 := Rp.mono g95.b h22
          replace h28 := Rp.mono g95.b h28
          replace h39 := Rp.mono g95.b h39
          replace h50 := Rp.mono g95.b h50
          replace h56 := Rp.mono g95.b h56
          replace hv65 := Rp.mono g95.b hv65
          replace hv87 := Rp.mono g95.b hv87
          refine nxt ?_
          cases hm
          exact hn88 _ _ _ ⟨_, _, _, _, N, eb91, ee92, rfl⟩
      · rintro Be s105 B107 σ H108 hm ⟨W106, _, _, _, N, eb109, _, rfl⟩
        replace eb69 := eb69.trans eb109
        replace ee70 := ee70.trans eb109
        replace hu0 := Rp.mono eb109 hu0
        replace h16 := Rp.mono eb109 h16
        replace h22 := Rp.mono eb109 h22
        replace h28 := Rp.mono eb109 h28
        replace h39 := Rp.mono eb109 h39
        replace h50 := Rp.mono eb109 h50
        replace h56 := Rp.mono eb109 h56
        replace hv65 := Rp.mono eb109 hv65
        refine gnx ?_
        obtain ⟨W110, B111, N, eb112, h113⟩ := N.freeze fp78
        replace eb69 := eb69.trans eb112
        replace ee70 := ee70.trans eb112
        replace hu0 := Rp.mono eb112 hu0
        replace h16 := Rp.mono eb112 h16
        replace h22 := Rp.mono eb112 h22
        replace h28 := Rp.mono eb112 h28
        replace h39 := Rp.mono eb112 h39
        replace h50 := Rp.mono eb112 h50
        replace h56 := Rp.mono eb112 h56
        replace hv65 := Rp.mono eb112 hv65
        refine sq ?_
        refine st_asg (K := K) hm N.ex (cp_call0 (ca_cons0 (cp_var rfl h28) (ca_cons0 (cp_var rfl h39) (ca_cons0 (cp_var rfl h50) (ca_cons0 (cp_var rfl hv65) ca_nil0))))) (by first | rfl | simp only [o2, Option.bind_assoc, Option.bind_some]) fun l_actual114 v115 B116 H117 _ hm g118 h119 => ?_
        replace N := N.pure g118
        replace eb69 := eb69.trans g118.b
        replace ee70 := ee70.trans g118.b
        replace hu0 := Rp.mono g118.b hu0
        replace h16 := Rp.mono g118.b h16
        replace h22 := Rp.mono g118.b h22
        replace h28 := Rp.mono g118.b h28
        replace h39 := Rp.mono g118.b h39
        replace h50 := Rp.mono g118.b h50
        replace h56 := Rp.mono g118.b h56
        replace hv65 := Rp.mono g118.b hv65
        replace h113 := Rp.mono g118.b h113
        refine gnx ?_
        refine st_if hm N.ex (ct_or (ct_not (ct_B (cp_call0 (ca_cons0 (cp_var rfl h119) (ca_cons0 (cp_op r2_add (cp_cb0 rc_lenL (ca_cons (cp_var rfl h22) ca_nil)) cp_int) ca_nil0))))) (ct_test (cp_op (r2_neD (by decide)) (cp_var rfl h119) (cp_var rfl h113)))) (by first | rfl | simp only [o2, Option.bind_assoc, Option.bind_some]) (fun B120 H121 hc123 hm g122 => ?_) (fun B120 H121 hc123 hm g122 => ?_)
        · replace N := N.pure g122
          replace eb69 := eb69.trans g122.b
          replace ee70 := ee70.trans g122.b
          replace hu0 := Rp.mono g122.b hu0
          replace h16 := Rp.mono g122.b h16
          replace h22 := Rp.mono g122.b h22
          replace h28 := Rp.mono g122.b h28
          replace h39 := Rp.mono g122.b h39
          replace h50 := Rp.mono g122.b h50
          replace h56 := Rp.mono g122.b h56
          replace hv65 := Rp.mono g122.b hv65
          replace h113 := Rp.mono g122.b h113
          replace h119 := Rp.mono g122.b h119
          refine st_retF (K := K) (m' := (some false)) hm N.ex cp_bl rfl fun x v B1 H1 hm g hv => ?_
          cases hm
          have hm := ht68 _ rfl
          cases hm
          exact hQ _ _ _ (N.g.then g) hv
        · replace N := N.pure g122
          replace eb69 := eb69.trans g122.b
          replace ee70 := ee70.trans g122.b
          replace hu0 := Rp.mono g122.b hu0
          replace h16 := Rp.mono g122.b h16
          replace h22 := Rp.mono g122.b h22
          replace h28 := Rp.mono g122.b h28
          replace h39 := Rp.mono g122.b h39
          replace h50 := Rp.mono g122.b h50
          replace h56 := Rp.mono g122.b h56
          replace hv65 := Rp.mono g122.b hv65
          replace h113 := Rp.mono g122.b h113
          replace h119 := Rp.mono g122.b h119
          refine nxt ?_
          cases hm
          exact hn66 _ _ _ _ rfl ⟨_, _, _, _, _, _, N, eb69, ee70, rfl⟩
    · rintro Be s125 B127 σ H128 hm ⟨W126, _, _, _, _, _, N, eb129, _, rfl⟩
      replace hu0 := Rp.mono eb129 hu0
      replace h16 := Rp.mono eb129 h16
      replace h22 := Rp.mono eb129 h22
      replace h28 := Rp.mono eb129 h28
      replace h39 := Rp.mono eb129 h39
      replace h50 := Rp.mono eb129 h50
      replace h56 := Rp.mono eb129 h56
      refine gnx ?_
      refine sq ?_
      refine st_asgS (K := K) hm N (cs_call (csa_cons (Cp.s (cp_var rfl h28)) (csa_cons (cs_op r2_cat (Cp.s (cp_var rfl h39)) (cs_lst (Csl.cons (cs_callM ln_id rfl (csa_cons (Cp.s (cp_cb rc_lenL (ca_cons (cp_var rfl h22) ca_nil))) csa_nil)) Csl.nil))) (csa_cons (Cp.s (cp_var rfl h50)) csa_nil)))) (by first | rfl | simp only [o2, Option.bind_assoc, Option.bind_some]) fun l_wider141 s142 v143 W144 B145 H146 hm N eb147 h148 => ?_
      try dsimp only at hm
      replace hu0 := Rp.mono eb147 hu0
      replace h16 := Rp.mono eb147 h16
      replace h22 := Rp.mono eb147 h22
      replace h28 := Rp.mono eb147 h28
      replace h39 := Rp.mono eb147 h39
      replace h50 := Rp.mono eb147 h50
      replace h56 := Rp.mono eb147 h56
      refine gnx ?_
      refine sq ?_
      refine st_forF_r1 (K := K) (fun Be (s : (List Int)) B σ H => ∃ (W : Hp) (o8 : Option V) (o9 : Option V) (o10 : Option V) (o11 : Option V), Now noM Bs Hs (OwBox K pb2) W B H s ∧ Ex B145 B ∧ Ex Be B ∧ σ = [some u0, some (.ref pb2), some v11, some v18, some v24, some v34, some v45, some v52, o8, o9, o10, o11, some v143]) hm N.ex (ca_cons (cp_op r2_add (cp_cb rc_lenL (ca_cons (cp_var rfl h22) ca_nil)) cp_int) ca_nil) (by first | rfl | simp only [o2, Option.bind_assoc, Option.bind_some]) (fun Be H1 g => ⟨_, _, _, _, _, N.pure g, g.b, Ex.refl _, rfl⟩) ?_ ?_
      · rintro Be x149 s150 B152 σ H153 v154 c155 N156 ⟨W151, _, _, _, _, N, eb161, ee162, rfl⟩ hv157 hm hn158 hk159 ht160
        unfold m_law_b3 at hm
        replace hu0 := Rp.mono eb161 hu0
        replace h16 := Rp.mono eb161 h16
        replace h22 := Rp.mono eb161 h22
        replace h28 := Rp.mono eb161 h28
        replace h39 := Rp.mono eb161 h39
        replace h50 := Rp.mono eb161 h50
        replace h56 := Rp.mono eb161 h56
        replace h148 := Rp.mono eb161 h148
        refine gnm ?_
        refine st_if hm N.ex (ct_B (cp_call (ca_cons (cp_op r2_ixL (cp_var rfl h148) (cp_var rfl hv157)) (ca_cons (cp_op r2_ixL (cp_var rfl h56) (cp_var rfl hv157)) ca_nil)))) (by first | rfl | simp only [o2, Option.bind_assoc, Option.bind_some]) (fun B163 H164 hc166 hm g165 => ?_) (fun B163 H164 hc166 hm g165 => ?_)
        · replace N := N.pure g165
          replace eb161 := eb161.trans g165.b
          replace ee162 := ee162.trans g165.b
          replace hu0 := Rp.mono g165.b hu0
          replace h16 := Rp.mono g165.b h16
          replace h22 := Rp.mono g165.b h22
          replace h28 := Rp.mono g165.b h28
          replace h39 := Rp.mono g165.b h39
          replace h50 := Rp.mono g165.b h50
          replace h56 := Rp.mono g165.b h56
          replace h148 := Rp.mono g165.b h148
          replace hv157 := Rp.mono g165.b hv157
          refine st_retF (K := K) (m' := (some false)) hm N.ex cp_bl rfl fun x v B1 H1 hm g hv => ?_
          cases hm
          have hm := ht160 _ rfl
          cases hm
          exact hQ _ _ _ (N.g.then g) hv
        · replace N := N.pure g165
          replace eb161 := eb161.trans g165.b
          replace ee162 := ee162.trans g165.b
          replace hu0 := Rp.mono g165.b hu0
          replace h16 := Rp.mono g165.b h16
          replace h22 := Rp.mono g165.b h22
          replace h28 := Rp.mono g165.b h28
          replace h39 := Rp.mono g165.b h39
          replace h50 := Rp.mono g165.b h50
          replace h56 := Rp.mono g165.b h56
          replace h148 := Rp.mono g165.b h148
          replace hv157 := Rp.mono g165.b hv157
          refine nxt ?_
          cases hm
          exact hn158 _ _ _ _ rfl ⟨_, _, _, _, _, N, eb161, ee162, rfl⟩
      · rintro Be s167 B169 σ H170 hm ⟨W168, _, _, _, _, N, eb171, _, rfl⟩
        replace hu0 := Rp.mono eb171 hu0
        replace h16 := Rp.mono eb171 h16
        replace h22 := Rp.mono eb171 h22
        replace h28 := Rp.mono eb171 h28
        replace h39 := Rp.mono eb171 h39
        replace h50 := Rp.mono eb171 h50
        replace h56 := Rp.mono eb171 h56
        replace h148 := Rp.mono eb171 h148
        refine gnx ?_
        refine st_ret (K := K) hm N.ex (cp_op (r2_eqD (by decide)) (cp_call0 (ca_cons0 (cp_var rfl h28) (ca_cons0 (cp_var rfl h39) (ca_cons0 (cp_var rfl h50) ca_nil0)))) (cp_var rfl h56)) (by first | rfl | simp only [o2, Option.bind_assoc, Option.bind_some]) fun v B1 H1 g hv => ?_
        exact hQ v B1 H1 (N.g.then g) hv
end
end Cw

set_option linter.all false
set_option maxRecDepth 100000
namespace Cw
open PySem L2 Cf
theorem forN_idx {α S : Type} {b : α → S → Option S} (I : Nat → S → Prop) (n : Nat) : ∀ (xs : List α) (i : Nat) (s : S), i + xs.length = n → I i s → (∀ x ∈ xs, ∀ i s, i < n → I i s → ∃ s', b x s = some s' ∧ I (i + 1) s') → ∃ s', forN b xs s = some s' ∧ I n s'
  | [], i, s, hn, h, _ => ⟨s, rfl, by subst hn; exact h⟩
  | x :: xs, i, s, hn, h, hb => by
    rw [List.length_cons] at hn
    obtain ⟨s', e, h'⟩ := hb x List.mem_cons_self i s (by omega) h
    obtain ⟨s2, e2, h2⟩ := forN_idx I n xs (i + 1) s' (by omega) h' fun y hy => hb y (List.mem_cons_of_mem _ hy)
    exact ⟨s2, by rw [forN_cons, e]; exact e2, h2⟩
theorem forF_idx {α S R : Type} {b : α → S → Option (Fl S R)} (I : Nat → S → Prop) (n : Nat) : ∀ (xs : List α) (i : Nat) (s : S), i + xs.length = n → I i s → (∀ x ∈ xs, ∀ i s, i < n → I i s → ∃ s', b x s = some (.nx s') ∧ I (i + 1) s') → ∃ s', forF b xs s = some (.nx s') ∧ I n s'
  | [], i, s, hn, h, _ => ⟨s, rfl, by subst hn; exact h⟩
  | x :: xs, i, s, hn, h, hb => by
    rw [List.length_cons] at hn
    obtain ⟨s', e, h'⟩ := hb x List.mem_cons_self i s (by omega) h
    obtain ⟨s2, e2, h2⟩ := forF_idx I n xs (i + 1) s' (by omega) h' fun y hy => hb y (List.mem_cons_of_mem _ hy)
    exact ⟨s2, by rw [forF_cons, e]; exact e2, h2⟩
theorem draw_some {ds : List Int} {n : Int} (h : 0 < n) : ∃ x ds', draw ds (n, ()) = some (x, ds') ∧ 0 ≤ x ∧ x < n := by
  cases ds with
  | nil => exact ⟨0, [], rfl, Int.le_refl _, h⟩
  | cons d ds => exact ⟨d % n, ds, by show ((pmod d n).bind fun x => some (x, ds)) = _; rw [pmod_some h]; rfl, Int.emod_nonneg _ (by omega), Int.emod_lt_of_pos _ h⟩
theorem papp_some {α : Type} {xs : List α} {x : α} (h : xs.length < 1000000) : papp xs x = some (xs ++ [x]) := if_pos h
theorem cell_some (ns : List Int) {k : Int} (hk : 0 ≤ k) : ∃ z, m_l_cell ⟨ns⟩ k = some z := by
  unfold m_l_cell
  show ∃ z, (if decide (k < (ns.length : Int)) = true then at? ns k else some 0) = some z
  by_cases h : k < (ns.length : Int)
  · rw [if_pos (decide_eq_true h), at_nat hk]
    exact ⟨ns[k.toNat]'(by omega), List.getElem?_eq_getElem (by omega)⟩
  · rw [if_neg (by simpa using h)]
    exact ⟨0, rfl⟩
theorem dig_b3 (S : Scr) (a l k c t : Int) (st : Unit × List Int) (s : Int) (h : st.2.length < 1000000) : ∃ x y, m_l_digits_b3 S a l k c t st s = some (((), st.2 ++ [x]), y) := by
  unfold m_l_digits_b3
  rw [pmul_r (by decide) (by decide), pmul_l (by decide) (by decide)]
  simp only [o2, Option.bind_some]
  rw [pmod_some (by decide), Option.bind_some, pdiv_some (by decide) (by decide)]
  simp only [Option.bind_some]
  rw [pmod_some (by decide), Option.bind_some]
  simp only [Option.bind_some]
  rw [papp_some h]
  exact ⟨_, _, rfl⟩
theorem dig_b2 (S : Scr) (a l k t : Int) (st : Unit × List Int) (c : Int) (h : st.2.length < 1000000) : ∃ s', m_l_digits_b2 S a l k t st c = some s' ∧ s'.1.2.length ≤ st.2.length + 1 := by
  unfold m_l_digits_b2
  rw [Option.bind_some]
  by_cases hc : c > 0
  · rw [if_pos (decide_eq_true hc), pmod_some (by decide)]
    simp only [Option.bind_some]
    rw [papp_some h, pdiv_some (by decide) (by decide)]
    exact ⟨_, rfl, by simp⟩
  · rw [if_neg (by simpa using hc)]
    exact ⟨_, rfl, Nat.le_succ _⟩
theorem dig_b1 (ns : List Int) (a l k : Int) (hk : 0 ≤ k) (st : Unit × List Int) (h : st.2.length < 900000) : ∃ s', m_l_digits_b1 ⟨ns⟩ a l k st = some s' ∧ s'.2.length ≤ st.2.length + 60 := by
  unfold m_l_digits_b1
  obtain ⟨c, hc⟩ := cell_some ns hk
  rw [hc, Option.bind_some]
  obtain ⟨c', e⟩ : ∃ c', (Option.bind (some (decide (c < (0 : Int)))) fun b => if b = true then (Option.bind (o2 (some (1 : Int)) (pmul (2 : Int) c) fun x y => some (x - y)) fun d => (some (st, d))) else (some (st, c))) = some (st, c') := by
    rw [Option.bind_some, pmul_l (by decide) (by decide)]
    by_cases h0 : c < 0
    · rw [if_pos (decide_eq_true h0)]
      exact ⟨_, rfl⟩
    · rw [if_neg (by simpa using h0)]
      exact ⟨_, rfl⟩
  rw [e, Option.bind_some]
  have hp : ppow 10 18 = some 1000000000000000000 := by decide +kernel
  rw [hp]
  simp only [o2, Option.bind_some]
  by_cases hb : c' ≥ 1000000000000000000
  · rw [if_pos (decide_eq_true hb)]
    obtain ⟨s', e1, h1⟩ := forN_idx (b := fun x (s : (Unit × List Int) × Int) => m_l_digits_b2 ⟨ns⟩ a l k x s.1 s.2) (fun i s => s.1.2.length ≤ st.2.length + i) 60 (rangeL 0 60) 0 (st, c') rfl (Nat.le_refl _) (fun x _ i s hi hI => by
      obtain ⟨s', e, hs⟩ := dig_b2 ⟨ns⟩ a l k x s.1 s.2 (by omega)
      exact ⟨s', e, by omega⟩)
    refine ⟨s'.1, ?_, h1⟩
    show (forN _ (rangeL 0 60) (st, c')).bind _ = _
    rw [e1]
    rfl
  · rw [if_neg (by simpa using hb), pmul_r (by decide) (by decide), pmul_r (by decide) (by decide)]
    simp only [Option.bind_some]
    rw [pmod_some (by decide)]
    obtain ⟨s', e1, h1⟩ := forN_idx (b := fun x (s : (Unit × List Int) × Int) => m_l_digits_b3 ⟨ns⟩ a l k c' x s.1 s.2) (fun i s => s.1.2.length ≤ st.2.length + i) 12 (rangeL 0 12) 0 (st, (c' * 48271 + k * 69621 + 11) % 2147483647) rfl (Nat.le_refl _) (fun x _ i s hi hI => by
      obtain ⟨x', y', e⟩ := dig_b3 ⟨ns⟩ a l k c' x s.1 s.2 (by omega)
      exact ⟨_, e, by simp; omega⟩)
    refine ⟨s'.1, ?_, by omega⟩
    show (forN _ (rangeL 0 12) (st, (c' * 48271 + k * 69621 + 11) % 2147483647)).bind _ = _
    rw [e1]
    rfl
theorem digits_some (ns : List Int) {a l : Int} (h0 : 0 ≤ a) (h1 : a ≤ l) (h2 : l ≤ 1000) : ∃ ds, m_l_digits ⟨ns⟩ a l = some ds := by
  unfold m_l_digits
  simp only [Option.bind_some]
  unfold prange2
  rw [if_pos (by omega)]
  obtain ⟨s', e1, h1⟩ := forN_idx (b := fun x (s : Unit × List Int) => m_l_digits_b1 ⟨ns⟩ a l x s) (fun i s => s.2.length ≤ 60 * i) (rangeL a l).length (rangeL a l) 0 ((), []) (Nat.zero_add _) (Nat.le_refl _) (fun x hx i s hi hI => by
    have hl := rangeL_len a l
    obtain ⟨s', e, hs⟩ := dig_b1 ns a l x (by have := mem_rangeL.mp hx; omega) s (by omega)
    exact ⟨s', e, by omega⟩)
  exact ⟨s'.2, by rw [Option.bind_some, e1]; rfl⟩
/-! ### drawn maps -/
theorem forN_fold {α S : Type} {b : α → S → Option S} {g : S → α → S} (I : Nat → S → Prop) (n : Nat) : ∀ (xs : List α) (i : Nat) (s : S), i + xs.length = n → I i s → (∀ x ∈ xs, ∀ i s, i < n → I i s → b x s = some (g s x) ∧ I (i + 1) (g s x)) → forN b xs s = some (xs.foldl g s)
  | [], _, _, _, _, _ => rfl
  | x :: xs, i, s, hn, h, hb => by
    rw [List.length_cons] at hn
    obtain ⟨e, h'⟩ := hb x List.mem_cons_self i s (by omega) h
    rw [forN_cons, e]
    exact forN_fold I n xs (i + 1) (g s x) (by omega) h' fun y hy => hb y (List.mem_cons_of_mem _ hy)
theorem fold_filter {α U : Type} (c : α → Bool) (u : U) : ∀ (xs acc : List α), xs.foldl (fun (s : U × List α) x => if c x = true then (s.1, s.2 ++ [x]) else s) (u, acc) = (u, acc ++ xs.filter c)
  | [], acc => by rw [List.filter_nil, List.append_nil]; rfl
  | x :: xs, acc => by
    rw [List.foldl_cons]
    by_cases h : c x = true
    · rw [if_pos h, fold_filter c u xs (acc ++ [x]), List.filter_cons_of_pos h, List.append_assoc]
      rfl
    · rw [if_neg h, fold_filter c u xs acc, List.filter_cons_of_neg h]
theorem fold_map {α β U : Type} (f : α → β) (u : U) : ∀ (xs : List α) (acc : List β), xs.foldl (fun (s : U × List β) x => (s.1, s.2 ++ [f x])) (u, acc) = (u, acc ++ xs.map f)
  | [], acc => by rw [List.map_nil, List.append_nil]; rfl
  | x :: xs, acc => by
    rw [List.foldl_cons, List.map_cons]
    show xs.foldl _ (u, acc ++ [f x]) = _
    rw [fold_map f u xs (acc ++ [f x]), List.append_assoc]
    rfl
theorem lcF_all {α β : Type} {t : α → Option Bool} {f : α → Option β} {c : α → Bool} {g : α → β} : ∀ {xs : List α}, (∀ x ∈ xs, t x = some (c x)) → (∀ x ∈ xs, c x = true → f x = some (g x)) → lcF t f xs = some ((xs.filter c).map g)
  | [], _, _ => rfl
  | x :: xs, ht, hf => by
    have ih := lcF_all (t := t) (f := f) (c := c) (g := g) (xs := xs) (fun y hy => ht y (List.mem_cons_of_mem _ hy)) (fun y hy => hf y (List.mem_cons_of_mem _ hy))
    show ((t x).bind fun b => if b = true then (f x).bind fun y => (lcF t f xs).bind fun ys => some (y :: ys) else lcF t f xs) = _
    rw [ht x List.mem_cons_self, Option.bind_some]
    by_cases h : c x = true
    · rw [if_pos h, hf x List.mem_cons_self h, ih, List.filter_cons_of_pos h]
      rfl
    · rw [if_neg h, ih, List.filter_cons_of_neg h]
theorem prange1_some {n : Int} (h : -1000000 ≤ n) (h2 : n ≤ 1000000) : prange1 n = some (rangeL 0 n) := if_pos (by omega)
theorem pbig_some {α : Type} {xs : List α} (h : xs.length < 1000000) : pbig xs = some xs := if_pos h
theorem plst_some {α : Type} {xs : List α} (h : xs.length < 1000000) : plst xs = some xs := if_pos h
theorem rangeL0 (n : Nat) : (rangeL 0 (n : Int)).length = n := by rw [rangeL_len]; omega
theorem at_lt {α : Type} {xs : List α} {i : Int} (h0 : 0 ≤ i) (h1 : i < (xs.length : Int)) : ∃ x, at? xs i = some x ∧ x ∈ xs := by
  rw [at_nat h0]
  exact ⟨xs[i.toNat]'(by omega), List.getElem?_eq_getElem (by omega), List.getElem_mem _⟩
theorem at_mem {α : Type} {xs : List α} {i : Int} {x : α} (h0 : 0 ≤ i) (h : at? xs i = some x) : x ∈ xs ∧ i < (xs.length : Int) := by
  rw [at_nat h0] at h
  obtain ⟨h1, h2⟩ := List.getElem?_eq_some_iff.mp h
  exact ⟨h2 ▸ List.getElem_mem _, by omega⟩
/-- a single sign -/
def Sgn (t : Str) : Prop := ∃ c, t = ⟨#[c]⟩
theorem sgn_len {t : Str} (h : Sgn t) : t.length = 1 := by
  obtain ⟨c, rfl⟩ := h
  rfl
theorem app_len (x y : Str) : (x ++ y).length = x.length + y.length := Array.size_append
theorem atS_ok {z : Str} {i : Int} (hz : z.length ≤ 1000) (h0 : 0 ≤ i) (h1 : i < (z.length : Int)) : ∃ c, atS? z i = some ⟨#[c]⟩ ∧ c ∈ z.cps.toList := by
  unfold atS?
  rw [if_pos (Nat.le_trans hz (by decide)), Option.bind_some]
  have hl : z.cps.toList.length = z.length := Array.length_toList
  obtain ⟨c, e, hm⟩ := at_lt (xs := z.cps.toList) h0 (by omega)
  rw [e]
  exact ⟨c, rfl, hm⟩
theorem pcat_ok {x y : Str} (h : x.length + y.length ≤ 1000) : pcat x y = some (x ++ y) := if_pos (Nat.le_trans h (by decide))
theorem inS_ok {t : Str} (z : Str) (h : Sgn t) : ∃ b, inS t z = some b := by
  obtain ⟨c, rfl⟩ := h
  exact ⟨_, rfl⟩
theorem inS_c (c : Nat) (z : Str) : inS ⟨#[c]⟩ z = some (decide (c ∈ z.cps.toList)) := rfl
theorem sgns_mem {z t : Str} (h : t ∈ sgns z) : ∃ c ∈ z.cps.toList, t = ⟨#[c]⟩ := by
  obtain ⟨c, hc, e⟩ := List.mem_map.mp h
  exact ⟨c, hc, e.symm⟩
theorem len_abc : ("abc" : Str).length = 3 := by decide +kernel
theorem len_ABCD : ("ABCD" : Str).length = 4 := by decide +kernel
theorem len_one : ("+" : Str).length = 1 := by decide +kernel
theorem len_nil : ("" : Str).length = 0 := by decide +kernel
theorem sgn_hash : Sgn "#" := ⟨35, by decide +kernel⟩
theorem sgn_plus : Sgn "+" := ⟨43, by decide +kernel⟩
theorem sgn_dot : Sgn "." := ⟨46, by decide +kernel⟩
theorem tile_ok (ds : List Int) (shuts many : Int) (hm : many ≤ 3) : ∃ t ds', m_l_tile ds (shuts, many, ()) = some (t, ds') ∧ Sgn t := by
  unfold m_l_tile n_l_tile
  obtain ⟨k, d1, e1, _, _⟩ := draw_some (ds := ds) (n := 12) (by decide)
  simp only [e1, o2, Option.bind_some, decide_true, decide_false, Bool.not_true, Bool.not_false, Bool.false_eq_true, Bool.true_eq_false, if_false, if_true, ite_true, ite_false, Bool.true_or, Bool.or_false, Bool.false_or, eq_self_iff_true, reduceCtorEq]
  by_cases h1 : k < shuts
  · rw [if_pos (decide_eq_true h1)]
    exact ⟨_, _, rfl, sgn_hash⟩
  rw [if_neg (by simpa using h1)]
  by_cases h0 : many > 0
  · obtain ⟨j, d2, e2, j0, j1⟩ := draw_some (ds := d1) (n := many) h0
    obtain ⟨c, ec, _⟩ := atS_ok (z := "abc") (i := j) (by rw [len_abc]; decide) j0 (by rw [len_abc]; omega)
    obtain ⟨c', ec', _⟩ := atS_ok (z := "ABCD") (i := j) (by rw [len_ABCD]; decide) j0 (by rw [len_ABCD]; omega)
    simp only [decide_eq_true h0, e2, ec, ec', o2, Option.bind_some, decide_true, decide_false, Bool.not_true, Bool.not_false, Bool.false_eq_true, Bool.true_eq_false, if_false, if_true, ite_true, ite_false, Bool.true_or, Bool.or_false, Bool.false_or, eq_self_iff_true, reduceCtorEq]
    by_cases h2 : k > 10
    · simp only [decide_eq_true h2, o2, Option.bind_some, decide_true, decide_false, Bool.not_true, Bool.not_false, Bool.false_eq_true, Bool.true_eq_false, if_false, if_true, ite_true, ite_false, Bool.true_or, Bool.or_false, Bool.false_or, eq_self_iff_true, reduceCtorEq]
      exact ⟨_, _, rfl, _, rfl⟩
    simp only [decide_eq_false h2, o2, Option.bind_some, decide_true, decide_false, Bool.not_true, Bool.not_false, Bool.false_eq_true, Bool.true_eq_false, if_false, if_true, ite_true, ite_false, Bool.true_or, Bool.or_false, Bool.false_or, eq_self_iff_true, reduceCtorEq]
    by_cases h3 : k > 8
    · simp only [decide_eq_true h3, o2, Option.bind_some, decide_true, decide_false, Bool.not_true, Bool.not_false, Bool.false_eq_true, Bool.true_eq_false, if_false, if_true, ite_true, ite_false, Bool.true_or, Bool.or_false, Bool.false_or, eq_self_iff_true, reduceCtorEq]
      exact ⟨_, _, rfl, _, rfl⟩
    simp only [decide_eq_false h3, o2, Option.bind_some, decide_true, decide_false, Bool.not_true, Bool.not_false, Bool.false_eq_true, Bool.true_eq_false, if_false, if_true, ite_true, ite_false, Bool.true_or, Bool.or_false, Bool.false_or, eq_self_iff_true, reduceCtorEq]
    by_cases h4 : k > 7
    · simp only [decide_eq_true h4, o2, Option.bind_some, decide_true, decide_false, Bool.not_true, Bool.not_false, Bool.false_eq_true, Bool.true_eq_false, if_false, if_true, ite_true, ite_false, Bool.true_or, Bool.or_false, Bool.false_or, eq_self_iff_true, reduceCtorEq]
      exact ⟨_, _, rfl, sgn_plus⟩
    simp only [decide_eq_false h4, o2, Option.bind_some, decide_true, decide_false, Bool.not_true, Bool.not_false, Bool.false_eq_true, Bool.true_eq_false, if_false, if_true, ite_true, ite_false, Bool.true_or, Bool.or_false, Bool.false_or, eq_self_iff_true, reduceCtorEq]
    exact ⟨_, _, rfl, sgn_dot⟩
  · simp only [decide_eq_false h0, o2, Option.bind_some, decide_true, decide_false, Bool.not_true, Bool.not_false, Bool.false_eq_true, Bool.true_eq_false, if_false, if_true, ite_true, ite_false, Bool.true_or, Bool.or_false, Bool.false_or, eq_self_iff_true, reduceCtorEq]
    have e : (if decide (k > 10) = true then some false else (some false : Option Bool)) = some false := by split <;> rfl
    have e8 : (if decide (k > 8) = true then some false else (some false : Option Bool)) = some false := by split <;> rfl
    simp only [e, e8, o2, Option.bind_some, decide_true, decide_false, Bool.not_true, Bool.not_false, Bool.false_eq_true, Bool.true_eq_false, if_false, if_true, ite_true, ite_false, Bool.true_or, Bool.or_false, Bool.false_or, eq_self_iff_true, reduceCtorEq]
    by_cases h4 : k > 7
    · simp only [decide_eq_true h4, o2, Option.bind_some, decide_true, decide_false, Bool.not_true, Bool.not_false, Bool.false_eq_true, Bool.true_eq_false, if_false, if_true, ite_true, ite_false, Bool.true_or, Bool.or_false, Bool.false_or, eq_self_iff_true, reduceCtorEq]
      exact ⟨_, _, rfl, sgn_plus⟩
    simp only [decide_eq_false h4, o2, Option.bind_some, decide_true, decide_false, Bool.not_true, Bool.not_false, Bool.false_eq_true, Bool.true_eq_false, if_false, if_true, ite_true, ite_false, Bool.true_or, Bool.or_false, Bool.false_or, eq_self_iff_true, reduceCtorEq]
    exact ⟨_, _, rfl, sgn_dot⟩
/-- rows of one length -/
def Rows (h w : Nat) (rows : List Str) : Prop := rows.length = h ∧ ∀ r ∈ rows, r.length = w
theorem used_ok (rows : List Str) : ∃ us, m_l_used rows = some us ∧ us.length ≤ 3 ∧ ∀ u ∈ us, 0 ≤ u ∧ u < 3 := by
  unfold m_l_used
  simp only [o2, Option.bind_some, decide_true, decide_false, Bool.not_true, Bool.not_false, Bool.false_eq_true, Bool.true_eq_false, if_false, if_true, ite_true, ite_false, Bool.true_or, Bool.or_false, Bool.false_or, eq_self_iff_true, reduceCtorEq]
  rw [prange1_some (by decide) (by decide), Option.bind_some]
  obtain ⟨s, e, h1, h2⟩ := forN_idx (b := fun x (s : Unit × List Int) => m_l_used_b1 rows x s) (fun i s => s.2.length ≤ i ∧ ∀ u ∈ s.2, 0 ≤ u ∧ u < 3) 3 (rangeL 0 3) 0 ((), []) rfl ⟨Nat.le_refl _, fun u hu => by cases hu⟩ (fun k hk i s hi hI => by
    have hk := mem_rangeL.mp hk
    unfold m_l_used_b1
    rw [Option.bind_some]
    obtain ⟨c, ec, _⟩ := atS_ok (z := "ABCD") (i := k) (by rw [len_ABCD]; decide) hk.1 (by rw [len_ABCD]; omega)
    obtain ⟨c', ec', _⟩ := atS_ok (z := "abc") (i := k) (by rw [len_abc]; decide) hk.1 (by rw [len_abc]; omega)
    obtain ⟨s', e, h'⟩ := forN_all (b := fun x (s : Unit × List Int) => m_l_used_b2 rows k x s) (fun t => (t.2.length ≤ i ∨ (k ∈ t.2 ∧ t.2.length ≤ i + 1)) ∧ ∀ u ∈ t.2, 0 ≤ u ∧ u < 3) rows s ⟨.inl hI.1, hI.2⟩ (fun r _ t ht => by
      unfold m_l_used_b2
      simp only [ec, ec', o2, Option.bind_some, decide_true, decide_false, Bool.not_true, Bool.not_false, Bool.false_eq_true, Bool.true_eq_false, if_false, if_true, ite_true, ite_false, Bool.true_or, Bool.or_false, Bool.false_or, eq_self_iff_true, reduceCtorEq, inS_c]
      by_cases hm : k ∈ t.2
      · simp only [decide_eq_true hm, o2, Option.bind_some, decide_true, decide_false, Bool.not_true, Bool.not_false, Bool.false_eq_true, Bool.true_eq_false, if_false, if_true, ite_true, ite_false, Bool.true_or, Bool.or_false, Bool.false_or, eq_self_iff_true, reduceCtorEq]
        exact ⟨_, rfl, ht⟩
      · simp only [decide_eq_false hm, o2, Option.bind_some, decide_true, decide_false, Bool.not_true, Bool.not_false, Bool.false_eq_true, Bool.true_eq_false, if_false, if_true, ite_true, ite_false, Bool.true_or, Bool.or_false, Bool.false_or, eq_self_iff_true, reduceCtorEq]
        have hl : t.2.length ≤ i := ht.1.elim id fun h => absurd h.1 hm
        have key : ∃ b, (if decide (c ∈ r.cps.toList) = true then some true else some (decide (c' ∈ r.cps.toList))) = some b := by
          split
          · exact ⟨_, rfl⟩
          · exact ⟨_, rfl⟩
        obtain ⟨b, eb⟩ := key
        simp only [eb, o2, Option.bind_some, decide_true, decide_false, Bool.not_true, Bool.not_false, Bool.false_eq_true, Bool.true_eq_false, if_false, if_true, ite_true, ite_false, Bool.true_or, Bool.or_false, Bool.false_or, eq_self_iff_true, reduceCtorEq]
        cases b with
        | false => exact ⟨_, rfl, ht⟩
        | true =>
          simp only [o2, Option.bind_some, decide_true, decide_false, Bool.not_true, Bool.not_false, Bool.false_eq_true, Bool.true_eq_false, if_false, if_true, ite_true, ite_false, Bool.true_or, Bool.or_false, Bool.false_or, eq_self_iff_true, reduceCtorEq]
          rw [papp_some (by omega)]
          simp only [o2, Option.bind_some, decide_true, decide_false, Bool.not_true, Bool.not_false, Bool.false_eq_true, Bool.true_eq_false, if_false, if_true, ite_true, ite_false, Bool.true_or, Bool.or_false, Bool.false_or, eq_self_iff_true, reduceCtorEq]
          refine ⟨_, rfl, .inr ⟨List.mem_append_right _ List.mem_cons_self, by rw [List.length_append]; exact Nat.succ_le_succ hl⟩, fun u hu => ?_⟩
          rcases List.mem_append.mp hu with h | h
          · exact ht.2 u h
          · cases List.mem_singleton.mp h
            exact hk)
    refine ⟨s', by rw [e]; rfl, h'.1.elim (fun h => Nat.le_succ_of_le h) (fun h => h.2), h'.2⟩)
  rw [e]
  exact ⟨_, rfl, h1, h2⟩
theorem renamed_ok (r : Str) (us : List Int) (hr : r.length ≤ 100) (hl : us.length ≤ 3) (hu : ∀ u ∈ us, 0 ≤ u ∧ u < 3) : ∃ r', m_l_renamed r us = some r' ∧ r'.length = r.length := by
  unfold m_l_renamed
  simp only [o2, Option.bind_some, decide_true, decide_false, Bool.not_true, Bool.not_false, Bool.false_eq_true, Bool.true_eq_false, if_false, if_true, ite_true, ite_false, Bool.true_or, Bool.or_false, Bool.false_or, eq_self_iff_true, reduceCtorEq]
  have hsz : (sgns r).length = r.length := sgns_len r
  obtain ⟨s, e, h⟩ := forN_idx (b := fun x (s : Str) => m_l_renamed_b1 r us x s) (fun i s => s.length = i) r.length (sgns r) 0 "" (by omega) len_nil (fun x hx i s hi hI => by
    obtain ⟨c0, _, ex⟩ := sgns_mem hx
    subst ex
    unfold m_l_renamed_b1
    simp only [o2, Option.bind_some, decide_true, decide_false, Bool.not_true, Bool.not_false, Bool.false_eq_true, Bool.true_eq_false, if_false, if_true, ite_true, ite_false, Bool.true_or, Bool.or_false, Bool.false_or, eq_self_iff_true, reduceCtorEq]
    rw [prange1_some (by omega) (by omega), Option.bind_some]
    obtain ⟨t, e, ht⟩ := forN_all (b := fun y (t : Str) => m_l_renamed_b2 r us s ⟨#[c0]⟩ y t) Sgn (rangeL 0 (us.length : Int)) ⟨#[c0]⟩ ⟨c0, rfl⟩ (fun y hy t ht => by
      have hy := mem_rangeL.mp hy
      unfold m_l_renamed_b2
      obtain ⟨u, eu, hm⟩ := at_lt (xs := us) hy.1 hy.2
      have hu2 := hu u hm
      obtain ⟨c, ec, _⟩ := atS_ok (z := "ABCD") (i := u) (by rw [len_ABCD]; decide) hu2.1 (by rw [len_ABCD]; omega)
      obtain ⟨c', ec', _⟩ := atS_ok (z := "abc") (i := u) (by rw [len_abc]; decide) hu2.1 (by rw [len_abc]; omega)
      obtain ⟨c2, ec2, _⟩ := atS_ok (z := "ABCD") (i := y) (by rw [len_ABCD]; decide) hy.1 (by rw [len_ABCD]; omega)
      obtain ⟨c3, ec3, _⟩ := atS_ok (z := "abc") (i := y) (by rw [len_abc]; decide) hy.1 (by rw [len_abc]; omega)
      simp only [eu, ec, ec', ec2, ec3, o2, Option.bind_some, decide_true, decide_false, Bool.not_true, Bool.not_false, Bool.false_eq_true, Bool.true_eq_false, if_false, if_true, ite_true, ite_false, Bool.true_or, Bool.or_false, Bool.false_or, eq_self_iff_true, reduceCtorEq]
      have k1 : ∃ t', (if decide ((⟨#[c0]⟩ : Str) = ⟨#[c]⟩) = true then some (⟨#[c2]⟩ : Str) else some t) = some t' ∧ Sgn t' := by
        split
        · exact ⟨_, rfl, _, rfl⟩
        · exact ⟨_, rfl, ht⟩
      obtain ⟨t', et, ht'⟩ := k1
      simp only [et, o2, Option.bind_some, decide_true, decide_false, Bool.not_true, Bool.not_false, Bool.false_eq_true, Bool.true_eq_false, if_false, if_true, ite_true, ite_false, Bool.true_or, Bool.or_false, Bool.false_or, eq_self_iff_true, reduceCtorEq]
      split
      · exact ⟨_, rfl, _, rfl⟩
      · exact ⟨_, rfl, ht'⟩)
    rw [e]
    simp only [o2, Option.bind_some, decide_true, decide_false, Bool.not_true, Bool.not_false, Bool.false_eq_true, Bool.true_eq_false, if_false, if_true, ite_true, ite_false, Bool.true_or, Bool.or_false, Bool.false_or, eq_self_iff_true, reduceCtorEq]
    rw [pcat_ok (by rw [sgn_len ht, hI]; omega)]
    exact ⟨_, rfl, by rw [app_len, sgn_len ht, hI]⟩)
  rw [e]
  exact ⟨_, rfl, h⟩
/-- some sign that is a door -/
def Door (rows : List Str) : Prop := ∃ r ∈ rows, ∃ c ∈ r.cps.toList, c ∈ ("+abc" : Str).cps.toList
theorem has_door_in (rows : List Str) (r : Str) (hr : r ∈ rows) : ∀ xs : List Str, (∀ t ∈ xs, t ∈ sgns r) → ∃ f, forF (fun x (s : Unit) => m_l_has_door_b2 rows r x) xs () = some f ∧ ((f = .nx ()) ∨ (f = .rt true ∧ Door rows))
  | [], _ => ⟨_, rfl, .inl rfl⟩
  | x :: xs, h => by
    obtain ⟨c, hc, ex⟩ := sgns_mem (h x List.mem_cons_self)
    subst ex
    rw [forF_cons]
    unfold m_l_has_door_b2
    rw [inS_c, Option.bind_some]
    by_cases hd : c ∈ ("+abc" : Str).cps.toList
    · rw [if_pos (decide_eq_true hd)]
      exact ⟨_, rfl, .inr ⟨rfl, r, hr, c, hc, hd⟩⟩
    · rw [if_neg (by simpa using hd)]
      exact has_door_in rows r hr xs fun t ht => h t (List.mem_cons_of_mem _ ht)
theorem has_door_all (rows : List Str) : ∀ xs : List Str, (∀ t ∈ xs, t ∈ rows) → ∃ f, forF (fun x (s : Unit) => m_l_has_door_b1 rows x) xs () = some f ∧ ((f = .nx ()) ∨ (f = .rt true ∧ Door rows))
  | [], _ => ⟨_, rfl, .inl rfl⟩
  | r :: xs, h => by
    rw [forF_cons]
    obtain ⟨f, e, hf⟩ := has_door_in rows r (h r List.mem_cons_self) (sgns r) fun _ h => h
    unfold m_l_has_door_b1
    rw [Option.bind_some, Option.bind_some, e, Option.bind_some]
    rcases hf with hf | ⟨hf, hd⟩
    · subst hf
      exact has_door_all rows xs fun t ht => h t (List.mem_cons_of_mem _ ht)
    · subst hf
      exact ⟨_, rfl, .inr ⟨rfl, hd⟩⟩
theorem has_door_ok (rows : List Str) : ∃ b, m_l_has_door rows = some b ∧ (b = true → Door rows) := by
  unfold m_l_has_door
  obtain ⟨f, e, hf⟩ := has_door_all rows rows fun _ h => h
  rw [Option.bind_some, e, Option.bind_some]
  rcases hf with hf | ⟨hf, hd⟩
  · subst hf
    exact ⟨false, rfl, fun h => by cases h⟩
  · subst hf
    exact ⟨true, rfl, fun _ => hd⟩
theorem abc_in {c : Nat} (h : c ∈ ("abc" : Str).cps.toList) : c ∈ ("+abc" : Str).cps.toList := by
  have h1 : ("+abc" : Str).cps.toList = 43 :: ("abc" : Str).cps.toList := by decide +kernel
  rw [h1]
  exact List.mem_cons_of_mem _ h
theorem with_door_ok {h w : Nat} {rows : List Str} (hr : Rows (h + 1) (w + 1) rows) (hw : w ≤ 50) (hh : h ≤ 50) : ∃ rows', m_l_with_door rows = some rows' ∧ Rows (h + 1) (w + 1) rows' ∧ Door rows' := by
  obtain ⟨hl, hall⟩ := hr
  obtain ⟨r0, rest, rfl⟩ : ∃ r0 rest, rows = r0 :: rest := by
    cases rows with
    | nil => cases hl
    | cons a b => exact ⟨a, b, rfl⟩
  have h0 : r0.length = w + 1 := hall r0 List.mem_cons_self
  unfold m_l_with_door
  have e0 : at? (r0 :: rest) 0 = some r0 := rfl
  obtain ⟨c, ec, _⟩ := atS_ok (z := r0) (i := 0) (by omega) (by decide) (by omega)
  simp only [e0, ec, o2, Option.bind_some, decide_true, decide_false, Bool.not_true, Bool.not_false, Bool.false_eq_true, Bool.true_eq_false, if_false, if_true, ite_true, ite_false, Bool.true_or, Bool.or_false, Bool.false_or, eq_self_iff_true, reduceCtorEq]
  rw [prange1_some (by decide) (by decide), Option.bind_some]
  obtain ⟨t, e, ⟨d, et, hd⟩⟩ := forN_all (b := fun x (s : Str) => m_l_with_door_b1 (r0 :: rest) ⟨#[c]⟩ x s) (fun t => ∃ d, t = ⟨#[d]⟩ ∧ d ∈ ("+abc" : Str).cps.toList) (rangeL 0 3) "+" ⟨43, by decide +kernel, by decide +kernel⟩ (fun k hk t ht => by
    have hk := mem_rangeL.mp hk
    unfold m_l_with_door_b1
    obtain ⟨c1, ec1, _⟩ := atS_ok (z := "ABCD") (i := k) (by rw [len_ABCD]; decide) hk.1 (by rw [len_ABCD]; omega)
    obtain ⟨c2, ec2, hm2⟩ := atS_ok (z := "abc") (i := k) (by rw [len_abc]; decide) hk.1 (by rw [len_abc]; omega)
    simp only [ec1, ec2, o2, Option.bind_some, decide_true, decide_false, Bool.not_true, Bool.not_false, Bool.false_eq_true, Bool.true_eq_false, if_false, if_true, ite_true, ite_false, Bool.true_or, Bool.or_false, Bool.false_or, eq_self_iff_true, reduceCtorEq]
    split
    · exact ⟨_, rfl, c2, rfl, abc_in hm2⟩
    · exact ⟨_, rfl, ht⟩)
  rw [e]
  subst et
  have hz : r0.length ≤ sizeLine := Nat.le_trans (by omega : r0.length ≤ 1000) (by decide)
  have ecut : (cutS r0 (some 1) none).length = w := by
    unfold cutS Str.length
    rw [HT.sIx_none]
    rw [show ((1 : Int)) = ((1 : Nat) : Int) from rfl, HT.sIx_nat, List.size_toArray, List.length_take, List.length_drop, Array.length_toList]
    have : r0.cps.size = w + 1 := h0
    have hl2 : r0.length = w + 1 := h0
    show min (r0.cps.size - min 1 r0.cps.size) (r0.cps.size - min 1 r0.cps.size) = w
    omega
  simp only [pcutS, if_pos hz, o2, Option.bind_some, decide_true, decide_false, Bool.not_true, Bool.not_false, Bool.false_eq_true, Bool.true_eq_false, if_false, if_true, ite_true, ite_false, Bool.true_or, Bool.or_false, Bool.false_or, eq_self_iff_true, reduceCtorEq]
  rw [pcat_ok (by rw [ecut]; show 1 + w ≤ 1000; omega)]
  simp only [o2, Option.bind_some, decide_true, decide_false, Bool.not_true, Bool.not_false, Bool.false_eq_true, Bool.true_eq_false, if_false, if_true, ite_true, ite_false, Bool.true_or, Bool.or_false, Bool.false_or, eq_self_iff_true, reduceCtorEq]
  rw [plst_some (show ([(⟨#[d]⟩ : Str) ++ cutS r0 (some 1) none] : List Str).length < 1000000 from by show 1 < 1000000; decide)]
  have ec2 : cut (r0 :: rest) (some 1) none = rest := by
    unfold cut
    rw [HT.sIx_none, show ((1 : Int)) = ((1 : Nat) : Int) from rfl, HT.sIx_nat, List.length_cons, Nat.min_eq_left (by omega)]
    exact List.take_of_length_le (by rw [List.drop_one, List.tail_cons]; omega)
  simp only [o2, Option.bind_some, decide_true, decide_false, Bool.not_true, Bool.not_false, Bool.false_eq_true, Bool.true_eq_false, if_false, if_true, ite_true, ite_false, Bool.true_or, Bool.or_false, Bool.false_or, eq_self_iff_true, reduceCtorEq, ec2]
  rw [List.length_cons] at hl
  rw [plst_some (by simp; omega)]
  refine ⟨_, rfl, ⟨by simp; omega, fun r hr => ?_⟩, _, List.mem_cons_self, d, ?_, hd⟩
  · rcases List.mem_cons.mp hr with h | h
    · rw [h, app_len, ecut]
      show 1 + w = w + 1
      omega
    · exact hall r (List.mem_cons_of_mem _ h)
  · show d ∈ (#[d] ++ (cutS r0 (some 1) none).cps).toList
    rw [Array.toList_append]
    exact List.mem_append_left _ List.mem_cons_self
theorem rows_ok (ds : List Int) : ∃ h w rows ds', m_l_rows ds () = some (rows, ds') ∧ Rows (h + 1) (w + 1) rows ∧ h < 5 ∧ w < 6 ∧ Door rows := by
  unfold m_l_rows n_l_rows
  obtain ⟨a, d1, e1, a0, a1⟩ := draw_some (ds := ds) (n := 5) (by decide)
  obtain ⟨b, d2, e2, b0, b1⟩ := draw_some (ds := d1) (n := 6) (by decide)
  obtain ⟨c, d3, e3, _, _⟩ := draw_some (ds := d2) (n := 3) (by decide)
  obtain ⟨m, d4, e4, m0, m1⟩ := draw_some (ds := d3) (n := 4) (by decide)
  simp only [e1, e2, e3, o2, Option.bind_some, decide_true, decide_false, Bool.not_true, Bool.not_false, Bool.false_eq_true, Bool.true_eq_false, if_false, if_true, ite_true, ite_false, Bool.true_or, Bool.or_false, Bool.false_or, eq_self_iff_true, reduceCtorEq]
  rw [pmul_l (by decide) (by decide)]
  simp only [e4, o2, Option.bind_some, decide_true, decide_false, Bool.not_true, Bool.not_false, Bool.false_eq_true, Bool.true_eq_false, if_false, if_true, ite_true, ite_false, Bool.true_or, Bool.or_false, Bool.false_or, eq_self_iff_true, reduceCtorEq]
  rw [prange1_some (by omega) (by omega), Option.bind_some]
  have hlen : (rangeL 0 (1 + a)).length = a.toNat + 1 := by rw [rangeL_len]; omega
  have hlenb : (rangeL 0 (1 + b)).length = b.toNat + 1 := by rw [rangeL_len]; omega
  obtain ⟨s, e, hs⟩ := forN_idx (b := fun x (s : List Int × List Str) => m_l_rows_b1 (1 + a) (1 + b) (2 * c) m x s) (fun i s => Rows i (b.toNat + 1) s.2) (a.toNat + 1) (rangeL 0 (1 + a)) 0 (d4, []) (by omega) ⟨rfl, fun r hr => by cases hr⟩ (fun x _ i s hi hI => by
    unfold m_l_rows_b1
    simp only [o2, Option.bind_some, decide_true, decide_false, Bool.not_true, Bool.not_false, Bool.false_eq_true, Bool.true_eq_false, if_false, if_true, ite_true, ite_false, Bool.true_or, Bool.or_false, Bool.false_or, eq_self_iff_true, reduceCtorEq]
    rw [prange1_some (by omega) (by omega), Option.bind_some]
    obtain ⟨t, e, ht⟩ := forN_idx (b := fun y (t : (List Int × List Str) × Str) => m_l_rows_b2 (1 + a) (1 + b) (2 * c) m x y t.1 t.2) (fun j t => t.1.2 = s.2 ∧ t.2.length = j) (b.toNat + 1) (rangeL 0 (1 + b)) 0 (s, "") (by omega) ⟨rfl, len_nil⟩ (fun y _ j t hj ht => by
      unfold m_l_rows_b2
      obtain ⟨tl, dd, et, htl⟩ := tile_ok t.1.1 (2 * c) m (by omega)
      simp only [et, o2, Option.bind_some, decide_true, decide_false, Bool.not_true, Bool.not_false, Bool.false_eq_true, Bool.true_eq_false, if_false, if_true, ite_true, ite_false, Bool.true_or, Bool.or_false, Bool.false_or, eq_self_iff_true, reduceCtorEq]
      rw [pcat_ok (by rw [sgn_len htl]; omega)]
      exact ⟨_, rfl, ht.1, by show (t.2 ++ tl).length = _; rw [app_len, sgn_len htl, ht.2]⟩)
    rw [e]
    have hl2 : t.1.2.length = i := by rw [ht.1]; exact hI.1
    simp only [o2, Option.bind_some, decide_true, decide_false, Bool.not_true, Bool.not_false, Bool.false_eq_true, Bool.true_eq_false, if_false, if_true, ite_true, ite_false, Bool.true_or, Bool.or_false, Bool.false_or, eq_self_iff_true, reduceCtorEq]
    rw [papp_some (by omega)]
    simp only [o2, Option.bind_some, decide_true, decide_false, Bool.not_true, Bool.not_false, Bool.false_eq_true, Bool.true_eq_false, if_false, if_true, ite_true, ite_false, Bool.true_or, Bool.or_false, Bool.false_or, eq_self_iff_true, reduceCtorEq]
    refine ⟨_, rfl, by simp [hl2], fun r hr => ?_⟩
    rcases List.mem_append.mp hr with h | h
    · rw [ht.1] at h
      exact hI.2 r h
    · cases List.mem_singleton.mp h
      exact ht.2)
  rw [e]
  simp only [o2, Option.bind_some, decide_true, decide_false, Bool.not_true, Bool.not_false, Bool.false_eq_true, Bool.true_eq_false, if_false, if_true, ite_true, ite_false, Bool.true_or, Bool.or_false, Bool.false_or, eq_self_iff_true, reduceCtorEq]
  obtain ⟨us, eu, hu1, hu2⟩ := used_ok s.2
  rw [eu]
  simp only [o2, Option.bind_some, decide_true, decide_false, Bool.not_true, Bool.not_false, Bool.false_eq_true, Bool.true_eq_false, if_false, if_true, ite_true, ite_false, Bool.true_or, Bool.or_false, Bool.false_or, eq_self_iff_true, reduceCtorEq]
  have hsl : s.2.length = a.toNat + 1 := hs.1
  rw [pbig_some (by omega), Option.bind_some]
  have hf : ∀ r ∈ s.2, ∃ r', m_l_renamed r us = some r' ∧ r'.length = r.length := fun r hr => renamed_ok r us (by have := hs.2 r hr; omega) hu1 hu2
  have er : lcF (fun x_l_row => some true) (fun x_l_row => m_l_renamed x_l_row us) s.2 = some ((s.2.filter fun _ => true).map fun r => (m_l_renamed r us).getD "") := lcF_all (fun _ _ => rfl) fun r hr _ => by
    obtain ⟨r', e, _⟩ := hf r hr
    rw [e]
    rfl
  rw [er]
  simp only [o2, Option.bind_some, decide_true, decide_false, Bool.not_true, Bool.not_false, Bool.false_eq_true, Bool.true_eq_false, if_false, if_true, ite_true, ite_false, Bool.true_or, Bool.or_false, Bool.false_or, eq_self_iff_true, reduceCtorEq]
  have hR : Rows (a.toNat + 1) (b.toNat + 1) ((s.2.filter fun _ => true).map fun r => (m_l_renamed r us).getD "") := by
    refine ⟨by rw [List.length_map, List.filter_eq_self.mpr (fun _ _ => rfl), hsl], fun r hr => ?_⟩
    obtain ⟨q, hq, e⟩ := List.mem_map.mp hr
    have hq := (List.mem_filter.mp hq).1
    obtain ⟨r', e', hl'⟩ := hf q hq
    rw [← e, e']
    show r'.length = _
    rw [hl', hs.2 q hq]
  generalize ((s.2.filter fun _ => true).map fun r => (m_l_renamed r us).getD "") = rows at hR
  obtain ⟨hb, eb, hbd⟩ := has_door_ok rows
  rw [eb]
  simp only [o2, Option.bind_some, decide_true, decide_false, Bool.not_true, Bool.not_false, Bool.false_eq_true, Bool.true_eq_false, if_false, if_true, ite_true, ite_false, Bool.true_or, Bool.or_false, Bool.false_or, eq_self_iff_true, reduceCtorEq]
  cases hb with
  | true => exact ⟨a.toNat, b.toNat, rows, s.1, rfl, hR, by omega, by omega, hbd rfl⟩
  | false =>
    obtain ⟨rows', e', hR', hd'⟩ := with_door_ok hR (by omega) (by omega)
    simp only [o2, Option.bind_some, decide_true, decide_false, Bool.not_true, Bool.not_false, Bool.false_eq_true, Bool.true_eq_false, if_false, if_true, ite_true, ite_false, Bool.true_or, Bool.or_false, Bool.false_or, eq_self_iff_true, reduceCtorEq, e']
    exact ⟨a.toNat, b.toNat, rows', s.1, rfl, hR', by omega, by omega, hd'⟩
theorem rangeL_succ (n : Nat) : rangeL 0 ((n + 1 : Nat) : Int) = rangeL 0 (n : Int) ++ [(n : Int)] := by
  unfold rangeL
  rw [show (((n + 1 : Nat) : Int) - 0).toNat = n + 1 by omega, show (((n : Nat) : Int) - 0).toNat = n by omega, List.range_succ, List.map_append, List.map_singleton, Int.zero_add]
theorem forN_app {α S : Type} {b : α → S → Option S} : ∀ (xs ys : List α) (s : S), forN b (xs ++ ys) s = (forN b xs s).bind fun s' => forN b ys s'
  | [], ys, s => rfl
  | x :: xs, ys, s => by
    rw [List.cons_append, forN_cons, forN_cons]
    cases b x s with
    | none => rfl
    | some s' => exact forN_app xs ys s'
theorem forN_rng {S : Type} {b : Int → S → Option S} (I : Nat → S → Prop) {s : S} (h0 : I 0 s) : ∀ (n : Nat), (∀ i s, i < n → I i s → ∃ s', b (i : Int) s = some s' ∧ I (i + 1) s') → ∃ s', forN b (rangeL 0 (n : Int)) s = some s' ∧ I n s'
  | 0, _ => ⟨s, rfl, h0⟩
  | n + 1, hb => by
    obtain ⟨s1, e1, h1⟩ := forN_rng I h0 n fun i s hi => hb i s (Nat.lt_succ_of_lt hi)
    obtain ⟨s2, e2, h2⟩ := hb n s1 (Nat.lt_succ_self n) h1
    refine ⟨s2, ?_, h2⟩
    rw [rangeL_succ, forN_app, e1, Option.bind_some, forN_cons, e2]
    rfl
theorem hash_eq (c : Nat) : ((⟨#[c]⟩ : Str) = "#") ↔ c = 35 := by
  have h : ("#" : Str) = ⟨#[35]⟩ := by decide +kernel
  rw [h]
  constructor
  · intro e
    have := congrArg (fun x : Str => x.cps.toList) e
    exact List.head_eq_of_cons_eq this
  · rintro rfl
    rfl
theorem abc_hash {c : Nat} (h : c ∈ ("+abc" : Str).cps.toList) : c ≠ 35 := by
  have e : ("+abc" : Str).cps.toList = [43, 97, 98, 99] := by decide +kernel
  rw [e] at h
  rintro rfl
  revert h
  decide
theorem at_nat' {α : Type} {xs : List α} {i : Nat} : at? xs (i : Int) = xs[i]? := by
  rw [at_nat (Int.natCast_nonneg i), Int.toNat_natCast]
theorem atS_nat {z : Str} {i : Nat} (hz : z.length ≤ 1000) : atS? z (i : Int) = (z.cps.toList[i]?).bind fun c => some ⟨#[c]⟩ := by
  unfold atS?
  rw [if_pos (Nat.le_trans hz (by decide)), Option.bind_some, at_nat']
def Places (h w : Nat) (ps : List (Int × Int)) : Prop := ∀ p ∈ ps, 0 ≤ p.1 ∧ p.1 < (h : Int) ∧ 0 ≤ p.2 ∧ p.2 < (w : Int)
theorem places_ok {h w : Nat} {rows : List Str} (hr : Rows h w rows) (hh : h ≤ 20) (hw : w ≤ 20) (hd : Door rows) : ∃ ps, m_l_places rows = some ps ∧ Places h w ps ∧ ps.length ≤ h * w ∧ ps ≠ [] := by
  obtain ⟨hl, hall⟩ := hr
  unfold m_l_places
  simp only [o2, Option.bind_some, decide_true, decide_false, Bool.not_true, Bool.not_false, Bool.false_eq_true, Bool.true_eq_false, if_false, if_true, ite_true, ite_false, Bool.true_or, Bool.or_false, Bool.false_or, eq_self_iff_true, reduceCtorEq]
  rw [hl, prange1_some (by omega) (by omega), Option.bind_some]
  obtain ⟨s, e, h1, h2, h3⟩ := forN_rng (b := fun x (s : Unit × List (Int × Int)) => m_l_places_b1 rows x s) (fun i s => Places h w s.2 ∧ s.2.length ≤ i * w ∧ ((∃ (k : Nat) (r : Str) (j : Nat) (c : Nat), k < i ∧ rows[k]? = some r ∧ r.cps.toList[j]? = some c ∧ c ≠ 35) → s.2 ≠ [])) (s := ((), [])) ⟨(fun p hp => by cases hp), Nat.zero_le _, fun hq => by
    obtain ⟨k, _, _, _, hk, _⟩ := hq
    exact absurd hk (Nat.not_lt_zero k)⟩ h (fun i s hi hI => by
    obtain ⟨i1, i2, i3⟩ := hI
    unfold m_l_places_b1
    obtain ⟨r, er⟩ : ∃ r, rows[i]? = some r := ⟨rows[i]'(by omega), List.getElem?_eq_getElem (by omega)⟩
    have hrw : r.length = w := hall r (List.mem_of_getElem? er)
    rw [at_nat', er]
    simp only [o2, Option.bind_some, decide_true, decide_false, Bool.not_true, Bool.not_false, Bool.false_eq_true, Bool.true_eq_false, if_false, if_true, ite_true, ite_false, Bool.true_or, Bool.or_false, Bool.false_or, eq_self_iff_true, reduceCtorEq]
    have hp : plenS r = some (w : Int) := by
      unfold plenS
      rw [if_pos (Nat.le_trans (by omega : r.length ≤ 1000) (by decide)), hrw]
    rw [hp, Option.bind_some, prange1_some (by omega) (by omega), Option.bind_some]
    obtain ⟨t, e, t1, t2, t3⟩ := forN_rng (b := fun y (t : Unit × List (Int × Int)) => m_l_places_b2 rows (i : Int) y t) (fun j t => Places h w t.2 ∧ t.2.length ≤ i * w + j ∧ ((s.2 ≠ [] ∨ ∃ (j' : Nat) (c : Nat), j' < j ∧ r.cps.toList[j']? = some c ∧ c ≠ 35) → t.2 ≠ [])) (s := s) ⟨i1, i2, fun h => h.elim id fun hq => by
      obtain ⟨j', _, hj, _⟩ := hq
      exact absurd hj (Nat.not_lt_zero j')⟩ w (fun j t hj hJ => by
      obtain ⟨t1, t2, t3⟩ := hJ
      unfold m_l_places_b2
      have hsz : r.cps.toList.length = w := by rw [Array.length_toList]; exact hrw
      obtain ⟨c, ec⟩ : ∃ c, r.cps.toList[j]? = some c := ⟨r.cps.toList[j]'(by omega), List.getElem?_eq_getElem (by omega)⟩
      rw [at_nat', er]
      simp only [o2, Option.bind_some, decide_true, decide_false, Bool.not_true, Bool.not_false, Bool.false_eq_true, Bool.true_eq_false, if_false, if_true, ite_true, ite_false, Bool.true_or, Bool.or_false, Bool.false_or, eq_self_iff_true, reduceCtorEq]
      rw [atS_nat (by omega), ec]
      simp only [o2, Option.bind_some, decide_true, decide_false, Bool.not_true, Bool.not_false, Bool.false_eq_true, Bool.true_eq_false, if_false, if_true, ite_true, ite_false, Bool.true_or, Bool.or_false, Bool.false_or, eq_self_iff_true, reduceCtorEq]
      have hlt : t.2.length < 1000000 := by
        have : i * w ≤ 20 * 20 := Nat.mul_le_mul (by omega) hw
        omega
      by_cases h35 : c = 35
      · have : decide ((⟨#[c]⟩ : Str) = "#") = true := decide_eq_true ((hash_eq c).mpr h35)
        rw [this]
        simp only [o2, Option.bind_some, decide_true, decide_false, Bool.not_true, Bool.not_false, Bool.false_eq_true, Bool.true_eq_false, if_false, if_true, ite_true, ite_false, Bool.true_or, Bool.or_false, Bool.false_or, eq_self_iff_true, reduceCtorEq]
        refine ⟨_, rfl, t1, by omega, fun hq => t3 ?_⟩
        rcases hq with hq | ⟨j', c', hj', ec', hc'⟩
        · exact .inl hq
        · by_cases hjj : j' = j
          · subst hjj
            rw [ec] at ec'
            cases ec'
            exact absurd h35 hc'
          · exact .inr ⟨j', c', by omega, ec', hc'⟩
      · have : decide ((⟨#[c]⟩ : Str) = "#") = false := decide_eq_false fun h => h35 ((hash_eq c).mp h)
        rw [this]
        simp only [o2, Option.bind_some, decide_true, decide_false, Bool.not_true, Bool.not_false, Bool.false_eq_true, Bool.true_eq_false, if_false, if_true, ite_true, ite_false, Bool.true_or, Bool.or_false, Bool.false_or, eq_self_iff_true, reduceCtorEq]
        rw [papp_some hlt]
        simp only [o2, Option.bind_some, decide_true, decide_false, Bool.not_true, Bool.not_false, Bool.false_eq_true, Bool.true_eq_false, if_false, if_true, ite_true, ite_false, Bool.true_or, Bool.or_false, Bool.false_or, eq_self_iff_true, reduceCtorEq]
        refine ⟨_, rfl, fun p hp => ?_, by rw [List.length_append, List.length_singleton]; omega, fun _ hq => ?_⟩
        · rcases List.mem_append.mp hp with hp | hp
          · exact t1 p hp
          · cases List.mem_singleton.mp hp
            exact ⟨by omega, by omega, by omega, by omega⟩
        · exact absurd (List.append_eq_nil_iff.mp hq).2 (by simp))
    rw [e]
    refine ⟨t, rfl, t1, by rw [Nat.succ_mul]; exact t2, fun hq => ?_⟩
    obtain ⟨k, r', j, c, hk, ek, ec, hc⟩ := hq
    refine t3 ?_
    by_cases hki : k = i
    · subst hki
      rw [er] at ek
      cases ek
      refine .inr ⟨j, c, ?_, ec, hc⟩
      have := (List.getElem?_eq_some_iff.mp ec).1
      rw [Array.length_toList] at this
      have h9 : r.cps.size = w := hrw
      omega
    · exact .inl (i3 ⟨k, r', j, c, by omega, ek, ec, hc⟩))
  rw [e]
  refine ⟨_, rfl, h1, h2, h3 ?_⟩
  obtain ⟨r, hr, c, hc, ha⟩ := hd
  obtain ⟨k, hk, ek⟩ := List.getElem_of_mem hr
  obtain ⟨j, hj, ej⟩ := List.getElem_of_mem hc
  exact ⟨k, r, j, c, by omega, by rw [List.getElem?_eq_getElem hk, ek], by rw [List.getElem?_eq_getElem hj, ej], abc_hash ha⟩
/-- one step apart -/
def adj (p q : Int × Int) : Bool := decide (pabs (p.1 - q.1) + pabs (p.2 - q.2) = 1)
theorem pabs_comm (a b : Int) : pabs (a - b) = pabs (b - a) := by
  unfold pabs
  split <;> split <;> omega
theorem adj_comm (p q : Int × Int) : adj p q = adj q p := by
  unfold adj
  rw [pabs_comm p.1, pabs_comm p.2]
def pl (ps : List (Int × Int)) (i : Int) : Int × Int := (at? ps i).getD (0, 0)
def nearRow (ps : List (Int × Int)) (i : Int) : List Int := (rangeL 0 (ps.length : Int)).filter fun j => adj (pl ps i) (pl ps j)
theorem pl_some {ps : List (Int × Int)} {i : Int} (h0 : 0 ≤ i) (h1 : i < (ps.length : Int)) : at? ps i = some (pl ps i) := by
  obtain ⟨x, e, _⟩ := at_lt h0 h1
  unfold pl
  rw [e]
  rfl
theorem near_ok {ps : List (Int × Int)} (hl : ps.length ≤ 1000) : m_l_near ps = some ((rangeL 0 (ps.length : Int)).map (nearRow ps)) := by
  unfold m_l_near
  simp only [o2, Option.bind_some, decide_true, decide_false, Bool.not_true, Bool.not_false, Bool.false_eq_true, Bool.true_eq_false, if_false, if_true, ite_true, ite_false, Bool.true_or, Bool.or_false, Bool.false_or, eq_self_iff_true, reduceCtorEq]
  rw [prange1_some (by omega) (by omega), Option.bind_some]
  have hlen := rangeL0 ps.length
  rw [forN_fold (b := fun x (s : Unit × List (List Int)) => m_l_near_b1 ps x s) (g := fun s x => (s.1, s.2 ++ [nearRow ps x])) (fun i s => s.2.length = i) ps.length (rangeL 0 (ps.length : Int)) 0 ((), []) (by omega) rfl (fun x hx i s hi hI => by
    have hx := mem_rangeL.mp hx
    unfold m_l_near_b1
    simp only [o2, Option.bind_some, decide_true, decide_false, Bool.not_true, Bool.not_false, Bool.false_eq_true, Bool.true_eq_false, if_false, if_true, ite_true, ite_false, Bool.true_or, Bool.or_false, Bool.false_or, eq_self_iff_true, reduceCtorEq]
    rw [prange1_some (by omega) (by omega), Option.bind_some]
    rw [forN_fold (b := fun y (t : (Unit × List (List Int)) × List Int) => m_l_near_b2 ps x y t) (g := fun t y => if adj (pl ps x) (pl ps y) = true then (t.1, t.2 ++ [y]) else t) (fun j t => t.2.length ≤ j) ps.length (rangeL 0 (ps.length : Int)) 0 (s, []) (by omega) (Nat.le_refl _) (fun y hy j t hj ht => by
      have hy := mem_rangeL.mp hy
      unfold m_l_near_b2
      simp only [pl_some hx.1 hx.2, pl_some hy.1 hy.2, o2, Option.bind_some, decide_true, decide_false, Bool.not_true, Bool.not_false, Bool.false_eq_true, Bool.true_eq_false, if_false, if_true, ite_true, ite_false, Bool.true_or, Bool.or_false, Bool.false_or, eq_self_iff_true, reduceCtorEq]
      by_cases ha : adj (pl ps x) (pl ps y) = true
      · have ha2 : decide (pabs ((pl ps x).1 - (pl ps y).1) + pabs ((pl ps x).2 - (pl ps y).2) = 1) = true := ha
        simp only [ha2, ha, o2, Option.bind_some, decide_true, decide_false, Bool.not_true, Bool.not_false, Bool.false_eq_true, Bool.true_eq_false, if_false, if_true, ite_true, ite_false, Bool.true_or, Bool.or_false, Bool.false_or, eq_self_iff_true, reduceCtorEq]
        rw [papp_some (by omega)]
        exact ⟨rfl, by rw [List.length_append, List.length_singleton]; omega⟩
      · have ha2 : decide (pabs ((pl ps x).1 - (pl ps y).1) + pabs ((pl ps x).2 - (pl ps y).2) = 1) = false := by
          have : adj (pl ps x) (pl ps y) = false := by simpa using ha
          exact this
        simp only [ha2, ha, o2, Option.bind_some, decide_true, decide_false, Bool.not_true, Bool.not_false, Bool.false_eq_true, Bool.true_eq_false, if_false, if_true, ite_true, ite_false, Bool.true_or, Bool.or_false, Bool.false_or, eq_self_iff_true, reduceCtorEq]
        exact ⟨by first | rfl | trivial, by show t.2.length ≤ j + 1; omega⟩), fold_filter (fun y => adj (pl ps x) (pl ps y)) s]
    simp only [o2, Option.bind_some, decide_true, decide_false, Bool.not_true, Bool.not_false, Bool.false_eq_true, Bool.true_eq_false, if_false, if_true, ite_true, ite_false, Bool.true_or, Bool.or_false, Bool.false_or, eq_self_iff_true, reduceCtorEq, List.nil_append]
    rw [papp_some (by omega)]
    exact ⟨rfl, by rw [List.length_append, hI]; rfl⟩), fold_map (nearRow ps) ()]
  rfl
theorem doors_ok {h w : Nat} {rows : List Str} {ps : List (Int × Int)} (hr : Rows h w rows) (hw : w ≤ 20) (hp : Places h w ps) (hl : ps.length ≤ 1000) : ∃ ds, m_l_doors rows ps = some ds ∧ ds.length ≤ ps.length ∧ ∀ d ∈ ds, 0 ≤ d ∧ d < (ps.length : Int) := by
  unfold m_l_doors
  rw [Option.bind_some, prange1_some (by omega) (by omega), Option.bind_some, pbig_some (by rw [rangeL0]; omega), Option.bind_some]
  have key : ∀ x ∈ rangeL 0 (ps.length : Int), ∃ b, (o2 (o2 (o2 (some rows) (Option.bind (at? ps x) fun x => some (x.1)) fun x y => at? x y) (Option.bind (at? ps x) fun x => some (x.2)) fun x y => atS? x y) (some ("+abcdefgh" : Str)) fun x y => inS x y) = some b := fun x hx => by
    have hx := mem_rangeL.mp hx
    obtain ⟨p, ep, hm⟩ := at_lt hx.1 hx.2
    obtain ⟨q1, q2, q3, q4⟩ := hp p hm
    obtain ⟨r, er, hrm⟩ := at_lt (xs := rows) q1 (by rw [hr.1]; exact q2)
    obtain ⟨c, ec, _⟩ := atS_ok (z := r) (by have := hr.2 r hrm; omega) q3 (by rw [hr.2 r hrm]; exact q4)
    simp only [ep, er, ec, o2, Option.bind_some, decide_true, decide_false, Bool.not_true, Bool.not_false, Bool.false_eq_true, Bool.true_eq_false, if_false, if_true, ite_true, ite_false, Bool.true_or, Bool.or_false, Bool.false_or, eq_self_iff_true, reduceCtorEq]
    exact inS_ok _ ⟨c, rfl⟩
  refine ⟨_, lcF_all (c := fun x => (o2 (o2 (o2 (some rows) (Option.bind (at? ps x) fun x => some (x.1)) fun x y => at? x y) (Option.bind (at? ps x) fun x => some (x.2)) fun x y => atS? x y) (some ("+abcdefgh" : Str)) fun x y => inS x y).getD false) (g := fun x => x) (fun x hx => ?_) (fun x _ _ => rfl), ?_, fun d hd => ?_⟩
  · obtain ⟨b, e⟩ := key x hx
    rw [e]
    rfl
  · rw [List.length_map]
    exact Nat.le_trans (List.length_filter_le _ _) (by rw [rangeL0]; exact Nat.le_refl _)
  · rw [List.map_id'] at hd
    exact mem_rangeL.mp (List.mem_filter.mp hd).1
theorem len_AH : ("ABCDEFGH" : Str).length = 8 := by decide +kernel
theorem len_ah : ("abcdefgh" : Str).length = 8 := by decide +kernel
theorem stations_ok {h w : Nat} {rows : List Str} {ps : List (Int × Int)} (hr : Rows h w rows) (hw : w ≤ 20) (hp : Places h w ps) (hl : ps.length ≤ 1000) : ∃ ss, m_l_stations rows ps = some ss ∧ ss.length ≤ 8 ∧ ∀ row ∈ ss, row ≠ [] ∧ ∀ d ∈ row, 0 ≤ d ∧ d < (ps.length : Int) := by
  unfold m_l_stations
  simp only [o2, Option.bind_some, decide_true, decide_false, Bool.not_true, Bool.not_false, Bool.false_eq_true, Bool.true_eq_false, if_false, if_true, ite_true, ite_false, Bool.true_or, Bool.or_false, Bool.false_or, eq_self_iff_true, reduceCtorEq]
  rw [prange1_some (by decide) (by decide), Option.bind_some]
  have hlen := rangeL0 ps.length
  obtain ⟨s, e, h1, h2⟩ := forN_rng (b := fun x (s : Unit × List (List Int)) => m_l_stations_b1 rows ps x s) (fun i s => s.2.length ≤ i ∧ ∀ row ∈ s.2, row ≠ [] ∧ ∀ d ∈ row, 0 ≤ d ∧ d < (ps.length : Int)) (s := ((), [])) ⟨Nat.le_refl _, fun r hr => by cases hr⟩ 8 (fun k s hk ⟨i1, i2⟩ => by
    unfold m_l_stations_b1
    simp only [o2, Option.bind_some, decide_true, decide_false, Bool.not_true, Bool.not_false, Bool.false_eq_true, Bool.true_eq_false, if_false, if_true, ite_true, ite_false, Bool.true_or, Bool.or_false, Bool.false_or, eq_self_iff_true, reduceCtorEq]
    rw [prange1_some (by omega) (by omega), Option.bind_some]
    obtain ⟨c1, ec1, _⟩ := atS_ok (z := "ABCDEFGH") (i := (k : Int)) (by rw [len_AH]; decide) (by omega) (by rw [len_AH]; omega)
    obtain ⟨c2, ec2, _⟩ := atS_ok (z := "abcdefgh") (i := (k : Int)) (by rw [len_ah]; decide) (by omega) (by rw [len_ah]; omega)
    obtain ⟨t, e, t1, t2, t3⟩ := forN_idx (b := fun y (t : (Unit × List (List Int)) × List Int) => m_l_stations_b2 rows ps (k : Int) y t) (fun j t => t.1 = s ∧ t.2.length ≤ j ∧ ∀ d ∈ t.2, 0 ≤ d ∧ d < (ps.length : Int)) ps.length (rangeL 0 (ps.length : Int)) 0 (s, []) (by omega) ⟨rfl, Nat.le_refl _, fun d hd => by cases hd⟩ (fun y hy j t hj ⟨t1, t2, t3⟩ => by
      have hy := mem_rangeL.mp hy
      unfold m_l_stations_b2
      obtain ⟨p, ep, hm⟩ := at_lt hy.1 hy.2
      obtain ⟨q1, q2, q3, q4⟩ := hp p hm
      obtain ⟨r, er, hrm⟩ := at_lt (xs := rows) q1 (by rw [hr.1]; exact q2)
      obtain ⟨c, ec, _⟩ := atS_ok (z := r) (by have := hr.2 r hrm; omega) q3 (by rw [hr.2 r hrm]; exact q4)
      simp only [ep, er, ec, ec1, ec2, o2, Option.bind_some, decide_true, decide_false, Bool.not_true, Bool.not_false, Bool.false_eq_true, Bool.true_eq_false, if_false, if_true, ite_true, ite_false, Bool.true_or, Bool.or_false, Bool.false_or, eq_self_iff_true, reduceCtorEq]
      have kb : ∃ b, (if decide ((⟨#[c]⟩ : Str) = ⟨#[c1]⟩) = true then some true else some (decide ((⟨#[c]⟩ : Str) = ⟨#[c2]⟩))) = some b := by
        split
        · exact ⟨_, rfl⟩
        · exact ⟨_, rfl⟩
      obtain ⟨b, eb⟩ := kb
      simp only [eb, o2, Option.bind_some, decide_true, decide_false, Bool.not_true, Bool.not_false, Bool.false_eq_true, Bool.true_eq_false, if_false, if_true, ite_true, ite_false, Bool.true_or, Bool.or_false, Bool.false_or, eq_self_iff_true, reduceCtorEq]
      cases b with
      | false => exact ⟨_, rfl, t1, by omega, t3⟩
      | true =>
        simp only [o2, Option.bind_some, decide_true, decide_false, Bool.not_true, Bool.not_false, Bool.false_eq_true, Bool.true_eq_false, if_false, if_true, ite_true, ite_false, Bool.true_or, Bool.or_false, Bool.false_or, eq_self_iff_true, reduceCtorEq]
        rw [papp_some (by omega)]
        simp only [o2, Option.bind_some, decide_true, decide_false, Bool.not_true, Bool.not_false, Bool.false_eq_true, Bool.true_eq_false, if_false, if_true, ite_true, ite_false, Bool.true_or, Bool.or_false, Bool.false_or, eq_self_iff_true, reduceCtorEq]
        refine ⟨_, rfl, t1, by rw [List.length_append, List.length_singleton]; omega, fun d hd => ?_⟩
        rcases List.mem_append.mp hd with hd | hd
        · exact t3 d hd
        · cases List.mem_singleton.mp hd
          exact hy)
    rw [e]
    simp only [o2, Option.bind_some, decide_true, decide_false, Bool.not_true, Bool.not_false, Bool.false_eq_true, Bool.true_eq_false, if_false, if_true, ite_true, ite_false, Bool.true_or, Bool.or_false, Bool.false_or, eq_self_iff_true, reduceCtorEq]
    by_cases hz : ((t.2.length : Int)) > 0
    · rw [decide_eq_true hz]
      simp only [o2, Option.bind_some, decide_true, decide_false, Bool.not_true, Bool.not_false, Bool.false_eq_true, Bool.true_eq_false, if_false, if_true, ite_true, ite_false, Bool.true_or, Bool.or_false, Bool.false_or, eq_self_iff_true, reduceCtorEq]
      rw [papp_some (by rw [t1]; omega)]
      simp only [o2, Option.bind_some, decide_true, decide_false, Bool.not_true, Bool.not_false, Bool.false_eq_true, Bool.true_eq_false, if_false, if_true, ite_true, ite_false, Bool.true_or, Bool.or_false, Bool.false_or, eq_self_iff_true, reduceCtorEq]
      refine ⟨_, rfl, by rw [List.length_append, List.length_singleton, t1]; omega, fun row hrow => ?_⟩
      rcases List.mem_append.mp hrow with hrow | hrow
      · rw [t1] at hrow
        exact i2 row hrow
      · cases List.mem_singleton.mp hrow
        exact ⟨fun z => by rw [z] at hz; exact absurd hz (by decide), t3⟩
    · rw [decide_eq_false hz]
      simp only [o2, Option.bind_some, decide_true, decide_false, Bool.not_true, Bool.not_false, Bool.false_eq_true, Bool.true_eq_false, if_false, if_true, ite_true, ite_false, Bool.true_or, Bool.or_false, Bool.false_or, eq_self_iff_true, reduceCtorEq]
      exact ⟨_, rfl, by rw [t1]; omega, by rw [t1]; exact i2⟩)
  rw [show ((8 : Nat) : Int) = (8 : Int) from rfl] at e
  rw [e]
  exact ⟨_, rfl, h1, h2⟩
/-- a drawn floor -/
structure Good (near : List (List Int)) (doors : List Int) (stations : List (List Int)) : Prop where
  pos : 0 < near.length
  small : near.length ≤ 30
  row : ∀ i, 0 ≤ i → i < (near.length : Int) → ∃ r, at? near i = some r ∧ r.length ≤ 30 ∧ ∀ j ∈ r, 0 ≤ j ∧ j < (near.length : Int)
  sym : ∀ i j r q, 0 ≤ i → 0 ≤ j → at? near i = some r → at? near j = some q → j ∈ r → i ∈ q
  door : ∀ d ∈ doors, 0 ≤ d ∧ d < (near.length : Int)
  dlen : doors.length ≤ 1000
  st : ∀ r ∈ stations, r ≠ [] ∧ ∀ d ∈ r, 0 ≤ d ∧ d < (near.length : Int)
  slen : stations.length ≤ 8
theorem at_map {f : Int → List Int} {n : Nat} {i : Int} {r : List Int} (h0 : 0 ≤ i) (e : at? ((rangeL 0 (n : Int)).map f) i = some r) : i < (n : Int) ∧ r = f i := by
  rw [at_nat h0, List.getElem?_map] at e
  cases hx : (rangeL 0 (n : Int))[i.toNat]? with
  | none =>
    rw [hx] at e
    cases e
  | some x =>
    rw [hx] at e
    cases e
    have h1 := (List.getElem?_eq_some_iff.mp hx).1
    rw [rangeL0] at h1
    have := rangeL_get hx
    refine ⟨by omega, ?_⟩
    rw [this]
    congr 1
    omega
theorem made_ok (ds : List Int) : ∃ near doors st ds', m_l_made ds () = some (⟨near, doors, st⟩, ds') ∧ Good near doors st := by
  unfold m_l_made n_l_made
  obtain ⟨h, w, rows, d1, e1, hR, hh, hw, hD⟩ := rows_ok ds
  simp only [e1, o2, Option.bind_some, decide_true, decide_false, Bool.not_true, Bool.not_false, Bool.false_eq_true, Bool.true_eq_false, if_false, if_true, ite_true, ite_false, Bool.true_or, Bool.or_false, Bool.false_or, eq_self_iff_true, reduceCtorEq]
  obtain ⟨ps, e2, hP, hl, hne⟩ := places_ok hR (by omega) (by omega) hD
  have hl30 : ps.length ≤ 30 := Nat.le_trans hl (by
    have : (h + 1) * (w + 1) ≤ 5 * 6 := Nat.mul_le_mul (by omega) (by omega)
    omega)
  simp only [e2, near_ok (show ps.length ≤ 1000 by omega), o2, Option.bind_some, decide_true, decide_false, Bool.not_true, Bool.not_false, Bool.false_eq_true, Bool.true_eq_false, if_false, if_true, ite_true, ite_false, Bool.true_or, Bool.or_false, Bool.false_or, eq_self_iff_true, reduceCtorEq]
  obtain ⟨dr, e3, hdl, hdr⟩ := doors_ok hR (by omega) hP (by omega)
  obtain ⟨ss, e4, hs1, hs2⟩ := stations_ok hR (by omega) hP (by omega)
  simp only [e3, e4, o2, Option.bind_some, decide_true, decide_false, Bool.not_true, Bool.not_false, Bool.false_eq_true, Bool.true_eq_false, if_false, if_true, ite_true, ite_false, Bool.true_or, Bool.or_false, Bool.false_or, eq_self_iff_true, reduceCtorEq]
  have hn : ((rangeL 0 (ps.length : Int)).map (nearRow ps)).length = ps.length := by rw [List.length_map, rangeL0]
  refine ⟨_, _, _, _, rfl, ⟨by rw [hn]; exact List.length_pos_iff.mpr hne, by rw [hn]; exact hl30, fun i h0 h1 => ?_, fun i j r q h0 h1 er eq hj => ?_, by rw [hn]; exact hdr, ?_, by rw [hn]; exact hs2, hs1⟩⟩
  · rw [hn] at h1 ⊢
    obtain ⟨r, er, _⟩ := at_lt (xs := (rangeL 0 (ps.length : Int)).map (nearRow ps)) h0 (by rw [hn]; exact h1)
    obtain ⟨_, e⟩ := at_map h0 er
    refine ⟨r, er, ?_, fun j hj => ?_⟩
    · rw [e]
      exact Nat.le_trans (List.length_filter_le _ _) (by rw [rangeL0]; exact hl30)
    · rw [e] at hj
      exact mem_rangeL.mp (List.mem_filter.mp hj).1
  · obtain ⟨hi, e⟩ := at_map h0 er
    obtain ⟨hj2, e'⟩ := at_map h1 eq
    rw [e] at hj
    rw [e']
    have ha := (List.mem_filter.mp hj).2
    exact List.mem_filter.mpr ⟨mem_rangeL.mpr ⟨h0, hi⟩, by rw [adj_comm]; exact ha⟩
  · omega
/-! ### the floor as an object -/
def row (near : List (List Int)) (p : Int) : List Int := (at? near p).getD []
def ar (near : List (List Int)) (doors : List Int) (p : Int) : List Int := if p = (near.length : Int) then doors else if p ∈ doors then row near p ++ [(near.length : Int)] else row near p
def flo (near : List (List Int)) (doors : List Int) (st : List (List Int)) : KFloor := ⟨(near, (near.length : Int), (near.length : Int), doors, st, (rangeL 0 (near.length : Int)).map (fun x => ((0 : Int), x)), ())⟩
theorem copy_ok {α : Type} {xs : List α} : lcF (fun _ => some true) (fun x => some x) xs = some xs := by
  rw [lcF_all (c := fun _ => true) (g := fun x => x) (fun _ _ => rfl) (fun _ _ _ => rfl), List.map_id', List.filter_eq_self.mpr (fun _ _ => rfl)]
theorem copy2_ok {α β : Type} {xs : List (α × β)} : lcF (fun _ => some true) (fun x => some (x.1, x.2)) xs = some xs := copy_ok
theorem floor_ok {near : List (List Int)} {doors : List Int} {st : List (List Int)} (g : Good near doors st) : m_floor_of near doors st = some (flo near doors st) := by
  unfold m_floor_of
  have hs := g.small
  have hl := g.slen
  simp only [o2, Option.bind_some, decide_true, decide_false, Bool.not_true, Bool.not_false, Bool.false_eq_true, Bool.true_eq_false, if_false, if_true, ite_true, ite_false, Bool.true_or, Bool.or_false, Bool.false_or, eq_self_iff_true, reduceCtorEq]
  rw [prange1_some (by omega) (by omega), Option.bind_some, pbig_some (by rw [rangeL0]; omega), Option.bind_some, lcF_all (c := fun _ => true) (g := fun x => ((0 : Int), x)) (fun _ _ => rfl) (fun _ _ _ => rfl), List.filter_eq_self.mpr (fun _ _ => rfl)]
  unfold m_Floor___init__ n_Floor___init__
  simp only [o2, Option.bind_some, decide_true, decide_false, Bool.not_true, Bool.not_false, Bool.false_eq_true, Bool.true_eq_false, if_false, if_true, ite_true, ite_false, Bool.true_or, Bool.or_false, Bool.false_or, eq_self_iff_true, reduceCtorEq]
  rw [pbig_some (by omega), Option.bind_some, copy_ok]
  simp only [o2, Option.bind_some, decide_true, decide_false, Bool.not_true, Bool.not_false, Bool.false_eq_true, Bool.true_eq_false, if_false, if_true, ite_true, ite_false, Bool.true_or, Bool.or_false, Bool.false_or, eq_self_iff_true, reduceCtorEq]
  rw [pbig_some (by omega), Option.bind_some, copy_ok]
  simp only [o2, Option.bind_some, decide_true, decide_false, Bool.not_true, Bool.not_false, Bool.false_eq_true, Bool.true_eq_false, if_false, if_true, ite_true, ite_false, Bool.true_or, Bool.or_false, Bool.false_or, eq_self_iff_true, reduceCtorEq]
  rw [pbig_some (by rw [List.length_map, rangeL0]; omega), Option.bind_some]
  rw [show lcF (fun x_row => some true) (fun x_row : Int × Int => some (x_row.1, x_row.2)) ((rangeL 0 (near.length : Int)).map fun x => ((0 : Int), x)) = some _ from copy2_ok]
  rfl
theorem row_some {near : List (List Int)} {doors : List Int} {st : List (List Int)} (g : Good near doors st) {p : Int} (h0 : 0 ≤ p) (h1 : p < (near.length : Int)) : at? near p = some (row near p) ∧ (row near p).length ≤ 30 ∧ ∀ j ∈ row near p, 0 ≤ j ∧ j < (near.length : Int) := by
  obtain ⟨r, e, hl, hr⟩ := g.row p h0 h1
  have : row near p = r := by unfold row; rw [e]; rfl
  rw [this]
  exact ⟨e, hl, hr⟩
theorem around_ok {near : List (List Int)} {doors : List Int} {st : List (List Int)} (g : Good near doors st) {p : Int} (h0 : 0 ≤ p) (h1 : p ≤ (near.length : Int)) : m_Floor_around (flo near doors st) p = some (ar near doors p) ∧ m_l_around near doors p = some (ar near doors p) := by
  unfold m_Floor_around m_l_around ar flo
  simp only [o2, Option.bind_some, decide_true, decide_false, Bool.not_true, Bool.not_false, Bool.false_eq_true, Bool.true_eq_false, if_false, if_true, ite_true, ite_false, Bool.true_or, Bool.or_false, Bool.false_or, eq_self_iff_true, reduceCtorEq]
  by_cases hp : p = (near.length : Int)
  · simp only [decide_eq_true hp, if_pos hp, o2, Option.bind_some, decide_true, decide_false, Bool.not_true, Bool.not_false, Bool.false_eq_true, Bool.true_eq_false, if_false, if_true, ite_true, ite_false, Bool.true_or, Bool.or_false, Bool.false_or, eq_self_iff_true, reduceCtorEq]
    exact ⟨by first | rfl | trivial, by first | rfl | trivial⟩
  · obtain ⟨e, hl, _⟩ := row_some g h0 (by omega)
    simp only [decide_eq_false hp, if_neg hp, e, o2, Option.bind_some, decide_true, decide_false, Bool.not_true, Bool.not_false, Bool.false_eq_true, Bool.true_eq_false, if_false, if_true, ite_true, ite_false, Bool.true_or, Bool.or_false, Bool.false_or, eq_self_iff_true, reduceCtorEq]
    by_cases hd : p ∈ doors
    · simp only [decide_eq_true hd, if_pos hd, o2, Option.bind_some, decide_true, decide_false, Bool.not_true, Bool.not_false, Bool.false_eq_true, Bool.true_eq_false, if_false, if_true, ite_true, ite_false, Bool.true_or, Bool.or_false, Bool.false_or, eq_self_iff_true, reduceCtorEq]
      rw [papp_some (by omega), plst_some (show ([(near.length : Int)]).length < 1000000 by show 1 < 1000000; decide)]
      simp only [o2, Option.bind_some, decide_true, decide_false, Bool.not_true, Bool.not_false, Bool.false_eq_true, Bool.true_eq_false, if_false, if_true, ite_true, ite_false, Bool.true_or, Bool.or_false, Bool.false_or, eq_self_iff_true, reduceCtorEq]
      rw [plst_some (by rw [List.length_append, List.length_singleton]; omega)]
      exact ⟨by first | rfl | trivial, by first | rfl | trivial⟩
    · simp only [decide_eq_false hd, if_neg hd, o2, Option.bind_some, decide_true, decide_false, Bool.not_true, Bool.not_false, Bool.false_eq_true, Bool.true_eq_false, if_false, if_true, ite_true, ite_false, Bool.true_or, Bool.or_false, Bool.false_or, eq_self_iff_true, reduceCtorEq]
      exact ⟨by first | rfl | trivial, by first | rfl | trivial⟩
theorem ar_in {near : List (List Int)} {doors : List Int} {st : List (List Int)} (g : Good near doors st) {p o : Int} (h0 : 0 ≤ p) (h1 : p ≤ (near.length : Int)) (h : o ∈ ar near doors p) : 0 ≤ o ∧ o ≤ (near.length : Int) := by
  unfold ar at h
  by_cases hp : p = (near.length : Int)
  · rw [if_pos hp] at h
    have := g.door o h
    omega
  · rw [if_neg hp] at h
    obtain ⟨_, _, hr⟩ := row_some g h0 (by omega)
    by_cases hd : p ∈ doors
    · rw [if_pos hd] at h
      rcases List.mem_append.mp h with h | h
      · have := hr o h
        omega
      · cases List.mem_singleton.mp h
        omega
    · rw [if_neg hd] at h
      have := hr o h
      omega
theorem ar_sym {near : List (List Int)} {doors : List Int} {st : List (List Int)} (g : Good near doors st) {p o : Int} (h0 : 0 ≤ p) (h1 : p ≤ (near.length : Int)) (h : o ∈ ar near doors p) : p ∈ ar near doors o := by
  have row_in : ∀ {q x : Int}, q ≠ (near.length : Int) → x ∈ row near q → x ∈ ar near doors q := fun {q x} hq hx => by
    unfold ar
    rw [if_neg hq]
    split
    · exact List.mem_append_left _ hx
    · exact hx
  have ho := ar_in g h0 h1 h
  unfold ar at h
  by_cases hp : p = (near.length : Int)
  · rw [if_pos hp] at h
    have hd := g.door o h
    unfold ar
    rw [if_neg (by omega), if_pos h, hp]
    exact List.mem_append_right _ List.mem_cons_self
  · rw [if_neg hp] at h
    obtain ⟨e, _, hr⟩ := row_some g h0 (by omega)
    have inrow : o ∈ row near p → p ∈ ar near doors o := fun h => by
      have := hr o h
      obtain ⟨e2, _, _⟩ := row_some g this.1 this.2
      exact row_in (by omega) (g.sym p o _ _ h0 this.1 e e2 h)
    by_cases hd : p ∈ doors
    · rw [if_pos hd] at h
      rcases List.mem_append.mp h with h | h
      · exact inrow h
      · cases List.mem_singleton.mp h
        unfold ar
        rw [if_pos rfl]
        exact hd
    · rw [if_neg hd] at h
      exact inrow h
theorem ar_len {near : List (List Int)} {doors : List Int} {st : List (List Int)} (g : Good near doors st) {p : Int} (h0 : 0 ≤ p) (h1 : p ≤ (near.length : Int)) : (ar near doors p).length ≤ 1000 := by
  unfold ar
  split
  · exact g.dlen
  · obtain ⟨_, hl, _⟩ := row_some g h0 (by omega)
    split
    · rw [List.length_append, List.length_singleton]
      omega
    · omega
/-! ### the search for distances -/
def fd (F : List (Option Int)) (x : Int) : Option Int := (at? F x).getD none
theorem fd_some {F : List (Option Int)} {x : Int} (h0 : 0 ≤ x) (h1 : x < (F.length : Int)) : at? F x = some (fd F x) := by
  obtain ⟨y, e, _⟩ := at_lt h0 h1
  unfold fd
  rw [e]
  rfl
theorem pset_ok {α : Type} {F : List α} {x : Int} {v : α} (h0 : 0 ≤ x) (h1 : x < (F.length : Int)) : pset F x v = some (F.set x.toNat v) := by
  unfold pset ixN
  rw [if_pos h0, if_pos h1]
  rfl
theorem fd_set {F : List (Option Int)} {x y : Int} {v : Option Int} (h0 : 0 ≤ x) (h1 : x < (F.length : Int)) (hy : 0 ≤ y) : fd (F.set x.toNat v) y = if y = x then v else fd F y := by
  unfold fd
  rw [at_nat hy, at_nat hy, List.getElem?_set]
  by_cases e : y = x
  · subst e
    rw [if_pos rfl, if_pos rfl, if_pos (by omega)]
    rfl
  · rw [if_neg (by omega), if_neg e]
theorem fd_none {F : List (Option Int)} {x : Int} (h : ∀ v ∈ F, v = none) (hx : 0 ≤ x) : fd F x = none := by
  unfold fd
  cases e : at? F x with
  | none => rfl
  | some v => exact h v (at_mem hx e).1
theorem whN_run {S : Type} {c : S → Option Bool} {b : S → Option S} (I : S → Prop) (μ : S → Nat) (h : ∀ s, I s → c s = some false ∨ (c s = some true ∧ ∃ s', b s = some s' ∧ I s' ∧ μ s' < μ s)) : ∀ (m : Nat) (s : S), I s → μ s < m → ∃ s', whN c b m s = some s' ∧ I s' ∧ c s' = some false
  | 0, s, _, hm => absurd hm (Nat.not_lt_zero _)
  | m + 1, s, hI, hm => by
    show ∃ s', ((c s).bind fun t => if t = true then (b s).bind fun s' => whN c b m s' else some s) = some s' ∧ _
    rcases h s hI with e | ⟨e, s1, e1, h1, h2⟩
    · rw [e, Option.bind_some, if_neg Bool.false_ne_true]
      exact ⟨s, rfl, hI, e⟩
    · rw [e, Option.bind_some, if_pos rfl, e1, Option.bind_some]
      exact whN_run I μ h m s1 h1 (by omega)
structure BI (n : Nat) (A : Int → List Int) (closed aims : List Int) (F : List (Option Int)) (q : List Int) (place : Nat) : Prop where
  len : F.length = n + 1
  qr : ∀ x ∈ q, 0 ≤ x ∧ x ≤ (n : Int) ∧ x ∉ closed
  qf : ∀ x, 0 ≤ x → x ≤ (n : Int) → (x ∈ q ↔ fd F x ≠ none)
  nd : q.Nodup
  zero : ∀ x, 0 ≤ x → x ≤ (n : Int) → x ∈ aims → x ∉ closed → fd F x = some 0
  par : ∀ x d, 0 ≤ x → x ≤ (n : Int) → fd F x = some d → (d = 0 ∧ x ∈ aims) ∨ (0 < d ∧ ∃ y, 0 ≤ y ∧ y ≤ (n : Int) ∧ fd F y = some (d - 1) ∧ x ∈ A y)
  mono : ∀ (i j : Nat) x y dx dy, i ≤ j → q[i]? = some x → q[j]? = some y → fd F x = some dx → fd F y = some dy → dx ≤ dy
  top : ∀ x dx, q[place]? = some x → fd F x = some dx → ∀ y ∈ q, ∀ dy, fd F y = some dy → dy ≤ dx + 1
  done : ∀ (i : Nat) x, i < place → q[i]? = some x → ∀ dx, fd F x = some dx → ∀ o ∈ A x, o ∉ closed → ∃ e, fd F o = some e ∧ e ≤ dx + 1
  pl : place ≤ q.length
theorem nodup_len {n : Nat} : ∀ {q : List Int}, q.Nodup → (∀ x ∈ q, 0 ≤ x ∧ x ≤ (n : Int)) → q.length ≤ n + 1 := fun {q} hq h => by
  have h2 : (q.map Int.toNat).Nodup := by
    rw [List.nodup_iff_pairwise_ne, List.pairwise_map]
    exact hq.imp_of_mem fun {a b} ha hb hne e => hne (by have := h a ha; have := h b hb; omega)
  have h3 : (q.map Int.toNat) ⊆ List.range (n + 1) := fun x hx => by
    obtain ⟨y, hy, e⟩ := List.mem_map.mp hx
    have := h y hy
    exact List.mem_range.mpr (by omega)
  have := List.Nodup.length_le_of_subset h2 h3
  rwa [List.length_map, List.length_range] at this
theorem bi_add {n : Nat} {A : Int → List Int} {closed aims : List Int} {F : List (Option Int)} {q : List Int} {place : Nat} {p dp o : Int} (I : BI n A closed aims F q place) (hp : q[place]? = some p) (hdp : fd F p = some dp) (ho0 : 0 ≤ o) (ho1 : o ≤ (n : Int)) (hc : o ∉ closed) (hn : fd F o = none) (hA : o ∈ A p) :
    BI n A closed aims (F.set o.toNat (some (dp + 1))) (q ++ [o]) place := by
  have hF : o < (F.length : Int) := by rw [I.len]; omega
  have hs : ∀ {y : Int}, 0 ≤ y → fd (F.set o.toNat (some (dp + 1))) y = if y = o then some (dp + 1) else fd F y := fun hy => fd_set ho0 hF hy
  have hoq : o ∉ q := fun h => (I.qf o ho0 ho1).mp h hn
  have hpq : p ∈ q := List.mem_of_getElem? hp
  have hpr := I.qr p hpq
  have old : ∀ {x : Int}, x ∈ q → fd (F.set o.toNat (some (dp + 1))) x = fd F x := fun {x} hx => by
    rw [hs (I.qr x hx).1, if_neg (show ¬ x = o from fun e => hoq (by rw [← e]; exact hx))]
  have olds : ∀ {x d : Int}, 0 ≤ x → fd F x = some d → fd (F.set o.toNat (some (dp + 1))) x = some d := fun {x d} hx h => by
    rw [hs hx, if_neg (fun e => by rw [e, hn] at h; cases h), h]
  have hdp0 : 0 ≤ dp := by
    rcases I.par p dp hpr.1 hpr.2.1 hdp with h | h <;> omega
  have hplt : place < q.length := (List.getElem?_eq_some_iff.mp hp).1
  have hself : fd (F.set o.toNat (some (dp + 1))) o = some (dp + 1) := by rw [hs ho0, if_pos rfl]
  have get : ∀ {i : Nat} {x : Int}, (q ++ [o])[i]? = some x → (i < q.length ∧ q[i]? = some x) ∨ (i = q.length ∧ x = o) := fun {i x} h => by
    by_cases hi : i < q.length
    · rw [List.getElem?_append_left hi] at h
      exact .inl ⟨hi, h⟩
    · rw [List.getElem?_append_right (by omega)] at h
      have h1 := (List.getElem?_eq_some_iff.mp h).1
      rw [List.length_singleton] at h1
      have : i - q.length = 0 := by omega
      rw [this] at h
      exact .inr ⟨by omega, (Option.some.inj h).symm⟩
  refine ⟨by rw [List.length_set, I.len], fun x hx => ?_, fun x h0 h1 => ?_, ?_, fun x h0 h1 ha hx => olds h0 (I.zero x h0 h1 ha hx), fun x d h0 h1 hx => ?_, fun i j x y dx dy hij hi hj hx hy => ?_, fun x dx hx hdx y hy dy hdy => ?_, fun i x hi hx dx hdx o' ho' hc' => ?_, by rw [List.length_append]; have := I.pl; omega⟩
  · rcases List.mem_append.mp hx with h | h
    · exact I.qr x h
    · cases List.mem_singleton.mp h
      exact ⟨ho0, ho1, hc⟩
  · rw [List.mem_append, hs h0]
    by_cases e : x = o
    · rw [if_pos e]
      exact ⟨fun _ h => (by cases h), fun _ => .inr (by rw [e]; exact List.mem_cons_self)⟩
    · rw [if_neg e]
      exact ⟨fun h => (I.qf x h0 h1).mp (h.elim id fun h => absurd (List.mem_singleton.mp h) e), fun h => .inl ((I.qf x h0 h1).mpr h)⟩
  · rw [List.nodup_append]
    exact ⟨I.nd, List.nodup_cons.mpr ⟨(fun h => by cases h), List.nodup_nil⟩, fun a ha b hb e => hoq (by rw [← List.mem_singleton.mp hb, ← e]; exact ha)⟩
  · rw [hs h0] at hx
    by_cases e : x = o
    · rw [if_pos e] at hx
      cases hx
      exact .inr ⟨by omega, p, hpr.1, hpr.2.1, by rw [show dp + 1 - 1 = dp by omega]; exact olds hpr.1 hdp, by rw [e]; exact hA⟩
    · rw [if_neg e] at hx
      rcases I.par x d h0 h1 hx with h | ⟨hd, y, y0, y1, hy, hyA⟩
      · exact .inl h
      · exact .inr ⟨hd, y, y0, y1, olds y0 hy, hyA⟩
  · rcases get hi with ⟨hi1, hi⟩ | ⟨hi1, hi⟩
    · rw [old (List.mem_of_getElem? hi)] at hx
      rcases get hj with ⟨hj1, hj⟩ | ⟨hj1, hj⟩
      · rw [old (List.mem_of_getElem? hj)] at hy
        exact I.mono i j x y dx dy hij hi hj hx hy
      · rw [hj, hself] at hy
        cases hy
        exact I.top p dp hp hdp x (List.mem_of_getElem? hi) dx hx
    · rcases get hj with ⟨hj1, hj⟩ | ⟨hj1, hj⟩
      · omega
      · rw [hi, hself] at hx
        rw [hj, hself] at hy
        cases hx
        cases hy
        exact Int.le_refl _
  · rcases get hx with ⟨_, hx⟩ | ⟨h, _⟩
    · rw [hp] at hx
      cases hx
      rw [olds hpr.1 hdp] at hdx
      cases hdx
      rcases List.mem_append.mp hy with h | h
      · rw [old h] at hdy
        exact I.top p dp hp hdp y h dy hdy
      · rw [List.mem_singleton.mp h, hself] at hdy
        cases hdy
        exact Int.le_refl _
    · omega
  · rcases get hx with ⟨_, hx⟩ | ⟨h, _⟩
    · rw [old (List.mem_of_getElem? hx)] at hdx
      obtain ⟨e, he, hle⟩ := I.done i x hi hx dx hdx o' ho' hc'
      by_cases e0 : o' = o
      · rw [e0, hn] at he
        cases he
      · refine ⟨e, ?_, hle⟩
        by_cases hn0 : 0 ≤ o'
        · exact olds hn0 he
        · unfold fd at he ⊢
          unfold at? at he ⊢
          rw [if_neg hn0] at he ⊢
          rw [List.length_set]
          split at he
          · rename_i hz
            rw [if_pos hz, List.getElem?_set]
            by_cases hk : o.toNat = (o' + (F.length : Int)).toNat
            · exfalso
              have : o = o' + (F.length : Int) := by omega
              unfold fd at hn
              rw [at_nat ho0, hk] at hn
              rw [hn] at he
              cases he
            · rw [if_neg hk]
              exact he
          · cases he
    · omega
theorem bi_next {n : Nat} {A : Int → List Int} {closed aims : List Int} {F : List (Option Int)} {q : List Int} {place : Nat} {p dp : Int} (I : BI n A closed aims F q place) (hp : q[place]? = some p) (hdp : fd F p = some dp) (hd : ∀ o ∈ A p, o ∉ closed → ∃ e, fd F o = some e ∧ e ≤ dp + 1) : BI n A closed aims F q (place + 1) := by
  refine ⟨I.len, I.qr, I.qf, I.nd, I.zero, I.par, I.mono, fun x dx hx hdx y hy dy hdy => ?_, fun i x hi hx dx hdx o ho hc => ?_, (List.getElem?_eq_some_iff.mp hp).1⟩
  · have h1 := I.top p dp hp hdp y hy dy hdy
    have h2 := I.mono place (place + 1) p x dp dx (Nat.le_succ _) hp hx hdp hdx
    omega
  · by_cases e : i = place
    · subst e
      rw [hp] at hx
      cases hx
      rw [hdp] at hdx
      cases hdx
      exact hd o ho hc
    · exact I.done i x (by omega) hx dx hdx o ho hc
structure Dist (n : Nat) (A : Int → List Int) (closed aims : List Int) (F : List (Option Int)) : Prop where
  len : F.length = n + 1
  cl : ∀ x, 0 ≤ x → x ≤ (n : Int) → x ∈ closed → fd F x = none
  zero : ∀ x, 0 ≤ x → x ≤ (n : Int) → x ∈ aims → x ∉ closed → fd F x = some 0
  par : ∀ x d, 0 ≤ x → x ≤ (n : Int) → fd F x = some d → (d = 0 ∧ x ∈ aims) ∨ (0 < d ∧ ∃ y, 0 ≤ y ∧ y ≤ (n : Int) ∧ fd F y = some (d - 1) ∧ x ∈ A y)
  step : ∀ x o d, 0 ≤ x → x ≤ (n : Int) → fd F x = some d → o ∈ A x → o ∉ closed → ∃ e, fd F o = some e ∧ e ≤ d + 1
theorem distances_ok {near : List (List Int)} {doors : List Int} {st : List (List Int)} (g : Good near doors st) {closed aims : List Int} (ha : ∀ a ∈ aims, 0 ≤ a ∧ a < (near.length : Int)) : ∃ F, m_distances (flo near doors st) closed aims = some F ∧ Dist near.length (ar near doors) closed aims F := by
  have hsm := g.small
  unfold m_distances
  rw [show (flo near doors st).v.2.1 = (near.length : Int) from rfl]
  simp only [o2, Option.bind_some, decide_true, decide_false, Bool.not_true, Bool.not_false, Bool.false_eq_true, Bool.true_eq_false, if_false, if_true, ite_true, ite_false, Bool.true_or, Bool.or_false, Bool.false_or, eq_self_iff_true, reduceCtorEq]
  rw [prange1_some (by omega) (by omega), Option.bind_some]
  have hl : (rangeL 0 ((near.length : Int) + 1)).length = near.length + 1 := by rw [rangeL_len]; omega
  rw [pbig_some (by omega), Option.bind_some, lcF_all (c := fun _ => true) (g := fun _ => (none : Option Int)) (fun _ _ => rfl) (fun _ _ _ => rfl), List.filter_eq_self.mpr (fun _ _ => rfl)]
  simp only [o2, Option.bind_some, decide_true, decide_false, Bool.not_true, Bool.not_false, Bool.false_eq_true, Bool.true_eq_false, if_false, if_true, ite_true, ite_false, Bool.true_or, Bool.or_false, Bool.false_or, eq_self_iff_true, reduceCtorEq]
  have hF0 : ∀ v ∈ (rangeL 0 ((near.length : Int) + 1)).map (fun _ => (none : Option Int)), v = none := fun v hv => by
    obtain ⟨_, _, e⟩ := List.mem_map.mp hv
    exact e.symm
  have hF0l : ((rangeL 0 ((near.length : Int) + 1)).map (fun _ => (none : Option Int))).length = near.length + 1 := by rw [List.length_map, hl]
  generalize (rangeL 0 ((near.length : Int) + 1)).map (fun _ => (none : Option Int)) = F0 at hF0 hF0l
  -- the aims
  have phase1 : ∀ (xs : List Int) (s : (Unit × List (Option Int)) × List Int), (∀ a ∈ xs, a ∈ aims) → s.1.2.length = near.length + 1 → (∀ x ∈ s.2, 0 ≤ x ∧ x ≤ (near.length : Int) ∧ x ∉ closed) → (∀ x, 0 ≤ x → x ≤ (near.length : Int) → (x ∈ s.2 ↔ fd s.1.2 x ≠ none)) → s.2.Nodup → (∀ x d, 0 ≤ x → fd s.1.2 x = some d → d = 0 ∧ x ∈ aims) →
      ∃ s' : (Unit × List (Option Int)) × List Int, forN (fun x (s : (Unit × List (Option Int)) × List Int) => m_distances_b1 (flo near doors st) closed aims x s) xs s = some s' ∧ s'.1.2.length = near.length + 1 ∧ (∀ x ∈ s'.2, 0 ≤ x ∧ x ≤ (near.length : Int) ∧ x ∉ closed) ∧ (∀ x, 0 ≤ x → x ≤ (near.length : Int) → (x ∈ s'.2 ↔ fd s'.1.2 x ≠ none)) ∧ s'.2.Nodup ∧ (∀ x d, 0 ≤ x → fd s'.1.2 x = some d → d = 0 ∧ x ∈ aims) ∧
        (∀ x d, 0 ≤ x → fd s.1.2 x = some d → fd s'.1.2 x = some d) ∧ (∀ x ∈ xs, x ∉ closed → fd s'.1.2 x = some 0) := by
    intro xs
    induction xs with
    | nil => exact fun s _ h1 h2 h3 h4 h5 => ⟨s, rfl, h1, h2, h3, h4, h5, fun _ _ _ h => h, fun x hx => by cases hx⟩
    | cons a xs ih =>
      intro s hx h1 h2 h3 h4 h5
      have haa := hx a List.mem_cons_self
      have hr := ha a haa
      rw [forN_cons]
      unfold m_distances_b1
      rw [fd_some hr.1 (by rw [h1]; omega)]
      simp only [o2, Option.bind_some, decide_true, decide_false, Bool.not_true, Bool.not_false, Bool.false_eq_true, Bool.true_eq_false, if_false, if_true, ite_true, ite_false, Bool.true_or, Bool.or_false, Bool.false_or, eq_self_iff_true, reduceCtorEq]
      by_cases hc : a ∈ closed
      · simp only [decide_eq_true hc, o2, Option.bind_some, decide_true, decide_false, Bool.not_true, Bool.not_false, Bool.false_eq_true, Bool.true_eq_false, if_false, if_true, ite_true, ite_false, Bool.true_or, Bool.or_false, Bool.false_or, eq_self_iff_true, reduceCtorEq]
        obtain ⟨s', e, q1, q2, q3, q4, q5, q6, q7⟩ := ih s (fun b hb => hx b (List.mem_cons_of_mem _ hb)) h1 h2 h3 h4 h5
        refine ⟨s', e, q1, q2, q3, q4, q5, q6, fun x hx' hxc => ?_⟩
        rcases List.mem_cons.mp hx' with h | h
        · exact absurd (h ▸ hc) hxc
        · exact q7 x h hxc
      · simp only [decide_eq_false hc, o2, Option.bind_some, decide_true, decide_false, Bool.not_true, Bool.not_false, Bool.false_eq_true, Bool.true_eq_false, if_false, if_true, ite_true, ite_false, Bool.true_or, Bool.or_false, Bool.false_or, eq_self_iff_true, reduceCtorEq]
        cases hf : fd s.1.2 a with
        | some d =>
          simp only [Option.isNone, o2, Option.bind_some, decide_true, decide_false, Bool.not_true, Bool.not_false, Bool.false_eq_true, Bool.true_eq_false, if_false, if_true, ite_true, ite_false, Bool.true_or, Bool.or_false, Bool.false_or, eq_self_iff_true, reduceCtorEq]
          obtain ⟨s', e, q1, q2, q3, q4, q5, q6, q7⟩ := ih s (fun b hb => hx b (List.mem_cons_of_mem _ hb)) h1 h2 h3 h4 h5
          refine ⟨s', e, q1, q2, q3, q4, q5, q6, fun x hx' hxc => ?_⟩
          rcases List.mem_cons.mp hx' with h | h
          · rw [h]
            have := q6 a d hr.1 hf
            rw [this, (h5 a d hr.1 hf).1]
          · exact q7 x h hxc
        | none =>
          have haF : a < (s.1.2.length : Int) := by rw [h1]; omega
          have hlen : s.2.length ≤ near.length + 1 := nodup_len h4 fun x hx => ⟨(h2 x hx).1, (h2 x hx).2.1⟩
          simp only [Option.isNone, o2, Option.bind_some, decide_true, decide_false, Bool.not_true, Bool.not_false, Bool.false_eq_true, Bool.true_eq_false, if_false, if_true, ite_true, ite_false, Bool.true_or, Bool.or_false, Bool.false_or, eq_self_iff_true, reduceCtorEq, pset_ok hr.1 haF]
          rw [papp_some (by omega)]
          simp only [o2, Option.bind_some, decide_true, decide_false, Bool.not_true, Bool.not_false, Bool.false_eq_true, Bool.true_eq_false, if_false, if_true, ite_true, ite_false, Bool.true_or, Bool.or_false, Bool.false_or, eq_self_iff_true, reduceCtorEq]
          have hs : ∀ {y : Int}, 0 ≤ y → fd (s.1.2.set a.toNat (some 0)) y = if y = a then some 0 else fd s.1.2 y := fun hy => fd_set hr.1 haF hy
          have haq : a ∉ s.2 := fun h => (h3 a hr.1 (by omega)).mp h hf
          obtain ⟨s', e, q1, q2, q3, q4, q5, q6, q7⟩ := ih ((s.1.1, s.1.2.set a.toNat (some 0)), s.2 ++ [a]) (fun b hb => hx b (List.mem_cons_of_mem _ hb)) (by show (s.1.2.set _ _).length = _; rw [List.length_set, h1]) (fun x hx' => by
            rcases List.mem_append.mp hx' with h | h
            · exact h2 x h
            · cases List.mem_singleton.mp h
              exact ⟨hr.1, by omega, hc⟩) (fun x x0 x1 => by
            show x ∈ s.2 ++ [a] ↔ fd (s.1.2.set a.toNat (some 0)) x ≠ none
            rw [List.mem_append, hs x0]
            by_cases e : x = a
            · rw [if_pos e]
              exact ⟨fun _ h => (by cases h), fun _ => .inr (by rw [e]; exact List.mem_cons_self)⟩
            · rw [if_neg e]
              exact ⟨fun h => (h3 x x0 x1).mp (h.elim id fun h => absurd (List.mem_singleton.mp h) e), fun h => .inl ((h3 x x0 x1).mpr h)⟩) (by
            show (s.2 ++ [a]).Nodup
            rw [List.nodup_append]
            exact ⟨h4, List.nodup_cons.mpr ⟨(fun h => by cases h), List.nodup_nil⟩, fun b hb c hc e => haq (by rw [← List.mem_singleton.mp hc, ← e]; exact hb)⟩) (fun x d x0 hxd => by
            have hxd : fd (s.1.2.set a.toNat (some 0)) x = some d := hxd
            rw [hs x0] at hxd
            by_cases e : x = a
            · rw [if_pos e] at hxd
              cases hxd
              exact ⟨rfl, e ▸ haa⟩
            · rw [if_neg e] at hxd
              exact h5 x d x0 hxd)
          refine ⟨s', e, q1, q2, q3, q4, q5, fun x d x0 hxd => q6 x d x0 ?_, fun x hx' hxc => ?_⟩
          · show fd (s.1.2.set a.toNat (some 0)) x = some d
            rw [hs x0, if_neg (fun e => by rw [e, hf] at hxd; cases hxd), hxd]
          · rcases List.mem_cons.mp hx' with h | h
            · rw [h]
              refine q6 a 0 hr.1 ?_
              show fd (s.1.2.set a.toNat (some 0)) a = some 0
              rw [hs hr.1, if_pos rfl]
            · exact q7 x h hxc
  obtain ⟨s1, e1, p1, p2, p3, p4, p5, _, p7⟩ := phase1 (psort aims) (((), F0), []) (fun a h => (psort_perm aims).mem_iff.mp h) hF0l (fun x hx => by cases hx) (fun x x0 _ => ⟨(fun h => by cases h), fun h => absurd (fd_none hF0 x0) h⟩) List.nodup_nil (fun x d x0 h => by rw [fd_none hF0 x0] at h; cases h)
  rw [e1, Option.bind_some]
  have I0 : BI near.length (ar near doors) closed aims s1.1.2 s1.2 0 := ⟨p1, p2, p3, p4, fun x x0 x1 hx hc => p7 x ((psort_perm aims).mem_iff.mpr hx) hc, fun x d x0 x1 h => .inl (p5 x d x0 h), fun i j x y dx dy _ hi hj hx hy => by
    have := p5 x dx (p2 x (List.mem_of_getElem? hi)).1 hx
    have := p5 y dy (p2 y (List.mem_of_getElem? hj)).1 hy
    omega, fun x dx hx hdx y hy dy hdy => by
    have := p5 x dx (p2 x (List.mem_of_getElem? hx)).1 hdx
    have := p5 y dy (p2 y hy).1 hdy
    omega, fun i x hi => absurd hi (Nat.not_lt_zero i), Nat.zero_le _⟩
  obtain ⟨s2, e2, ⟨place, hpl, I2⟩, hend⟩ := whN_run (c := fun (s : ((Unit × List (Option Int)) × List Int) × Int) => some (decide (s.2 < (s.1.2.length : Int)))) (b := fun (s : ((Unit × List (Option Int)) × List Int) × Int) => m_distances_b2 (flo near doors st) closed aims s.1 s.2) (fun s => ∃ place : Nat, s.2 = (place : Int) ∧ BI near.length (ar near doors) closed aims s.1.1.2 s.1.2 place) (fun s => near.length + 2 - s.2.toNat) (fun s hI => by
    obtain ⟨place, hs, I⟩ := hI
    obtain ⟨s0, pv⟩ := s
    have hs : pv = (place : Int) := hs
    subst hs
    have I : BI near.length (ar near doors) closed aims s0.1.2 s0.2 place := I
    have hlen : s0.2.length ≤ near.length + 1 := nodup_len I.nd fun x hx => ⟨(I.qr x hx).1, (I.qr x hx).2.1⟩
    by_cases hlt : place < s0.2.length
    · refine .inr ⟨by show some (decide ((place : Int) < (s0.2.length : Int))) = _; rw [decide_eq_true (by omega)], ?_⟩
      obtain ⟨p, hp⟩ : ∃ p, s0.2[place]? = some p := ⟨s0.2[place]'hlt, List.getElem?_eq_getElem hlt⟩
      have hpq := List.mem_of_getElem? hp
      have hpr := I.qr p hpq
      obtain ⟨dp, hdp⟩ : ∃ dp, fd s0.1.2 p = some dp := by
        have := (I.qf p hpr.1 hpr.2.1).mp hpq
        cases h : fd s0.1.2 p with
        | none => exact absurd h this
        | some d => exact ⟨d, rfl⟩
      show ∃ s', m_distances_b2 (flo near doors st) closed aims s0 (place : Int) = some s' ∧ _
      unfold m_distances_b2
      rw [at_nat', hp]
      simp only [o2, Option.bind_some, decide_true, decide_false, Bool.not_true, Bool.not_false, Bool.false_eq_true, Bool.true_eq_false, if_false, if_true, ite_true, ite_false, Bool.true_or, Bool.or_false, Bool.false_or, eq_self_iff_true, reduceCtorEq]
      rw [(around_ok g hpr.1 hpr.2.1).1, Option.bind_some]
      have inner : ∀ (os : List Int) (t : (Unit × List (Option Int)) × List Int), (∀ o ∈ os, o ∈ ar near doors p) → BI near.length (ar near doors) closed aims t.1.2 t.2 place → t.2[place]? = some p → fd t.1.2 p = some dp → ∃ t' : (Unit × List (Option Int)) × List Int, forN (fun x (s : (Unit × List (Option Int)) × List Int) => m_distances_b3 (flo near doors st) closed aims p ((place : Int) + 1) x s) os t = some t' ∧ BI near.length (ar near doors) closed aims t'.1.2 t'.2 place ∧ t'.2[place]? = some p ∧ fd t'.1.2 p = some dp ∧
          (∀ o e, 0 ≤ o → fd t.1.2 o = some e → fd t'.1.2 o = some e) ∧ ∀ o ∈ os, o ∉ closed → ∃ e, fd t'.1.2 o = some e ∧ e ≤ dp + 1 := by
        intro os
        induction os with
        | nil => exact fun t _ i1 i2 i3 => ⟨t, rfl, i1, i2, i3, fun _ _ _ h => h, fun o ho => by cases ho⟩
        | cons o os ih =>
          intro t hos i1 i2 i3
          have hoA := hos o List.mem_cons_self
          have hor := ar_in g hpr.1 hpr.2.1 hoA
          have hoF : o < (t.1.2.length : Int) := by rw [i1.len]; omega
          rw [forN_cons]
          unfold m_distances_b3
          rw [fd_some hor.1 hoF]
          simp only [o2, Option.bind_some, decide_true, decide_false, Bool.not_true, Bool.not_false, Bool.false_eq_true, Bool.true_eq_false, if_false, if_true, ite_true, ite_false, Bool.true_or, Bool.or_false, Bool.false_or, eq_self_iff_true, reduceCtorEq]
          have skip : (o ∉ closed → ∃ e, fd t.1.2 o = some e ∧ e ≤ dp + 1) → ∃ t' : (Unit × List (Option Int)) × List Int, forN (fun x (s : (Unit × List (Option Int)) × List Int) => m_distances_b3 (flo near doors st) closed aims p ((place : Int) + 1) x s) os t = some t' ∧ BI near.length (ar near doors) closed aims t'.1.2 t'.2 place ∧ t'.2[place]? = some p ∧ fd t'.1.2 p = some dp ∧
              (∀ o e, 0 ≤ o → fd t.1.2 o = some e → fd t'.1.2 o = some e) ∧ ∀ o' ∈ o :: os, o' ∉ closed → ∃ e, fd t'.1.2 o' = some e ∧ e ≤ dp + 1 := fun ho => by
            obtain ⟨t', e, q1, q2, q3, q4, q5⟩ := ih t (fun b hb => hos b (List.mem_cons_of_mem _ hb)) i1 i2 i3
            refine ⟨t', e, q1, q2, q3, q4, fun o' ho' hc' => ?_⟩
            rcases List.mem_cons.mp ho' with h | h
            · subst h
              obtain ⟨e', he', hle⟩ := ho hc'
              exact ⟨e', q4 _ _ hor.1 he', hle⟩
            · exact q5 o' h hc'
          by_cases hc : o ∈ closed
          · simp only [decide_eq_true hc, o2, Option.bind_some, decide_true, decide_false, Bool.not_true, Bool.not_false, Bool.false_eq_true, Bool.true_eq_false, if_false, if_true, ite_true, ite_false, Bool.true_or, Bool.or_false, Bool.false_or, eq_self_iff_true, reduceCtorEq]
            exact skip fun h => absurd hc h
          · simp only [decide_eq_false hc, o2, Option.bind_some, decide_true, decide_false, Bool.not_true, Bool.not_false, Bool.false_eq_true, Bool.true_eq_false, if_false, if_true, ite_true, ite_false, Bool.true_or, Bool.or_false, Bool.false_or, eq_self_iff_true, reduceCtorEq]
            cases hf : fd t.1.2 o with
            | some e =>
              simp only [Option.isNone, o2, Option.bind_some, decide_true, decide_false, Bool.not_true, Bool.not_false, Bool.false_eq_true, Bool.true_eq_false, if_false, if_true, ite_true, ite_false, Bool.true_or, Bool.or_false, Bool.false_or, eq_self_iff_true, reduceCtorEq]
              exact skip fun _ => ⟨e, hf, i1.top p dp i2 i3 o ((i1.qf o hor.1 hor.2).mpr (by rw [hf]; exact fun h => by cases h)) e hf⟩
            | none =>
              have hlen2 : t.2.length ≤ near.length + 1 := nodup_len i1.nd fun x hx => ⟨(i1.qr x hx).1, (i1.qr x hx).2.1⟩
              simp only [Option.isNone, o2, Option.bind_some, decide_true, decide_false, Bool.not_true, Bool.not_false, Bool.false_eq_true, Bool.true_eq_false, if_false, if_true, ite_true, ite_false, Bool.true_or, Bool.or_false, Bool.false_or, eq_self_iff_true, reduceCtorEq]
              rw [fd_some hpr.1 (by rw [i1.len]; omega), i3]
              simp only [o2, Option.bind_some, decide_true, decide_false, Bool.not_true, Bool.not_false, Bool.false_eq_true, Bool.true_eq_false, if_false, if_true, ite_true, ite_false, Bool.true_or, Bool.or_false, Bool.false_or, eq_self_iff_true, reduceCtorEq, pset_ok hor.1 hoF]
              rw [papp_some (by omega)]
              simp only [o2, Option.bind_some, decide_true, decide_false, Bool.not_true, Bool.not_false, Bool.false_eq_true, Bool.true_eq_false, if_false, if_true, ite_true, ite_false, Bool.true_or, Bool.or_false, Bool.false_or, eq_self_iff_true, reduceCtorEq]
              have i1' := bi_add i1 i2 i3 hor.1 hor.2 hc hf hoA
              have hs : ∀ {y : Int}, 0 ≤ y → fd (t.1.2.set o.toNat (some (dp + 1))) y = if y = o then some (dp + 1) else fd t.1.2 y := fun hy => fd_set hor.1 hoF hy
              have hplt : place < t.2.length := (List.getElem?_eq_some_iff.mp i2).1
              have keep : ∀ {x d : Int}, 0 ≤ x → fd t.1.2 x = some d → fd (t.1.2.set o.toNat (some (dp + 1))) x = some d := fun {x d} hx h => by
                rw [hs hx, if_neg (fun e => by rw [e, hf] at h; cases h), h]
              obtain ⟨t', e, q1, q2, q3, q4, q5⟩ := ih ((t.1.1, t.1.2.set o.toNat (some (dp + 1))), t.2 ++ [o]) (fun b hb => hos b (List.mem_cons_of_mem _ hb)) i1' (by show (t.2 ++ [o])[place]? = _; rw [List.getElem?_append_left hplt]; exact i2) (keep hpr.1 i3)
              refine ⟨t', e, q1, q2, q3, fun o' e' h0 h => q4 o' e' h0 (keep h0 h), fun o' ho' hc' => ?_⟩
              rcases List.mem_cons.mp ho' with h | h
              · subst h
                exact ⟨dp + 1, q4 _ _ hor.1 (by show fd (t.1.2.set _ _) _ = _; rw [hs hor.1, if_pos rfl]), Int.le_refl _⟩
              · exact q5 o' h hc'
      obtain ⟨t', e, q1, q2, q3, _, q5⟩ := inner (ar near doors p) s0 (fun _ h => h) I hp hdp
      rw [e]
      refine ⟨(t', (place : Int) + 1), rfl, ⟨place + 1, by show (place : Int) + 1 = _; omega, bi_next q1 q2 q3 q5⟩, ?_⟩
      show near.length + 2 - ((place : Int) + 1).toNat < near.length + 2 - ((place : Int)).toNat
      omega
    · exact .inl (by show some (decide ((place : Int) < (s0.2.length : Int))) = _; rw [decide_eq_false (by omega)])) 1000000 (s1, 0) ⟨0, rfl, I0⟩ (by show near.length + 2 - 0 < 1000000; omega)
  rw [e2]
  have hge : s2.1.2.length ≤ place := by
    have : decide (s2.2 < (s2.1.2.length : Int)) = false := Option.some.inj hend
    have := of_decide_eq_false this
    omega
  refine ⟨s2.1.1.2, rfl, I2.len, fun x x0 x1 hx => ?_, I2.zero, I2.par, fun x o d x0 x1 hd ho hc => ?_⟩
  · cases h : fd s2.1.1.2 x with
    | none => rfl
    | some d => exact absurd hx (I2.qr x ((I2.qf x x0 x1).mpr (by rw [h]; exact fun z => by cases z))).2.2
  · have hxq := (I2.qf x x0 x1).mpr (by rw [hd]; exact fun z => by cases z)
    obtain ⟨i, hi, ei⟩ := List.getElem_of_mem hxq
    exact I2.done i x (by omega) (by rw [List.getElem?_eq_getElem hi, ei]) d hd o ho hc
theorem some_ok (ds : List Int) {many most : Int} (hm : 0 < many) (h0 : 0 ≤ most) (h1 : most ≤ 1000) : ∃ xs ds', m_l_some ds (many, most, ()) = some (xs, ds') ∧ (∀ x ∈ xs, 0 ≤ x ∧ x < many) ∧ xs.length ≤ 1000 := by
  unfold m_l_some n_l_some
  obtain ⟨k, d1, e1, k0, k1⟩ := draw_some (ds := ds) (n := most + 1) (by omega)
  simp only [e1, o2, Option.bind_some, decide_true, decide_false, Bool.not_true, Bool.not_false, Bool.false_eq_true, Bool.true_eq_false, if_false, if_true, ite_true, ite_false, Bool.true_or, Bool.or_false, Bool.false_or, eq_self_iff_true, reduceCtorEq]
  rw [prange1_some (by omega) (by omega), Option.bind_some]
  obtain ⟨s, e, h2, h3⟩ := forN_idx (b := fun x (s : List Int × List Int) => m_l_some_b1 many most x s) (fun i s => s.2.length ≤ i ∧ ∀ x ∈ s.2, 0 ≤ x ∧ x < many) (rangeL 0 k).length (rangeL 0 k) 0 (d1, []) (Nat.zero_add _) ⟨Nat.le_refl _, fun x hx => by cases hx⟩ (fun x hx i s hi hI => by
    have hl := rangeL_len 0 k
    obtain ⟨y, d2, e2, y0, y1⟩ := draw_some (ds := s.1) (n := many) hm
    unfold m_l_some_b1
    simp only [e2, o2, Option.bind_some, decide_true, decide_false, Bool.not_true, Bool.not_false, Bool.false_eq_true, Bool.true_eq_false, if_false, if_true, ite_true, ite_false, Bool.true_or, Bool.or_false, Bool.false_or, eq_self_iff_true, reduceCtorEq]
    by_cases hy : y ∈ s.2
    · simp only [decide_eq_true hy, o2, Option.bind_some, decide_true, decide_false, Bool.not_true, Bool.not_false, Bool.false_eq_true, Bool.true_eq_false, if_false, if_true, ite_true, ite_false, Bool.true_or, Bool.or_false, Bool.false_or, eq_self_iff_true, reduceCtorEq]
      exact ⟨_, rfl, by show s.2.length ≤ i + 1; omega, hI.2⟩
    · simp only [decide_eq_false hy, o2, Option.bind_some, decide_true, decide_false, Bool.not_true, Bool.not_false, Bool.false_eq_true, Bool.true_eq_false, if_false, if_true, ite_true, ite_false, Bool.true_or, Bool.or_false, Bool.false_or, eq_self_iff_true, reduceCtorEq]
      rw [papp_some (by omega)]
      simp only [o2, Option.bind_some, decide_true, decide_false, Bool.not_true, Bool.not_false, Bool.false_eq_true, Bool.true_eq_false, if_false, if_true, ite_true, ite_false, Bool.true_or, Bool.or_false, Bool.false_or, eq_self_iff_true, reduceCtorEq]
      refine ⟨_, rfl, by rw [List.length_append, List.length_singleton]; omega, fun z hz => ?_⟩
      rcases List.mem_append.mp hz with h | h
      · exact hI.2 z h
      · cases List.mem_singleton.mp h
        exact ⟨y0, y1⟩)
  rw [e]
  exact ⟨_, _, rfl, h3, Nat.le_trans h2 (by have := rangeL_len 0 k; omega)⟩
def due (F : List (Option Int)) (p o : Int) : Bool := match fd F p, fd F o with
  | some d, some e => decide (e + 1 = d)
  | _, _ => false
theorem b2_ok (S : Scr) (m : H3 (List (List Int)) (List Int) (List (List Int))) (near : List (List Int)) (fl : KFloor) (closed aims : List Int) {F : List (Option Int)} {p o : Int} (hp0 : 0 ≤ p) (hp1 : p < (F.length : Int)) (ho0 : 0 ≤ o) (ho1 : o < (F.length : Int)) (t : List Int × List Int) (ht : t.2.length < 1000000) :
    m_law_b2 S m near fl closed aims F p o t = some (if due F p o = true then (t.1, t.2 ++ [o]) else t) := by
  unfold m_law_b2 due
  rw [fd_some hp0 hp1, fd_some ho0 ho1]
  cases fd F p with
  | none => simp only [Option.isSome, o2, Option.bind_some, decide_true, decide_false, Bool.not_true, Bool.not_false, Bool.false_eq_true, Bool.true_eq_false, if_false, if_true, ite_true, ite_false, Bool.true_or, Bool.or_false, Bool.false_or, eq_self_iff_true, reduceCtorEq]
  | some d =>
    cases fd F o with
    | none => simp only [Option.isSome, o2, Option.bind_some, decide_true, decide_false, Bool.not_true, Bool.not_false, Bool.false_eq_true, Bool.true_eq_false, if_false, if_true, ite_true, ite_false, Bool.true_or, Bool.or_false, Bool.false_or, eq_self_iff_true, reduceCtorEq]
    | some e =>
      simp only [Option.isSome, o2, Option.bind_some, decide_true, decide_false, Bool.not_true, Bool.not_false, Bool.false_eq_true, Bool.true_eq_false, if_false, if_true, ite_true, ite_false, Bool.true_or, Bool.or_false, Bool.false_or, eq_self_iff_true, reduceCtorEq, Option.some.injEq]
      by_cases h : e + 1 = d
      · simp only [decide_eq_true h, o2, Option.bind_some, decide_true, decide_false, Bool.not_true, Bool.not_false, Bool.false_eq_true, Bool.true_eq_false, if_false, if_true, ite_true, ite_false, Bool.true_or, Bool.or_false, Bool.false_or, eq_self_iff_true, reduceCtorEq]
        rw [papp_some ht]
        simp only [o2, Option.bind_some, decide_true, decide_false, Bool.not_true, Bool.not_false, Bool.false_eq_true, Bool.true_eq_false, if_false, if_true, ite_true, ite_false, Bool.true_or, Bool.or_false, Bool.false_or, eq_self_iff_true, reduceCtorEq]
      · simp only [decide_eq_false h, o2, Option.bind_some, decide_true, decide_false, Bool.not_true, Bool.not_false, Bool.false_eq_true, Bool.true_eq_false, if_false, if_true, ite_true, ite_false, Bool.true_or, Bool.or_false, Bool.false_or, eq_self_iff_true, reduceCtorEq]
theorem cells_ok {xs : List Int} {m : Int} (h : ∀ x ∈ xs, 0 ≤ x ∧ x < m) : m_l_is_cells xs m = some true := by
  unfold m_l_is_cells
  simp only [o2, Option.bind_some, decide_true, decide_false, Bool.not_true, Bool.not_false, Bool.false_eq_true, Bool.true_eq_false, if_false, if_true, ite_true, ite_false, Bool.true_or, Bool.or_false, Bool.false_or, eq_self_iff_true, reduceCtorEq]
  obtain ⟨s, e, _⟩ := forF_all (R := Bool) (b := fun x (s : Unit) => m_l_is_cells_b1 xs m x) (fun _ => True) xs () trivial (fun x hx s _ => by
    have := h x hx
    unfold m_l_is_cells_b1
    simp only [m_l_is_int, Option.isSome, decide_eq_true this.1, decide_eq_true this.2, o2, Option.bind_some, decide_true, decide_false, Bool.not_true, Bool.not_false, Bool.false_eq_true, Bool.true_eq_false, if_false, if_true, ite_true, ite_false, Bool.true_or, Bool.or_false, Bool.false_or, eq_self_iff_true, reduceCtorEq]
    exact ⟨(), by first | rfl | trivial, trivial⟩)
  rw [e]
  rfl
theorem nearer_ok {near : List (List Int)} {doors : List Int} {st : List (List Int)} (g : Good near doors st) {closed aims : List Int} {F : List (Option Int)} (e : m_distances (flo near doors st) closed aims = some F) (D : Dist near.length (ar near doors) closed aims F) {p : Int} (h0 : 0 ≤ p) (h1 : p ≤ (near.length : Int)) : m_nearer (flo near doors st) closed aims p = some ((ar near doors p).filter (due F p)) := by
  have hlen : (F.length : Int) = (near.length : Int) + 1 := by rw [D.len]; omega
  unfold m_nearer
  rw [e, Option.bind_some, fd_some h0 (by omega), Option.bind_some, (around_ok g h0 h1).1]
  have big : (ar near doors p).length < 1000000 := by have := ar_len g h0 h1; omega
  cases hp : fd F p with
  | none =>
    simp only [Option.isNone, o2, Option.bind_some, decide_true, decide_false, Bool.not_true, Bool.not_false, Bool.false_eq_true, Bool.true_eq_false, if_false, if_true, ite_true, ite_false, Bool.true_or, Bool.or_false, Bool.false_or, eq_self_iff_true, reduceCtorEq]
    rw [List.filter_eq_nil_iff.mpr]
    intro o _
    unfold due
    rw [hp]
    exact Bool.false_ne_true
  | some d =>
    simp only [Option.isNone, o2, Option.bind_some, decide_true, decide_false, Bool.not_true, Bool.not_false, Bool.false_eq_true, Bool.true_eq_false, if_false, if_true, ite_true, ite_false, Bool.true_or, Bool.or_false, Bool.false_or, eq_self_iff_true, reduceCtorEq]
    by_cases hd : d = 0
    · subst hd
      simp only [o2, Option.bind_some, decide_true, decide_false, Bool.not_true, Bool.not_false, Bool.false_eq_true, Bool.true_eq_false, if_false, if_true, ite_true, ite_false, Bool.true_or, Bool.or_false, Bool.false_or, eq_self_iff_true, reduceCtorEq]
      rw [List.filter_eq_nil_iff.mpr]
      intro o ho
      have hor := ar_in g h0 h1 ho
      unfold due
      rw [hp]
      cases hf : fd F o with
      | none => exact Bool.false_ne_true
      | some e' =>
        have : 0 ≤ e' := by rcases D.par o e' hor.1 hor.2 hf with h | h <;> omega
        show ¬ decide (e' + 1 = 0) = true
        rw [decide_eq_false (by omega)]
        exact Bool.false_ne_true
    · rw [decide_eq_false (fun h => hd (Option.some.inj h))]
      simp only [o2, Option.bind_some, decide_true, decide_false, Bool.not_true, Bool.not_false, Bool.false_eq_true, Bool.true_eq_false, if_false, if_true, ite_true, ite_false, Bool.true_or, Bool.or_false, Bool.false_or, eq_self_iff_true, reduceCtorEq]
      rw [pbig_some big, Option.bind_some, lcF_all (c := due F p) (g := fun x => x) (fun o ho => ?_) (fun _ _ _ => rfl), List.map_id']
      have hor := ar_in g h0 h1 ho
      rw [fd_some hor.1 (by omega)]
      unfold due
      rw [hp]
      cases hf : fd F o with
      | none => simp only [Option.isSome, o2, Option.bind_some, decide_true, decide_false, Bool.not_true, Bool.not_false, Bool.false_eq_true, Bool.true_eq_false, if_false, if_true, ite_true, ite_false, Bool.true_or, Bool.or_false, Bool.false_or, eq_self_iff_true, reduceCtorEq]
      | some e' =>
        simp only [Option.isSome, o2, Option.bind_some, decide_true, decide_false, Bool.not_true, Bool.not_false, Bool.false_eq_true, Bool.true_eq_false, if_false, if_true, ite_true, ite_false, Bool.true_or, Bool.or_false, Bool.false_or, eq_self_iff_true, reduceCtorEq, Option.some.injEq]
        exact decide_eq_decide.mpr ⟨fun h => by omega, fun h => by omega⟩
theorem wider_ok {near : List (List Int)} {doors : List Int} {st : List (List Int)} (g : Good near doors st) {closed aims : List Int} {c : Int} {F F' : List (Option Int)} (D : Dist near.length (ar near doors) closed aims F) (D' : Dist near.length (ar near doors) (closed ++ [c]) aims F') : ∀ (k : Nat) (x d : Int), 0 ≤ x → x ≤ (near.length : Int) → d.toNat = k → fd F' x = some d → ∃ e, fd F x = some e ∧ e ≤ d := by
  intro k
  induction k using Nat.strongRecOn with
  | ind k ih =>
    intro x d x0 x1 hk hx
    have hxc : x ∉ closed := fun h => by
      have := D'.cl x x0 x1 (List.mem_append_left _ h)
      rw [hx] at this
      cases this
    rcases D'.par x d x0 x1 hx with ⟨hd, ha⟩ | ⟨hd, y, y0, y1, hy, hyA⟩
    · exact ⟨0, D.zero x x0 x1 ha hxc, by omega⟩
    · obtain ⟨e, he, hle⟩ := ih (d - 1).toNat (by omega) y (d - 1) y0 y1 rfl hy
      obtain ⟨e', he', hle'⟩ := D.step y x e y0 y1 he hyA hxc
      exact ⟨e', he', by omega⟩
theorem law_true (ns : List Int) (hl : ns.length ≤ 63) : m_law ⟨ns⟩ = some true := by
  unfold m_law
  obtain ⟨ds, hd⟩ := digits_some ns (a := 0) (l := 63) (by decide) (by decide) (by decide)
  obtain ⟨near, doors, st, d1, e1, g⟩ := made_ok ds
  have hpos := g.pos
  have hsm := g.small
  simp only [hd, o2, Option.bind_some, decide_true, decide_false, Bool.not_true, Bool.not_false, Bool.false_eq_true, Bool.true_eq_false, if_false, if_true, ite_true, ite_false, Bool.true_or, Bool.or_false, Bool.false_or, eq_self_iff_true, reduceCtorEq, e1, floor_ok g]
  obtain ⟨closed, d2, e2, hc, hcl⟩ := some_ok d1 (many := (near.length : Int)) (most := 6) (by omega) (by decide) (by decide)
  obtain ⟨aims, d3, e3, ha, hal⟩ := some_ok d2 (many := (near.length : Int)) (most := 5) (by omega) (by decide) (by decide)
  simp only [e2, e3, o2, Option.bind_some, decide_true, decide_false, Bool.not_true, Bool.not_false, Bool.false_eq_true, Bool.true_eq_false, if_false, if_true, ite_true, ite_false, Bool.true_or, Bool.or_false, Bool.false_or, eq_self_iff_true, reduceCtorEq]
  obtain ⟨F, e4, D⟩ := distances_ok g (closed := closed) ha
  have hlen : (F.length : Int) = (near.length : Int) + 1 := by rw [D.len]; omega
  simp only [e4, o2, Option.bind_some, decide_true, decide_false, Bool.not_true, Bool.not_false, Bool.false_eq_true, Bool.true_eq_false, if_false, if_true, ite_true, ite_false, Bool.true_or, Bool.or_false, Bool.false_or, eq_self_iff_true, reduceCtorEq]
  rw [prange1_some (by omega) (by omega), Option.bind_some]
  obtain ⟨s, e, hs⟩ := forF_all (R := Bool) (b := fun x (s : List Int) => m_law_b1 ⟨ns⟩ ⟨near, doors, st⟩ near (flo near doors st) closed aims F x s) (fun s => s = d3) (rangeL 0 ((near.length : Int) + 1)) d3 rfl (fun p hp s hs => by
    have hp := mem_rangeL.mp hp
    unfold m_law_b1
    simp only [o2, Option.bind_some, decide_true, decide_false, Bool.not_true, Bool.not_false, Bool.false_eq_true, Bool.true_eq_false, if_false, if_true, ite_true, ite_false, Bool.true_or, Bool.or_false, Bool.false_or, eq_self_iff_true, reduceCtorEq]
    rw [(around_ok g hp.1 (by omega)).2, Option.bind_some]
    have hal := ar_len g hp.1 (show p ≤ (near.length : Int) by omega)
    rw [forN_fold (b := fun x (t : List Int × List Int) => m_law_b2 ⟨ns⟩ ⟨near, doors, st⟩ near (flo near doors st) closed aims F p x t) (g := fun t o => if due F p o = true then (t.1, t.2 ++ [o]) else t) (fun i t => t.2.length ≤ i) (ar near doors p).length (ar near doors p) 0 (s, []) (Nat.zero_add _) (Nat.le_refl _) (fun o ho i t hi hI => by
      have hor := ar_in g hp.1 (by omega) ho
      refine ⟨b2_ok ⟨ns⟩ _ near _ closed aims hp.1 (by omega) hor.1 (by omega) t (by omega), ?_⟩
      split
      · rw [List.length_append, List.length_singleton]
        omega
      · omega), fold_filter (due F p) s]
    rw [Option.bind_some, nearer_ok g e4 D hp.1 (by omega)]
    simp only [o2, Option.bind_some, decide_true, decide_false, Bool.not_true, Bool.not_false, Bool.false_eq_true, Bool.true_eq_false, if_false, if_true, ite_true, ite_false, Bool.true_or, Bool.or_false, Bool.false_or, eq_self_iff_true, reduceCtorEq, List.nil_append]
    rw [cells_ok (fun x hx => by
      have := ar_in g hp.1 (by omega) (List.mem_filter.mp hx).1
      omega)]
    simp only [o2, Option.bind_some, decide_true, decide_false, Bool.not_true, Bool.not_false, Bool.false_eq_true, Bool.true_eq_false, if_false, if_true, ite_true, ite_false, Bool.true_or, Bool.or_false, Bool.false_or, eq_self_iff_true, reduceCtorEq]
    exact ⟨s, rfl, hs⟩)
  rw [e]
  simp only [o2, Option.bind_some, decide_true, decide_false, Bool.not_true, Bool.not_false, Bool.false_eq_true, Bool.true_eq_false, if_false, if_true, ite_true, ite_false, Bool.true_or, Bool.or_false, Bool.false_or, eq_self_iff_true, reduceCtorEq]
  obtain ⟨c, d4, e5, _, _⟩ := draw_some (ds := s) (n := (near.length : Int)) (by omega)
  simp only [e5, o2, Option.bind_some, decide_true, decide_false, Bool.not_true, Bool.not_false, Bool.false_eq_true, Bool.true_eq_false, if_false, if_true, ite_true, ite_false, Bool.true_or, Bool.or_false, Bool.false_or, eq_self_iff_true, reduceCtorEq]
  rw [plst_some (show ([c] : List Int).length < 1000000 by show 1 < 1000000; decide)]
  simp only [o2, Option.bind_some, decide_true, decide_false, Bool.not_true, Bool.not_false, Bool.false_eq_true, Bool.true_eq_false, if_false, if_true, ite_true, ite_false, Bool.true_or, Bool.or_false, Bool.false_or, eq_self_iff_true, reduceCtorEq]
  rw [plst_some (by rw [List.length_append, List.length_singleton]; omega)]
  simp only [o2, Option.bind_some, decide_true, decide_false, Bool.not_true, Bool.not_false, Bool.false_eq_true, Bool.true_eq_false, if_false, if_true, ite_true, ite_false, Bool.true_or, Bool.or_false, Bool.false_or, eq_self_iff_true, reduceCtorEq]
  obtain ⟨F', e6, D'⟩ := distances_ok g (closed := closed ++ [c]) ha
  have hlen' : (F'.length : Int) = (near.length : Int) + 1 := by rw [D'.len]; omega
  rw [e6]
  simp only [o2, Option.bind_some, decide_true, decide_false, Bool.not_true, Bool.not_false, Bool.false_eq_true, Bool.true_eq_false, if_false, if_true, ite_true, ite_false, Bool.true_or, Bool.or_false, Bool.false_or, eq_self_iff_true, reduceCtorEq]
  obtain ⟨s', e', _⟩ := forF_all (R := Bool) (b := fun x (s : List Int) => m_law_b3 ⟨ns⟩ ⟨near, doors, st⟩ near (flo near doors st) closed aims F F' x s) (fun _ => True) (rangeL 0 ((near.length : Int) + 1)) d4 trivial (fun p hp s _ => by
    have hp := mem_rangeL.mp hp
    unfold m_law_b3 m_l_less
    rw [fd_some hp.1 (by omega), fd_some hp.1 (by omega)]
    simp only [o2, Option.bind_some, decide_true, decide_false, Bool.not_true, Bool.not_false, Bool.false_eq_true, Bool.true_eq_false, if_false, if_true, ite_true, ite_false, Bool.true_or, Bool.or_false, Bool.false_or, eq_self_iff_true, reduceCtorEq]
    cases h : fd F' p with
    | none =>
      simp only [Option.isNone, o2, Option.bind_some, decide_true, decide_false, Bool.not_true, Bool.not_false, Bool.false_eq_true, Bool.true_eq_false, if_false, if_true, ite_true, ite_false, Bool.true_or, Bool.or_false, Bool.false_or, eq_self_iff_true, reduceCtorEq]
      exact ⟨s, rfl, trivial⟩
    | some d =>
      obtain ⟨e, he, hle⟩ := wider_ok g D D' d.toNat p d hp.1 (by omega) rfl h
      rw [he]
      simp only [Option.isNone, o2, Option.bind_some, decide_true, decide_false, Bool.not_true, Bool.not_false, Bool.false_eq_true, Bool.true_eq_false, if_false, if_true, ite_true, ite_false, Bool.true_or, Bool.or_false, Bool.false_or, eq_self_iff_true, reduceCtorEq]
      rw [decide_eq_false (by omega)]
      exact ⟨s, rfl, trivial⟩)
  rw [e']
  simp only [o2, Option.bind_some, decide_true, decide_false, Bool.not_true, Bool.not_false, Bool.false_eq_true, Bool.true_eq_false, if_false, if_true, ite_true, ite_false, Bool.true_or, Bool.or_false, Bool.false_or, eq_self_iff_true, reduceCtorEq]
end Cw

set_option Elab.async false
set_option linter.all false
set_option maxRecDepth 100000
set_option maxHeartbeats 4000000
namespace Cw
open PySem L2 Cf
open PySem.Spec PyProof.Rows
def d_l_cell : He.DefD := ⟨("_law_cell", none), "_law_cell", "_law_cell", defArgs s_l_cell, defBody s_l_cell, defScope s_l_cell, [], []⟩
def d_l_digits : He.DefD := ⟨("_law_digits", none), "_law_digits", "_law_digits", defArgs s_l_digits, defBody s_l_digits, defScope s_l_digits, [], []⟩
def d_l_draw : He.DefD := ⟨("_law_draw", none), "_law_draw", "_law_draw", defArgs s_l_draw, defBody s_l_draw, defScope s_l_draw, [], []⟩
def d_l_tile : He.DefD := ⟨("_law_tile", none), "_law_tile", "_law_tile", defArgs s_l_tile, defBody s_l_tile, defScope s_l_tile, [], []⟩
def d_l_used : He.DefD := ⟨("_law_used", none), "_law_used", "_law_used", defArgs s_l_used, defBody s_l_used, defScope s_l_used, [], []⟩
def d_l_renamed : He.DefD := ⟨("_law_renamed", none), "_law_renamed", "_law_renamed", defArgs s_l_renamed, defBody s_l_renamed, defScope s_l_renamed, [], []⟩
def d_l_has_door : He.DefD := ⟨("_law_has_door", none), "_law_has_door", "_law_has_door", defArgs s_l_has_door, defBody s_l_has_door, defScope s_l_has_door, [], []⟩
def d_l_with_door : He.DefD := ⟨("_law_with_door", none), "_law_with_door", "_law_with_door", defArgs s_l_with_door, defBody s_l_with_door, defScope s_l_with_door, [], []⟩
def d_l_rows : He.DefD := ⟨("_law_rows", none), "_law_rows", "_law_rows", defArgs s_l_rows, defBody s_l_rows, defScope s_l_rows, [], []⟩
def d_l_places : He.DefD := ⟨("_law_places", none), "_law_places", "_law_places", defArgs s_l_places, defBody s_l_places, defScope s_l_places, [], []⟩
def d_l_near : He.DefD := ⟨("_law_near", none), "_law_near", "_law_near", defArgs s_l_near, defBody s_l_near, defScope s_l_near, [], []⟩
def d_l_doors : He.DefD := ⟨("_law_doors", none), "_law_doors", "_law_doors", defArgs s_l_doors, defBody s_l_doors, defScope s_l_doors, [], []⟩
def d_l_stations : He.DefD := ⟨("_law_stations", none), "_law_stations", "_law_stations", defArgs s_l_stations, defBody s_l_stations, defScope s_l_stations, [], []⟩
def d_l_made : He.DefD := ⟨("_law_made", none), "_law_made", "_law_made", defArgs s_l_made, defBody s_l_made, defScope s_l_made, [], []⟩
def d_l_is_int : He.DefD := ⟨("_law_is_int", none), "_law_is_int", "_law_is_int", defArgs s_l_is_int, defBody s_l_is_int, defScope s_l_is_int, [], []⟩
def d_l_some : He.DefD := ⟨("_law_some", none), "_law_some", "_law_some", defArgs s_l_some, defBody s_l_some, defScope s_l_some, [], []⟩
def d_l_around : He.DefD := ⟨("_law_around", none), "_law_around", "_law_around", defArgs s_l_around, defBody s_l_around, defScope s_l_around, [], []⟩
def d_Floor___init__ : He.DefD := ⟨("Floor", some "__init__"), "__init__", "Floor.__init__", defArgs s_Floor___init__, defBody s_Floor___init__, defScope s_Floor___init__, [], []⟩
def d_Floor_around : He.DefD := ⟨("Floor", some "around"), "around", "Floor.around", defArgs s_Floor_around, defBody s_Floor_around, defScope s_Floor_around, [], []⟩
def d_floor_of : He.DefD := ⟨("floor_of", none), "floor_of", "floor_of", defArgs s_floor_of, defBody s_floor_of, defScope s_floor_of, [], []⟩
def d_distances : He.DefD := ⟨("distances", none), "distances", "distances", defArgs s_distances, defBody s_distances, defScope s_distances, [], []⟩
def d_nearer : He.DefD := ⟨("nearer", none), "nearer", "nearer", defArgs s_nearer, defBody s_nearer, defScope s_nearer, [], []⟩
def d_l_is_cells : He.DefD := ⟨("_law_is_cells", none), "_law_is_cells", "_law_is_cells", defArgs s_l_is_cells, defBody s_l_is_cells, defScope s_l_is_cells, [], []⟩
def d_l_less : He.DefD := ⟨("_law_less", none), "_law_less", "_law_less", defArgs s_l_less, defBody s_l_less, defScope s_l_less, [], []⟩
def d_law : He.DefD := ⟨("law", none), "law", "law", defArgs s_law, defBody s_law, defScope s_law, [], []⟩
def fnL : List He.DefD := [d_l_cell, d_l_digits, d_l_draw, d_l_tile, d_l_used, d_l_renamed, d_l_has_door, d_l_with_door, d_l_rows, d_l_places, d_l_near, d_l_doors, d_l_stations, d_l_made, d_l_is_int, d_l_some, d_l_around, d_Floor___init__, d_Floor_around, d_floor_of, d_distances, d_nearer, d_l_is_cells, d_l_less, d_law]
def faL : List He.Fa := [.cls "Floor", .free "abs", .free "bool", .free "int", .free "isinstance", .free "len", .free "list", .free "range", .free "sorted", .glo "Floor", .mkr "Floor", .noat "Floor" "depot", .noat "Floor" "doors", .noat "Floor" "near", .noat "Floor" "places", .noat "Floor" "size", .noat "Floor" "stations", .glo "_law_cell", .glo "_law_digits", .glo "_law_draw", .glo "_law_tile", .glo "_law_used", .glo "_law_renamed", .glo "_law_has_door", .glo "_law_with_door", .glo "_law_rows", .glo "_law_places", .glo "_law_near", .glo "_law_doors", .glo "_law_stations", .glo "_law_made", .glo "_law_is_int", .glo "_law_some", .glo "_law_around", .meth "Floor" "__init__", .meth "Floor" "around", .glo "floor_of", .glo "distances", .glo "nearer", .glo "_law_is_cells", .glo "_law_less", .glo "law"]
def loose : List PySem.Str := (["_wall", "distances", "nearer", "Floor", "floor_of", "_law_cell", "_law_digits", "_law_draw", "_law_tile", "_law_used", "_law_renamed", "_law_has_door", "_law_with_door", "_law_rows", "_law_places", "_law_near", "_law_doors", "_law_stations", "_law_made", "_law_is_int", "_law_is_cells", "_law_is_way", "_law_are_ways", "_law_reached", "_law_cuts", "_law_some", "_law_around", "_law_less"] : List PySem.Str)
abbrev R : PySem.W.OpenRow := PySem.W.OpenLaw.row PySem.Challenge.rw_clearfloor_k06_nearer_positions
abbrev hk : PySem.W.Hook := He.hookD 5 faL fnL
def ob (s : PySem.W.SharedT) : He.AlD := He.obsDG 5 faL fnL (HandSHeadRun.getT s)
theorem ob_eq (s : PySem.W.SharedT) : ob s = hk.obs s.abs := He.obsDG_eq (HandSHeadRun.getT_eq s)
set_option maxHeartbeats 0 in
theorem run (w : World) : HandSHeadRun.RunEq R (PySem.W.view R.prog [31]) hk ob 8000 loose w := by
  intro os
  kernel_rfl
theorem facts {P : Program} {w : World} {K : PySem.W.Frag} {h : Heap} {mg : Str → Option Value} {f : Addr} (X : K.In h) (G : h.Ns mainGlobals mg) (hfa : mg ("law" : Str) = some (.ref f)) (c : He.SaysD faL fnL K) :
    ∃ fd : FuncData, (∀ (s : Shared) (v : Value), BindsTo s fd ⟨[v], []⟩ [("_law_script", v)]) ∧ ∀ base : Heap, K.In base → base.Ns mainGlobals mg → FnOk P w K mg base CX0 5 f fd ["_law_script"] (sp_law K) := by
  have T : Tx K mg := ⟨He.cls_ok (c.fact 0 rfl), He.free_ok X G (c.fact 1 rfl), He.free_ok X G (c.fact 2 rfl), He.free_ok X G (c.fact 3 rfl), He.free_ok X G (c.fact 4 rfl), He.free_ok X G (c.fact 5 rfl), He.free_ok X G (c.fact 6 rfl), He.free_ok X G (c.fact 7 rfl), He.free_ok X G (c.fact 8 rfl), He.glo_ok X G (c.fact 9 rfl), He.mkr_ok (c.fact 10 rfl), He.noat_ok (c.fact 11 rfl), He.noat_ok (c.fact 12 rfl), He.noat_ok (c.fact 13 rfl), He.noat_ok (c.fact 14 rfl), He.noat_ok (c.fact 15 rfl), He.noat_ok (c.fact 16 rfl)⟩
  obtain ⟨fd0, F0⟩ := c.def_ 0 (d := d_l_cell) rfl
  obtain ⟨fd1, F1⟩ := c.def_ 1 (d := d_l_digits) rfl
  obtain ⟨fd2, F2⟩ := c.def_ 2 (d := d_l_draw) rfl
  obtain ⟨fd3, F3⟩ := c.def_ 3 (d := d_l_tile) rfl
  obtain ⟨fd4, F4⟩ := c.def_ 4 (d := d_l_used) rfl
  obtain ⟨fd5, F5⟩ := c.def_ 5 (d := d_l_renamed) rfl
  obtain ⟨fd6, F6⟩ := c.def_ 6 (d := d_l_has_door) rfl
  obtain ⟨fd7, F7⟩ := c.def_ 7 (d := d_l_with_door) rfl
  obtain ⟨fd8, F8⟩ := c.def_ 8 (d := d_l_rows) rfl
  obtain ⟨fd9, F9⟩ := c.def_ 9 (d := d_l_places) rfl
  obtain ⟨fd10, F10⟩ := c.def_ 10 (d := d_l_near) rfl
  obtain ⟨fd11, F11⟩ := c.def_ 11 (d := d_l_doors) rfl
  obtain ⟨fd12, F12⟩ := c.def_ 12 (d := d_l_stations) rfl
  obtain ⟨fd13, F13⟩ := c.def_ 13 (d := d_l_made) rfl
  obtain ⟨fd14, F14⟩ := c.def_ 14 (d := d_l_is_int) rfl
  obtain ⟨fd15, F15⟩ := c.def_ 15 (d := d_l_some) rfl
  obtain ⟨fd16, F16⟩ := c.def_ 16 (d := d_l_around) rfl
  obtain ⟨fd17, F17⟩ := c.def_ 17 (d := d_Floor___init__) rfl
  obtain ⟨fd18, F18⟩ := c.def_ 18 (d := d_Floor_around) rfl
  obtain ⟨fd19, F19⟩ := c.def_ 19 (d := d_floor_of) rfl
  obtain ⟨fd20, F20⟩ := c.def_ 20 (d := d_distances) rfl
  obtain ⟨fd21, F21⟩ := c.def_ 21 (d := d_nearer) rfl
  obtain ⟨fd22, F22⟩ := c.def_ 22 (d := d_l_is_cells) rfl
  obtain ⟨fd23, F23⟩ := c.def_ 23 (d := d_l_less) rfl
  obtain ⟨fd24, F24⟩ := c.def_ 24 (d := d_law) rfl
  have e := hfa.symm.trans (He.glo_ok X G (c.fact 41 rfl))
  cases e
  refine ⟨fd24, fun s v => FunD.bindsA (ps := ["_law_script"]) F24 (fun _ _ _ _ _ _ us hl => match us, hl with | [_], _ => rfl) s [v] rfl, fun base _ _ => ?_⟩
  have c_l_cell : Fc P w K mg base 1 "_law_cell" ["_law_script", "_law_k"] (sp_l_cell K) := fc_of F0 (ok_l_cell F0 T ) (He.glo_ok X G (c.fact 17 rfl)) (fun _ _ _ _ _ _ us hl => match us, hl with | [_, _], _ => rfl)
  have c_l_digits : Fc P w K mg base 2 "_law_digits" ["_law_script", "_law_first", "_law_last"] (sp_l_digits K) := fc_of F1 (ok_l_digits F1 T c_l_cell) (He.glo_ok X G (c.fact 18 rfl)) (fun _ _ _ _ _ _ us hl => match us, hl with | [_, _, _], _ => rfl)
  have c_l_draw : Fc P w K mg base 1 "_law_draw" ["_law_box", "_law_many"] (sp_l_draw K) := fc_of F2 (ok_l_draw F2 T ) (He.glo_ok X G (c.fact 19 rfl)) (fun _ _ _ _ _ _ us hl => match us, hl with | [_, _], _ => rfl)
  have c_l_tile : Fc P w K mg base 2 "_law_tile" ["_law_box", "_law_shuts", "_law_many"] (sp_l_tile K) := fc_of F3 (ok_l_tile F3 T c_l_draw) (He.glo_ok X G (c.fact 20 rfl)) (fun _ _ _ _ _ _ us hl => match us, hl with | [_, _, _], _ => rfl)
  have c_l_used : Fc P w K mg base 1 "_law_used" ["_law_rows_here"] (sp_l_used K) := fc_of F4 (ok_l_used F4 T ) (He.glo_ok X G (c.fact 21 rfl)) (fun _ _ _ _ _ _ us hl => match us, hl with | [_], _ => rfl)
  have c_l_renamed : Fc P w K mg base 1 "_law_renamed" ["_law_row", "_law_used_here"] (sp_l_renamed K) := fc_of F5 (ok_l_renamed F5 T ) (He.glo_ok X G (c.fact 22 rfl)) (fun _ _ _ _ _ _ us hl => match us, hl with | [_, _], _ => rfl)
  have c_l_has_door : Fc P w K mg base 1 "_law_has_door" ["_law_rows_here"] (sp_l_has_door K) := fc_of F6 (ok_l_has_door F6 T ) (He.glo_ok X G (c.fact 23 rfl)) (fun _ _ _ _ _ _ us hl => match us, hl with | [_], _ => rfl)
  have c_l_with_door : Fc P w K mg base 1 "_law_with_door" ["_law_rows_here"] (sp_l_with_door K) := fc_of F7 (ok_l_with_door F7 T ) (He.glo_ok X G (c.fact 24 rfl)) (fun _ _ _ _ _ _ us hl => match us, hl with | [_], _ => rfl)
  have c_l_rows : Fc P w K mg base 3 "_law_rows" ["_law_box"] (sp_l_rows K) := fc_of F8 (ok_l_rows F8 T c_l_draw c_l_has_door c_l_renamed c_l_tile c_l_used c_l_with_door) (He.glo_ok X G (c.fact 25 rfl)) (fun _ _ _ _ _ _ us hl => match us, hl with | [_], _ => rfl)
  have c_l_places : Fc P w K mg base 1 "_law_places" ["_law_rows_here"] (sp_l_places K) := fc_of F9 (ok_l_places F9 T ) (He.glo_ok X G (c.fact 26 rfl)) (fun _ _ _ _ _ _ us hl => match us, hl with | [_], _ => rfl)
  have c_l_near : Fc P w K mg base 1 "_law_near" ["_law_places_here"] (sp_l_near K) := fc_of F10 (ok_l_near F10 T ) (He.glo_ok X G (c.fact 27 rfl)) (fun _ _ _ _ _ _ us hl => match us, hl with | [_], _ => rfl)
  have c_l_doors : Fc P w K mg base 1 "_law_doors" ["_law_rows_here", "_law_places_here"] (sp_l_doors K) := fc_of F11 (ok_l_doors F11 T ) (He.glo_ok X G (c.fact 28 rfl)) (fun _ _ _ _ _ _ us hl => match us, hl with | [_, _], _ => rfl)
  have c_l_stations : Fc P w K mg base 1 "_law_stations" ["_law_rows_here", "_law_places_here"] (sp_l_stations K) := fc_of F12 (ok_l_stations F12 T ) (He.glo_ok X G (c.fact 29 rfl)) (fun _ _ _ _ _ _ us hl => match us, hl with | [_, _], _ => rfl)
  have c_l_made : Fc P w K mg base 4 "_law_made" ["_law_box"] (sp_l_made K) := fc_of F13 (ok_l_made F13 T c_l_doors c_l_near c_l_places c_l_rows c_l_stations) (He.glo_ok X G (c.fact 30 rfl)) (fun _ _ _ _ _ _ us hl => match us, hl with | [_], _ => rfl)
  have c_l_is_int : Fc P w K mg base 1 "_law_is_int" ["_law_x"] (sp_l_is_int K) := fc_of F14 (ok_l_is_int F14 T ) (He.glo_ok X G (c.fact 31 rfl)) (fun _ _ _ _ _ _ us hl => match us, hl with | [_], _ => rfl)
  have c_l_some : Fc P w K mg base 2 "_law_some" ["_law_box", "_law_many", "_law_most"] (sp_l_some K) := fc_of F15 (ok_l_some F15 T c_l_draw) (He.glo_ok X G (c.fact 32 rfl)) (fun _ _ _ _ _ _ us hl => match us, hl with | [_, _, _], _ => rfl)
  have c_l_around : Fc P w K mg base 1 "_law_around" ["_law_near_here", "_law_doors_here", "_law_position"] (sp_l_around K) := fc_of F16 (ok_l_around F16 T ) (He.glo_ok X G (c.fact 33 rfl)) (fun _ _ _ _ _ _ us hl => match us, hl with | [_, _, _], _ => rfl)
  have c_Floor___init__ : Mc P w K mg base 1 "Floor" "__init__" ["self", "near", "doors", "stations", "places"] (sp_Floor___init__ K) := mc_of F17 (ok_Floor___init__ F17 T ) (He.meth_ok (c.fact 34 rfl)) (fun _ _ _ _ _ _ us hl => match us, hl with | [_, _, _, _, _], _ => rfl)
  have c_Floor_around : Mc P w K mg base 1 "Floor" "around" ["self", "position"] (sp_Floor_around K) := mc_of F18 (ok_Floor_around F18 T ) (He.meth_ok (c.fact 35 rfl)) (fun _ _ _ _ _ _ us hl => match us, hl with | [_, _], _ => rfl)
  have c_floor_of : Fc P w K mg base 3 "floor_of" ["near", "doors", "stations"] (sp_floor_of K) := fc_of F19 (ok_floor_of F19 T c_Floor___init__) (He.glo_ok X G (c.fact 36 rfl)) (fun _ _ _ _ _ _ us hl => match us, hl with | [_, _, _], _ => rfl)
  have c_distances : Fc P w K mg base 2 "distances" ["floor", "closed", "aims"] (sp_distances K) := fc_of F20 (ok_distances F20 T c_Floor_around) (He.glo_ok X G (c.fact 37 rfl)) (fun _ _ _ _ _ _ us hl => match us, hl with | [_, _, _], _ => rfl)
  have c_nearer : Fc P w K mg base 3 "nearer" ["floor", "closed", "aims", "position"] (sp_nearer K) := fc_of F21 (ok_nearer F21 T c_Floor_around c_distances) (He.glo_ok X G (c.fact 38 rfl)) (fun _ _ _ _ _ _ us hl => match us, hl with | [_, _, _, _], _ => rfl)
  have c_l_is_cells : Fc P w K mg base 2 "_law_is_cells" ["_law_xs", "_law_many"] (sp_l_is_cells K) := fc_of F22 (ok_l_is_cells F22 T c_l_is_int) (He.glo_ok X G (c.fact 39 rfl)) (fun _ _ _ _ _ _ us hl => match us, hl with | [_, _], _ => rfl)
  have c_l_less : Fc P w K mg base 1 "_law_less" ["_law_a", "_law_b"] (sp_l_less K) := fc_of F23 (ok_l_less F23 T ) (He.glo_ok X G (c.fact 40 rfl)) (fun _ _ _ _ _ _ us hl => match us, hl with | [_, _], _ => rfl)
  exact ok_law F24 T c_l_around c_l_digits c_l_draw c_l_is_cells c_l_less c_l_made c_l_some c_distances c_floor_of c_nearer
end Cw
open PySem PySem.W PySem.Calls PyProof.Rows
theorem PySem.Challenge.cw_clearfloor_k06_nearer_positions_holds : PySem.Challenge.rw_clearfloor_k06_nearer_positions.Holds := by
  w_on; o_law
  refine HandSHeadRun.head_any (r := OpenLaw.row PySem.Challenge.rw_clearfloor_k06_nearer_positions) (q := view (OpenLaw.row PySem.Challenge.rw_clearfloor_k06_nearer_positions).prog [31]) (H := Cw.hk) (ob := Cw.ob) (M := 8000) (loose := Cw.loose) (d := HandSHeadRun.topDef (OpenLaw.row PySem.Challenge.rw_clearfloor_k06_nearer_positions).prog 31) (kwd := []) Cw.ob_eq
    (by kernel_rfl) (fun s => by kernel_rfl) Cw.run (by kernel_rfl) (by kernel_rfl) (by kernel_rfl) (by rfl) (by first | assumption | decide +kernel) (by decide +kernel) ⟨rfl, rfl, rfl, rfl, rfl, by decide +kernel⟩ ?hw ?hc
  case hw => w_witness2
  case hc =>
    refine L2.walk_ofE (l := PySem.Challenge.rw_clearfloor_k06_nearer_positions) (n := 63) (k := 5) (x := "_law_script") (CX := L2.CX0) rfl (by decide) (by kernel_rfl) ⟨rfl, by decide, by decide⟩ ?F (fun _ _ _ _ z => z)
    intro w mg fa h Y G hmg0
    obtain ⟨K, KX, c⟩ := Y
    have hmg : mg ("law" : PySem.Str) = some (.ref fa) := by
      have e : (HandSHeadRun.topDef (OpenLaw.row PySem.Challenge.rw_clearfloor_k06_nearer_positions).prog 31).name = ("law" : PySem.Str) := by kernel_rfl
      rw [← e]
      exact hmg0
    obtain ⟨fd, hb, hF⟩ := Cw.facts (P := (PySem.Challenge.rw_clearfloor_k06_nearer_positions).prog) (w := w) KX G hmg c
    exact ⟨K, fd, Cw.sp_law K, KX, hb, fun H a ns hl _ hS => ⟨H, (⟨ns⟩, ()), true, Cf.Ex.refl H, ⟨_, _, rfl, ⟨a, rfl, hS⟩, rfl⟩, Cw.law_true ns hl, fun v _ _ _ hv => hv⟩, hF⟩
