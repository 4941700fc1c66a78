import PyProof.Rows.All
import Wide.All
import OpenK.AllK
import Wide.FinOn
import HandS.ForMost
import HandS.Exc
import HandS.Defaults
import HandS.HeadHook2
import HandS.HeadEnd
import HandS.Head2
import HandS.RaiseMore
import HandS.Deep
import KE.DataEq
import HandS.IsInst
import HandS.Flow
import HandS.SortInts
import HandS.Text
import HandS.Steps
import HandS.TupSets
import HandS.SetBool
import HandS.Rev
import KE.DataFind
import HandS.WordsDict
import HandS.AnyAll
import HandS.Style
import HandS.HeadHook4
import HandS.HeadWalk
import HandS.SortKw
import KE.DatumOrd
import HandS.RepeatKit
import HandS.StrMore
import PyProof.Rows.StrMul
import HandS.Iter
import HandS.SetKeys
import HandS.FStr
import PySem.Challenge.RW_clearfloor_k00_rows_written_back
set_option Elab.async false
set_option linter.all false
set_option maxRecDepth 100000
set_option maxHeartbeats 4000000
namespace Cf
open PySem L2

/-! ### heaps: B what is known and stays, H what stands -/
abbrev Fg := PySem.W.Frag
def Ex (B H : Hp) : Prop := ∀ a o, B a = some o → H a = some o
theorem Ex.refl (H : Hp) : Ex H H := fun _ _ h => h
theorem Ex.trans {A B C : Hp} (a : Ex A B) (b : Ex B C) : Ex A C := fun x o h => b x o (a x o h)
theorem Ex.new {H : Hp} {p : Addr} {o : HO} (h : H p = none) : Ex H (upd H p o) := fun a u e => by
  rw [upd_ne (ne_of_none e h)]
  exact e
theorem Ex.mut {B H : Hp} {p : Addr} {o : HO} (e : Ex B H) (h : B p = none) : Ex B (upd H p o) := fun a u q => by
  rw [upd_ne (ne_of_none q h)]
  exact e a u q
theorem Ex.two {B H : Hp} {p : Addr} {o : HO} (e : Ex B H) : Ex (upd B p o) (upd H p o) := fun a u q => by
  by_cases h : a = p
  · subst h
    rw [upd_same] at q
    rw [upd_same]
    exact q
  · rw [upd_ne h] at q
    rw [upd_ne h]
    exact e a u q
theorem Ex.add {B H : Hp} {p : Addr} {o : HO} (e : Ex B H) (h : H p = some o) : Ex (upd B p o) H := fun a u q => by
  by_cases hp : a = p
  · subst hp
    rw [upd_same] at q
    rw [h]
    exact q
  · rw [upd_ne hp] at q
    exact e a u q
theorem Ex.none {B H : Hp} {p : Addr} (e : Ex B H) (h : H p = Option.none) : B p = Option.none := by
  cases q : B p with
  | none => rfl
  | some o =>
    rw [e p o q] at h
    cases h

/-- sets of places -/
abbrev Ms := Addr → Prop
def noM : Ms := fun _ => False
/-- from (B, H) to (B', H'): what stands stays but for the places M; what is known is more; what was known apart stays apart -/
structure Gr (M : Ms) (B H B' H' : Hp) : Prop where
  s : Ex B H
  b : Ex B B'
  h : ∀ a o, ¬ M a → H a = some o → H' a = some o
  e : Ex B' H'
  n : ∀ a, H a ≠ none → B a = none → B' a = none
  k : ∀ a, H a ≠ none → H' a ≠ none
/-- W and B have no place in common -/
def Dj (W B : Hp) : Prop := ∀ a, W a ≠ none → B a = none
def dom (W : Hp) : Ms := fun a => W a ≠ none
def emp : Hp := fun _ => none
def sing (p : Addr) (o : HO) : Hp := upd emp p o
def uni (W B : Hp) : Hp := fun a => match W a with
  | some o => some o
  | none => B a
theorem sing_at {p : Addr} {o : HO} : sing p o p = some o := upd_same
theorem sing_ne {p a : Addr} {o : HO} (h : a ≠ p) : sing p o a = none := upd_ne h
theorem sing_dom {p a : Addr} {o : HO} (h : sing p o a ≠ none) : a = p := by
  by_cases e : a = p
  · exact e
  · exact absurd (sing_ne e) h
theorem uni_l {W B : Hp} {a : Addr} {o : HO} (h : W a = some o) : uni W B a = some o := by
  unfold uni
  rw [h]
theorem uni_r {W B : Hp} {a : Addr} (h : W a = none) : uni W B a = B a := by
  unfold uni
  rw [h]
theorem ex_uni_l {W B : Hp} : Ex W (uni W B) := fun _ _ h => uni_l h
theorem ex_uni_r {W B : Hp} (d : Dj W B) : Ex B (uni W B) := fun a o h => by
  rw [uni_r]
  · exact h
  · cases q : W a with
    | none => rfl
    | some o' =>
      have := d a (by rw [q]; exact fun z => nomatch z)
      rw [h] at this
      cases this
theorem ex_uni {W B H : Hp} (h1 : Ex W H) (h2 : Ex B H) : Ex (uni W B) H := fun a o h => by
  cases q : W a with
  | some o' =>
    rw [uni_l q] at h
    cases h
    exact h1 a _ q
  | none =>
    rw [uni_r q] at h
    exact h2 a o h
theorem nn {H : Hp} {a : Addr} {o : HO} (h : H a = some o) : H a ≠ none := fun q => by
  rw [h] at q
  cases q
theorem nn_ex {H : Hp} {a : Addr} (h : H a ≠ none) : ∃ o, H a = some o := by
  cases q : H a with
  | none => exact absurd q h
  | some o => exact ⟨o, rfl⟩
theorem Ex.nn {B H : Hp} (e : Ex B H) {a : Addr} (h : B a ≠ Option.none) : H a ≠ Option.none := by
  obtain ⟨o, q⟩ := nn_ex h
  exact Cf.nn (e a o q)
theorem Dj.symm {W B : Hp} (d : Dj W B) : Dj B W := fun a h => by
  cases q : W a with
  | none => rfl
  | some o => exact absurd (d a (nn q)) h
theorem Dj.emp {B : Hp} : Dj emp B := fun a h => absurd rfl h
theorem ex_emp {H : Hp} : Ex emp H := fun a o h => nomatch h
section
variable {M M' : Ms} {B H B1 H1 B2 H2 : Hp} {p : Addr} {o : HO}
theorem ne_free (hp : H p = none) {a : Addr} (h : H a ≠ none) : a ≠ p := by
  rintro rfl
  exact h hp
theorem Gr.refl (e : Ex B H) : Gr M B H B H := ⟨e, Ex.refl B, fun _ _ _ h => h, e, fun _ _ h => h, fun _ h => h⟩
theorem Gr.trans (x : Gr M B H B1 H1) (y : Gr M B1 H1 B2 H2) : Gr M B H B2 H2 :=
  ⟨x.s, x.b.trans y.b, fun a o m h => y.h a o m (x.h a o m h), y.e, fun a h n => y.n a (x.k a h) (x.n a h n), fun a h => y.k a (x.k a h)⟩
theorem Gr.mono (x : Gr M B H B1 H1) (s : ∀ a, M a → M' a) : Gr M' B H B1 H1 := ⟨x.s, x.b, fun a o m h => x.h a o (fun q => m (s a q)) h, x.e, x.n, x.k⟩
theorem Gr.up (x : Gr noM B H B1 H1) : Gr M B H B1 H1 := x.mono fun a h => h.elim
theorem Gr.then (x : Gr M B H B1 H1) (y : Gr noM B1 H1 B2 H2) : Gr M B H B2 H2 := x.trans y.up
theorem Gr.exH (x : Gr noM B H B1 H1) : Ex H H1 := fun a o h => x.h a o (fun q => q) h
theorem Gr.fresh (x : Gr M B H B1 H1) {a : Addr} (h : H1 a = none) : H a = none := by
  cases q : H a with
  | none => rfl
  | some o => exact absurd h (x.k a fun z => by rw [q] at z; cases z)
/-- a new object, known from now on -/
theorem Gr.new (e : Ex B H) (hp : H p = none) : Gr M B H (upd B p o) (upd H p o) :=
  ⟨e, Ex.new (e.none hp), fun a u _ h => Ex.new hp a u h, e.two, fun a h n => by rw [upd_ne (ne_free hp h)]; exact n, fun a h z => h (by rw [upd_ne (ne_free hp h)] at z; exact z)⟩
/-- a new object that may change -/
theorem Gr.newM (e : Ex B H) (hp : H p = none) : Gr M B H B (upd H p o) :=
  ⟨e, Ex.refl B, fun a u _ h => Ex.new hp a u h, e.mut (e.none hp), fun a _ n => n, fun a h z => h (by rw [upd_ne (ne_free hp h)] at z; exact z)⟩
/-- an object changes that is M's -/
theorem Gr.mut (e : Ex B H) (hp : M p) (n : B p = none) (hh : H p ≠ none) : Gr M B H B (upd H p o) :=
  ⟨e, Ex.refl B, fun a u m h => by
    have ne : a ≠ p := by
      rintro rfl
      exact m hp
    rw [upd_ne ne]
    exact h, e.mut n, fun _ _ h => h, fun a h z => by
    by_cases ne : a = p
    · subst ne
      rw [upd_same] at z
      cases z
    · rw [upd_ne ne] at z
      exact h z⟩
/-- what could change is known from now on -/
theorem Gr.freeze (x : Gr M B H B1 H1) (hp : H1 p = some o) (f : H p = none) (n : B1 p = none) : Gr M B H (upd B1 p o) H1 :=
  ⟨x.s, x.b.trans (Ex.new n), x.h, x.e.add hp, fun a h q => by
    rw [upd_ne (ne_free f h)]
    exact x.n a h q, x.k⟩
end
/-! ### what is one's own: W, apart from what is known -/
structure Sw (W B H W' B' H' : Hp) : Prop where
  g : Gr (dom W) B H B' H'
  w : Ex W' H'
  d : Dj W' B'
  f : ∀ a, W' a ≠ none → W a ≠ none ∨ H a = none
abbrev Ow (S : Type) := Hp → Hp → S → Prop
def plainO : HO → Bool
  | .tup _ => false
  | .frz _ _ => false
  | _ => true
class OwOk {S : Type} (P : Ow S) : Prop where
  mono : ∀ {W B B' : Hp} {s : S}, Ex B B' → P W B s → P W B' s
  nt : ∀ {W B : Hp} {s : S} {a : Addr} {o : HO}, P W B s → W a = some o → plainO o = true
def oE : Ow Unit := fun W _ _ => W = emp
instance : OwOk oE := ⟨fun _ h => h, fun h e => by rw [show _ = emp from h] at e; cases e⟩
def star {S S' : Type} (P : Ow S) (R : Ow S') : Ow (S × S') := fun W B s => ∃ W1 W2, W = uni W1 W2 ∧ Dj W1 W2 ∧ P W1 B s.1 ∧ R W2 B s.2
instance {S S' : Type} {P : Ow S} {R : Ow S'} [OwOk P] [OwOk R] : OwOk (star P R) :=
  ⟨fun e ⟨W1, W2, h, d, p, r⟩ => ⟨W1, W2, h, d, OwOk.mono e p, OwOk.mono e r⟩, fun ⟨W1, W2, h, d, p, r⟩ e => by
    subst h
    cases q : W1 _ with
    | some o' =>
      rw [uni_l q] at e
      cases e
      exact OwOk.nt p q
    | none =>
      rw [uni_r q] at e
      exact OwOk.nt r e⟩
/-- where one stands: from (Bs, Hs) on, with M to be changed, one's own W in the state s -/
structure Now {S : Type} (M : Ms) (Bs Hs : Hp) (P : Ow S) (W B H : Hp) (s : S) : Prop where
  g : Gr M Bs Hs B H
  w : Ex W H
  d : Dj W B
  p : P W B s
  f : ∀ a, W a ≠ none → M a ∨ Hs a = none
section
variable {S S' : Type} {M : Ms} {Bs Hs W B H W' B' H' W2 B2 H2 : Hp} {P : Ow S} {R : Ow S'} {s s' : S}
theorem Sw.refl (e : Ex B H) (w : Ex W H) (d : Dj W B) : Sw W B H W B H := ⟨Gr.refl e, w, d, fun a h => .inl h⟩
theorem Sw.trans (x : Sw W B H W' B' H') (y : Sw W' B' H' W2 B2 H2) : Sw W B H W2 B2 H2 :=
  ⟨⟨x.g.s, x.g.b.trans y.g.b, (fun a o m h => by
      have h1 := x.g.h a o m h
      refine y.g.h a o (fun q => ?_) h1
      rcases x.f a q with z | z
      · exact m z
      · rw [z] at h
        cases h), y.g.e, fun a h n => y.g.n a (x.g.k a h) (x.g.n a h n), fun a h => y.g.k a (x.g.k a h)⟩, y.w, y.d, fun a h => by
    rcases y.f a h with z | z
    · exact x.f a z
    · exact .inr (x.g.fresh z)⟩
theorem Sw.pure (e : Gr noM B H B' H') (w : Ex W H) (d : Dj W B) : Sw W B H W B' H' := ⟨e.up, w.trans e.exH, fun a h => e.n a (w.nn h) (d a h), fun a h => .inl h⟩
theorem Now.ex (x : Now M Bs Hs P W B H s) : Ex B H := x.g.e
theorem Now.pure [OwOk P] (x : Now M Bs Hs P W B H s) (e : Gr noM B H B' H') : Now M Bs Hs P W B' H' s :=
  ⟨x.g.then e, x.w.trans e.exH, fun a h => e.n a (x.w.nn h) (x.d a h), OwOk.mono e.b x.p, x.f⟩
theorem Now.step (x : Now M Bs Hs P W B H s) (y : Sw W B H W' B' H') {s2 : S'} {P2 : Ow S'} (p : P2 W' B' s2) : Now M Bs Hs P2 W' B' H' s2 :=
  ⟨⟨x.g.s, x.g.b.trans y.g.b, (fun a o m h => by
      have h1 := x.g.h a o m h
      refine y.g.h a o (fun q => ?_) h1
      rcases x.f a q with z | z
      · exact m z
      · rw [z] at h
        cases h), y.g.e, fun a h n => y.g.n a (x.g.k a h) (x.g.n a h n), fun a h => y.g.k a (x.g.k a h)⟩, y.w, y.d, p, fun a h => by
    rcases y.f a h with z | z
    · exact x.f a z
    · exact .inr (x.g.fresh z)⟩
theorem Now.sw {B0 H0 W0 : Hp} (x : Now (dom W0) B0 H0 P W B H s) : Sw W0 B0 H0 W B H := ⟨x.g, x.w, x.d, x.f⟩
theorem now0 (e : Ex B H) (w : Ex W H) (d : Dj W B) (p : P W B s) : Now (dom W) B H P W B H s := ⟨Gr.refl e, w, d, p, fun a h => .inl h⟩
theorem nowE (e : Ex B H) : Now noM B H oE emp B H () := ⟨Gr.refl e, ex_emp, Dj.emp, rfl, fun a h => absurd rfl h⟩
theorem uni_dom {W1 W2 : Hp} {a : Addr} (h : uni W1 W2 a ≠ none) : W1 a ≠ none ∨ W2 a ≠ none := by
  cases q : W1 a with
  | some o => exact .inl (fun z => nomatch z)
  | none =>
    rw [uni_r q] at h
    exact .inr h
theorem uni_dom_l {W1 W2 : Hp} {a : Addr} (h : W1 a ≠ none) : uni W1 W2 a ≠ none := by
  obtain ⟨o, q⟩ := nn_ex h
  exact nn (uni_l q)
theorem uni_dom_r {W1 W2 : Hp} {a : Addr} (d : Dj W1 W2) (h : W2 a ≠ none) : uni W1 W2 a ≠ none := by
  rw [uni_r (d.symm a h)]
  exact h
/-- the frame: a step of W1 beside W2 -/
theorem Sw.beside {W1 W2 W1' : Hp} (y : Sw W1 B H W1' B' H') (w2 : Ex W2 H) (d : Dj W1 W2) (d2 : Dj W2 B) : Sw (uni W1 W2) B H (uni W1' W2) B' H' ∧ Dj W1' W2 := by
  have dj : Dj W1' W2 := fun a h => by
    rcases y.f a h with z | z
    · exact d a z
    · cases q : W2 a with
      | none => rfl
      | some o =>
        rw [w2 a o q] at z
        cases z
  have w2' : Ex W2 H' := fun a o h => y.g.h a o (fun q => q (d.symm a (nn h))) (w2 a o h)
  refine ⟨⟨y.g.mono fun a h => uni_dom_l h, ex_uni y.w w2', fun a h => ?_, fun a h => ?_⟩, dj⟩
  · rcases uni_dom h with z | z
    · exact y.d a z
    · exact y.g.n a (w2.nn z) (d2 a z)
  · rcases uni_dom h with z | z
    · rcases y.f a z with q | q
      · exact .inl (uni_dom_l q)
      · exact .inr q
    · exact .inl (uni_dom_r d z)
end

/-! ### data and the values that stand for it -/
class Rp (α : Type) where
  rp : Fg → Hp → V → α → Prop
  mono : ∀ {K : Fg} {B B' : Hp} {v : V} {x : α}, Ex B B' → rp K B v x → rp K B' v x
open Rp (rp)
theorem rd_mono {B B' : Hp} {a : Addr} {u : HO} (e : Ex B B') (h : Rd B a u) : Rd B' a u := by
  rcases h with h | ⟨o, h⟩
  · exact .inl (e _ _ h)
  · exact .inr ⟨o, e _ _ h⟩
theorem sql_mono {K : Fg} {B B' : Hp} {a : Addr} {xs : List V} (e : Ex B B') (h : SqL K B a xs) : SqL K B' a xs := by
  rcases h with h | h
  · exact .inl (rd_mono e h)
  · exact .inr h
theorem sqt_mono {K : Fg} {B B' : Hp} {a : Addr} {xs : List V} (e : Ex B B') (h : SqT K B a xs) : SqT K B' a xs := by
  rcases h with h | h
  · exact .inl (rd_mono e h)
  · exact .inr h
mutual
theorem dp_mono {K : Fg} {B B' : Hp} (e : Ex B B') : ∀ (d : PyData) (v : V), Dp K B v d → Dp K B' v d
  | .none, v, h => by cases h; exact .non
  | .bool b, v, h => by cases h; exact .bl b
  | .int i, v, h => by cases h; exact .int i
  | .str x, v, h => by cases h; exact .str x
  | .list ds, v, h => by
    cases h with
    | lst h1 h2 => exact .lst (sql_mono e h1) (dpall_mono e ds _ h2)
  | .tuple ds, v, h => by
    cases h with
    | tup h1 h2 => exact .tup (sqt_mono e h1) (dpall_mono e ds _ h2)
  | .dict _, v, h => by cases h
theorem dpall_mono {K : Fg} {B B' : Hp} (e : Ex B B') : ∀ (ds : List PyData) (vs : List V), DpAll K B vs ds → DpAll K B' vs ds
  | [], vs, h => by cases h; exact .nil
  | d :: ds, vs, h => by
    cases h with
    | cons h1 h2 => exact .cons (dp_mono e d _ h1) (dpall_mono e ds _ h2)
end

theorem pr_mono {α : Type} [Rp α] {K : Fg} {B B' : Hp} (e : Ex B B') : ∀ {vs : List V} {xs : List α}, Paired (rp K B) vs xs → Paired (rp K B') vs xs
  | _, _, .nil => .nil
  | _, _, .cons r t => .cons (Rp.mono e r) (pr_mono e t)
theorem pr_get {α β : Type} {R : α → β → Prop} : ∀ {vs : List α} {xs : List β} {i : Nat} {x : β}, Paired R vs xs → xs[i]? = some x → ∃ v, vs[i]? = some v ∧ R v x
  | _, _, _, _, .nil, e => by simp at e
  | _, _, 0, _, .cons r _, e => by simp at e; subst e; exact ⟨_, rfl, r⟩
  | _, _, i + 1, x, .cons _ t, e => by
    obtain ⟨u, h1, h2⟩ := pr_get (i := i) (x := x) t (by simpa using e)
    exact ⟨u, by simpa using h1, h2⟩
theorem pr_getL {α β : Type} {R : α → β → Prop} : ∀ {vs : List α} {xs : List β} {i : Nat} {v : α}, Paired R vs xs → vs[i]? = some v → ∃ x, xs[i]? = some x ∧ R v x
  | _, _, _, _, .nil, e => by simp at e
  | _, _, 0, _, .cons r _, e => by simp at e; subst e; exact ⟨_, rfl, r⟩
  | _, _, i + 1, x, .cons _ t, e => by
    obtain ⟨u, h1, h2⟩ := pr_getL (i := i) t (by simpa using e)
    exact ⟨u, by simpa using h1, h2⟩
theorem pr_app {α β : Type} {R : α → β → Prop} : ∀ {vs us : List α} {xs ys : List β}, Paired R vs xs → Paired R us ys → Paired R (vs ++ us) (xs ++ ys)
  | _, _, _, _, .nil, s => s
  | _, _, _, _, .cons r t, s => .cons r (pr_app t s)
theorem pr_len {α β : Type} {R : α → β → Prop} {vs : List α} {xs : List β} (p : Paired R vs xs) : vs.length = xs.length := Paired.length p
theorem pr_set {α β : Type} {R : α → β → Prop} {v : α} {x : β} (r : R v x) : ∀ {vs : List α} {xs : List β} (i : Nat), Paired R vs xs → Paired R (vs.set i v) (xs.set i x)
  | _, _, _, .nil => .nil
  | _, _, 0, .cons _ t => .cons r t
  | _, _, i + 1, .cons q t => .cons q (pr_set r i t)
theorem pr_take {α β : Type} {R : α → β → Prop} : ∀ {vs : List α} {xs : List β} (n : Nat), Paired R vs xs → Paired R (vs.take n) (xs.take n)
  | _, _, 0, _ => .nil
  | _, _, _ + 1, .nil => .nil
  | _, _, n + 1, .cons r t => .cons r (pr_take n t)
theorem pr_drop {α β : Type} {R : α → β → Prop} : ∀ {vs : List α} {xs : List β} (n : Nat), Paired R vs xs → Paired R (vs.drop n) (xs.drop n)
  | _, _, 0, r => r
  | _, _, _ + 1, .nil => .nil
  | _, _, n + 1, .cons _ t => pr_drop n t
theorem pr_rev {α β : Type} {R : α → β → Prop} : ∀ {vs : List α} {xs : List β}, Paired R vs xs → Paired R vs.reverse xs.reverse
  | _, _, .nil => .nil
  | _, _, .cons r t => by
    rw [List.reverse_cons, List.reverse_cons]
    exact pr_app (pr_rev t) (.cons r .nil)
theorem pr_ints {K : Fg} {B : Hp} : True := trivial
instance : Rp Int := ⟨fun _ _ v x => v = .int x, fun _ h => h⟩
instance : Rp Bool := ⟨fun _ _ v x => v = .bl x, fun _ h => h⟩
instance : Rp Str := ⟨fun _ _ v x => v = .str x, fun _ h => h⟩
instance : Rp Unit := ⟨fun _ _ v _ => v = .non, fun _ h => h⟩
def rpO {α : Type} [Rp α] (K : Fg) (B : Hp) (v : V) : Option α → Prop
  | none => v = .non
  | some y => rp K B v y
instance {α : Type} [Rp α] : Rp (Option α) := ⟨rpO, fun {K B B' v x} e h => by
  cases x with
  | none => exact h
  | some y => exact Rp.mono (α := α) e h⟩
instance {α : Type} [Rp α] : Rp (List α) := ⟨fun K B v xs => ∃ a vs, v = .ref a ∧ B a = some (.lst vs) ∧ Paired (rp K B) vs xs, fun e ⟨a, vs, h, s, p⟩ => ⟨a, vs, h, e _ _ s, pr_mono e p⟩⟩
/-- the script -/
structure Scr where
  l : List Int
instance : Rp Scr := ⟨fun K B v x => ∃ a, v = .ref a ∧ SqL K B a (x.l.map V.int), fun e ⟨a, h, s⟩ => ⟨a, h, sql_mono e s⟩⟩
theorem sq_lst {K : Fg} {H : Hp} {a : Addr} {vs : List V} (h : H a = some (.lst vs)) : SqL K H a vs := .inl (.inl h)
instance {α β : Type} [Rp α] [Rp β] : Rp (α × β) := ⟨fun K B v x => ∃ a u w, v = .ref a ∧ SqT K B a [u, w] ∧ rp K B u x.1 ∧ rp K B w x.2, fun e ⟨a, u, w, h, s, p, q⟩ => ⟨a, u, w, h, sqt_mono e s, Rp.mono e p, Rp.mono e q⟩⟩
/-! longer tuples -/
structure T3 (α β γ : Type) where
  a : α
  b : β
  c : γ
  deriving DecidableEq
structure T4 (α β γ δ : Type) where
  a : α
  b : β
  c : γ
  d : δ
  deriving DecidableEq
structure T5 (α β γ δ ε : Type) where
  a : α
  b : β
  c : γ
  d : δ
  e : ε
  deriving DecidableEq
instance {α β γ : Type} [Rp α] [Rp β] [Rp γ] : Rp (T3 α β γ) := ⟨fun K B v x => ∃ a u1 u2 u3, v = .ref a ∧ SqT K B a [u1, u2, u3] ∧ rp K B u1 x.a ∧ rp K B u2 x.b ∧ rp K B u3 x.c, fun e ⟨a, u1, u2, u3, h, s, p1, p2, p3⟩ => ⟨a, u1, u2, u3, h, sqt_mono e s, Rp.mono e p1, Rp.mono e p2, Rp.mono e p3⟩⟩
instance {α β γ δ : Type} [Rp α] [Rp β] [Rp γ] [Rp δ] : Rp (T4 α β γ δ) := ⟨fun K B v x => ∃ a u1 u2 u3 u4, v = .ref a ∧ SqT K B a [u1, u2, u3, u4] ∧ rp K B u1 x.a ∧ rp K B u2 x.b ∧ rp K B u3 x.c ∧ rp K B u4 x.d,
  fun e ⟨a, u1, u2, u3, u4, h, s, p1, p2, p3, p4⟩ => ⟨a, u1, u2, u3, u4, h, sqt_mono e s, Rp.mono e p1, Rp.mono e p2, Rp.mono e p3, Rp.mono e p4⟩⟩
instance {α β γ δ ε : Type} [Rp α] [Rp β] [Rp γ] [Rp δ] [Rp ε] : Rp (T5 α β γ δ ε) := ⟨fun K B v x => ∃ a u1 u2 u3 u4 u5, v = .ref a ∧ SqT K B a [u1, u2, u3, u4, u5] ∧ rp K B u1 x.a ∧ rp K B u2 x.b ∧ rp K B u3 x.c ∧ rp K B u4 x.d ∧ rp K B u5 x.e,
  fun e ⟨a, u1, u2, u3, u4, u5, h, s, p1, p2, p3, p4, p5⟩ => ⟨a, u1, u2, u3, u4, u5, h, sqt_mono e s, Rp.mono e p1, Rp.mono e p2, Rp.mono e p3, Rp.mono e p4, Rp.mono e p5⟩⟩
/-! arguments -/
class RpL (τ : Type) where
  rpl : Fg → Hp → List V → τ → Prop
  mono : ∀ {K : Fg} {B B' : Hp} {vs : List V} {x : τ}, Ex B B' → rpl K B vs x → rpl K B' vs x
open RpL (rpl)
instance : RpL Unit := ⟨fun _ _ vs _ => vs = [], fun _ h => h⟩
instance {α τ : Type} [Rp α] [RpL τ] : RpL (α × τ) := ⟨fun K B vs x => ∃ v us, vs = v :: us ∧ rp K B v x.1 ∧ rpl K B us x.2, fun e ⟨v, us, h, p, q⟩ => ⟨v, us, h, Rp.mono e p, RpL.mono e q⟩⟩

/-! ### data that == reads -/
class Enc (α : Type) extends Rp α where
  enc : α → PyData
  to : ∀ {K : Fg} {B : Hp} {v : V} {x : α}, rp K B v x → Dp K B v (enc x)
open Enc (enc)
theorem dpall_of {α : Type} [Enc α] {K : Fg} {B : Hp} : ∀ {vs : List V} {xs : List α}, Paired (rp K B) vs xs → DpAll K B vs (xs.map enc)
  | _, _, .nil => .nil
  | _, _, .cons r t => .cons (Enc.to r) (dpall_of t)
instance : Enc Int := ⟨PyData.int, fun h => by cases h; exact .int _⟩
instance : Enc Bool := ⟨PyData.bool, fun h => by cases h; exact .bl _⟩
instance : Enc Str := ⟨PyData.str, fun h => by cases h; exact .str _⟩
instance : Enc Unit := ⟨fun _ => PyData.none, fun h => by cases h; exact .non⟩
def encO {α : Type} [Enc α] : Option α → PyData
  | none => PyData.none
  | some y => enc y
instance {α : Type} [Enc α] : Enc (Option α) := ⟨encO, fun {K B v x} h => by
  cases x with
  | none => cases (show v = .non from h); exact .non
  | some y => exact Enc.to (α := α) h⟩
instance {α : Type} [Enc α] : Enc (List α) where
  enc := fun xs => PyData.list (xs.map enc)
  to := fun h => by
    obtain ⟨a, vs, rfl, s, p⟩ := h
    exact .lst (.inl (.inl s)) (dpall_of p)
instance {α β : Type} [Enc α] [Enc β] : Enc (α × β) where
  enc := fun x => PyData.tuple [enc x.1, enc x.2]
  to := fun h => by
    obtain ⟨a, u, w, rfl, s, p, q⟩ := h
    exact .tup s (.cons (Enc.to p) (.cons (Enc.to q) .nil))
instance {α β γ : Type} [Enc α] [Enc β] [Enc γ] : Enc (T3 α β γ) where
  enc := fun x => PyData.tuple [enc x.a, enc x.b, enc x.c]
  to := fun h => by
    obtain ⟨a, u1, u2, u3, rfl, s, p1, p2, p3⟩ := h
    exact .tup s (.cons (Enc.to p1) (.cons (Enc.to p2) (.cons (Enc.to p3) .nil)))
instance {α β γ δ : Type} [Enc α] [Enc β] [Enc γ] [Enc δ] : Enc (T4 α β γ δ) where
  enc := fun x => PyData.tuple [enc x.a, enc x.b, enc x.c, enc x.d]
  to := fun h => by
    obtain ⟨a, u1, u2, u3, u4, rfl, s, p1, p2, p3, p4⟩ := h
    exact .tup s (.cons (Enc.to p1) (.cons (Enc.to p2) (.cons (Enc.to p3) (.cons (Enc.to p4) .nil))))
instance {α β γ δ ε : Type} [Enc α] [Enc β] [Enc γ] [Enc δ] [Enc ε] : Enc (T5 α β γ δ ε) where
  enc := fun x => PyData.tuple [enc x.a, enc x.b, enc x.c, enc x.d, enc x.e]
  to := fun h => by
    obtain ⟨a, u1, u2, u3, u4, u5, rfl, s, p1, p2, p3, p4, p5⟩ := h
    exact .tup s (.cons (Enc.to p1) (.cons (Enc.to p2) (.cons (Enc.to p3) (.cons (Enc.to p4) (.cons (Enc.to p5) .nil)))))
end Cf

set_option Elab.async false
set_option linter.all false
set_option maxRecDepth 100000
set_option maxHeartbeats 4000000
namespace Cf
open PySem L2
open Rp (rp)
open RpL (rpl)
open Enc (enc)

/-! ### what an expression, a test, arguments reckon -/
abbrev o2 {α β γ : Type} (m1 : Option α) (m2 : Option β) (f : α → β → Option γ) : Option γ := m1.bind fun x => m2.bind fun y => f x y
def Cp {α : Type} [Rp α] (K : Fg) (te : TE) (σ : L2.St) (B : Hp) (m : Option α) : Prop :=
  ∀ B1 H1, Ex B B1 → Ex B1 H1 → ∀ x, m = some x → ∀ Q : VK, (∀ v B2 H2, Gr noM B1 H1 B2 H2 → rp K B2 v x → Q v H2) → te σ H1 Q
def Ct (tt : TT) (σ : L2.St) (B : Hp) (m : Option Bool) : Prop :=
  ∀ B1 H1, Ex B B1 → Ex B1 H1 → ∀ x, m = some x → ∀ Q : Bool → Hp → Prop, (∀ B2 H2, Gr noM B1 H1 B2 H2 → Q x H2) → tt σ H1 Q
def Ca {τ : Type} [RpL τ] (K : Fg) (ta : TA) (σ : L2.St) (B : Hp) (m : Option τ) : Prop :=
  ∀ B1 H1, Ex B B1 → Ex B1 H1 → ∀ x, m = some x → ∀ Q : List V → Hp → Prop, (∀ vs B2 H2, Gr noM B1 H1 B2 H2 → rpl K B2 vs x → Q vs H2) → ta σ H1 Q
/-- a new list, nobody else's yet -/
def Co {α : Type} [Rp α] (K : Fg) (te : TE) (σ : L2.St) (B : Hp) (m : Option (List α)) : Prop :=
  ∀ B1 H1, Ex B B1 → Ex B1 H1 → ∀ xs, m = some xs → ∀ Q : VK, (∀ p vs B2 H2, Gr noM B1 H1 B2 H2 → H1 p = none → B2 p = none → H2 p = some (.lst vs) → Paired (rp K B2) vs xs → Q (.ref p) H2) → te σ H1 Q
/-- operators on values -/
def R2p {α β γ : Type} [Rp α] [Rp β] [Rp γ] (K : Fg) (r : R2) (f : α → β → Option γ) : Prop :=
  ∀ B H x y z vx vy, Ex B H → rp K B vx x → rp K B vy y → f x y = some z → ∀ Q : VK, (∀ v B2 H2, Gr noM B H B2 H2 → rp K B2 v z → Q v H2) → r vx vy H Q
def R1p {α γ : Type} [Rp α] [Rp γ] (K : Fg) (r : V → Hp → VK → Prop) (f : α → Option γ) : Prop :=
  ∀ B H x z vx, Ex B H → rp K B vx x → f x = some z → ∀ Q : VK, (∀ v B2 H2, Gr noM B H B2 H2 → rp K B2 v z → Q v H2) → r vx H Q
def Rcp {τ γ : Type} [RpL τ] [Rp γ] (K : Fg) (r : List V → Hp → VK → Prop) (f : τ → Option γ) : Prop :=
  ∀ B H t z vs, Ex B H → rpl K B vs t → f t = some z → ∀ Q : VK, (∀ v B2 H2, Gr noM B H B2 H2 → rp K B2 v z → Q v H2) → r vs H Q
section
variable {K : Fg} {σ : L2.St} {B H B' H' : Hp} {te ta tb tc : TE} {tt tu : TT} {tas : TA} {α β γ τ ρ : Type}
theorem o2_some {m1 : Option α} {m2 : Option β} {f : α → β → Option γ} {z : γ} (h : o2 m1 m2 f = some z) : ∃ x y, m1 = some x ∧ m2 = some y ∧ f x y = some z := by
  cases m1 with
  | none => cases h
  | some x => cases m2 with
    | none => cases h
    | some y => exact ⟨x, y, rfl, rfl, h⟩
theorem bd_some {m : Option α} {f : α → Option γ} {z : γ} (h : m.bind f = some z) : ∃ x, m = some x ∧ f x = some z := by
  cases m with
  | none => cases h
  | some x => exact ⟨x, rfl, h⟩
theorem Cp.mono [Rp α] {m : Option α} (h : Cp K te σ B m) (g : Ex B B') : Cp K te σ B' m := fun B1 H1 g1 => h B1 H1 (g.trans g1)
theorem Ct.mono {m : Option Bool} (h : Ct tt σ B m) (g : Ex B B') : Ct tt σ B' m := fun B1 H1 g1 => h B1 H1 (g.trans g1)
theorem Ca.mono [RpL τ] {m : Option τ} (h : Ca K tas σ B m) (g : Ex B B') : Ca K tas σ B' m := fun B1 H1 g1 => h B1 H1 (g.trans g1)
theorem Cp.to [Rp α] {m m' : Option α} (h : Cp K te σ B m) (e : m = m') : Cp K te σ B m' := e ▸ h
theorem Ct.to {m m' : Option Bool} (h : Ct tt σ B m) (e : m = m') : Ct tt σ B m' := e ▸ h
theorem Co.cp [Rp α] {m : Option (List α)} (h : Co K te σ B m) : Cp K te σ B m := fun B1 H1 b eh xs e Q q => h B1 H1 b eh xs e Q fun p vs B2 H2 g2 f n hp pr =>
  q (.ref p) (upd B2 p (.lst vs)) H2 (g2.freeze hp f n) ⟨p, vs, rfl, upd_same, pr_mono (Ex.new n) pr⟩
theorem cp_var [Rp α] {i : Nat} {v : V} {x : α} (hs : σ[i]? = some (some v)) (h : rp K B v x) : Cp K (tVar i) σ B (some x) := fun B1 H1 b eh y e Q q => by
  cases e
  exact ⟨v, hs, q v B1 H1 (Gr.refl eh) (Rp.mono b h)⟩
theorem cp_c [Rp α] {v : V} {x : α} (h : rp K B v x) : Cp K (tC v) σ B (some x) := fun B1 H1 b eh y e Q q => by
  cases e
  exact q v B1 H1 (Gr.refl eh) (Rp.mono b h)
theorem cp_int {i : Int} : Cp K (tC (.int i)) σ B (some i) := cp_c rfl
theorem cp_bl {i : Bool} : Cp K (tC (.bl i)) σ B (some i) := cp_c rfl
theorem cp_str {i : Str} : Cp K (tC (.str i)) σ B (some i) := cp_c rfl
theorem cp_non : Cp K (tC .non) σ B (some ()) := cp_c rfl
/-- None where something may be -/
theorem cp_nonO [Rp α] : Cp K (tC .non) σ B (some (none : Option α)) := cp_c rfl
theorem Cp.opt [Rp α] {m : Option α} (h : Cp K te σ B m) : Cp K te σ B (m.bind fun x => some (some x)) := fun B1 H1 b eh y e Q q => by
  obtain ⟨x, e1, e2⟩ := bd_some e
  cases e2
  exact h B1 H1 b eh x e1 Q q
/-- what is not None -/
theorem Cp.got [Rp α] {m : Option (Option α)} (h : Cp K te σ B m) : Cp K te σ B (m.bind fun x => x) := fun B1 H1 b eh y e Q q => by
  obtain ⟨x, e1, e2⟩ := bd_some e
  subst e2
  exact h B1 H1 b eh _ e1 Q q
theorem cp_op [Rp α] [Rp β] [Rp γ] {r : R2} {f : α → β → Option γ} {m1 : Option α} {m2 : Option β} (hr : R2p K r f) (ha : Cp K ta σ B m1) (hb : Cp K tb σ B m2) : Cp K (tOp r ta tb) σ B (o2 m1 m2 f) := fun B1 H1 b eh z e Q q => by
  obtain ⟨x, y, e1, e2, e3⟩ := o2_some e
  refine ha B1 H1 b eh x e1 _ fun v B2 H2 g2 hv => ?_
  refine hb B2 H2 (b.trans g2.b) g2.e y e2 _ fun u B3 H3 g3 hu => ?_
  exact hr B3 H3 x y z v u g3.e (Rp.mono g3.b hv) hu e3 Q fun w B4 H4 g4 hw => q w B4 H4 ((g2.trans g3).trans g4) hw
theorem cp_un [Rp α] [Rp γ] {r : V → Hp → VK → Prop} {f : α → Option γ} {m : Option α} (hr : R1p K r f) (ha : Cp K ta σ B m) : Cp K (tUn r ta) σ B (m.bind f) := fun B1 H1 b eh z e Q q => by
  obtain ⟨x, e1, e2⟩ := bd_some e
  refine ha B1 H1 b eh x e1 _ fun v B2 H2 g2 hv => ?_
  exact hr B2 H2 x z v g2.e hv e2 Q fun w B3 H3 g3 hw => q w B3 H3 (g2.trans g3) hw
theorem cp_cb [RpL τ] [Rp γ] {r : List V → Hp → VK → Prop} {f : τ → Option γ} {m : Option τ} (hr : Rcp K r f) (ha : Ca K tas σ B m) : Cp K (tCB r tas) σ B (m.bind f) := fun B1 H1 b eh z e Q q => by
  obtain ⟨x, e1, e2⟩ := bd_some e
  refine ha B1 H1 b eh x e1 _ fun vs B2 H2 g2 hv => ?_
  exact hr B2 H2 x z vs g2.e hv e2 Q fun w B3 H3 g3 hw => q w B3 H3 (g2.trans g3) hw
theorem ca_nil : Ca K tNil σ B (some ()) := fun B1 H1 b eh x e Q q => q [] B1 H1 (Gr.refl eh) rfl
theorem ca_cons [Rp α] [RpL τ] {m1 : Option α} {m2 : Option τ} (ha : Cp K ta σ B m1) (hb : Ca K tas σ B m2) : Ca K (tCons ta tas) σ B (o2 m1 m2 fun x y => some (x, y)) := fun B1 H1 b eh z e Q q => by
  obtain ⟨x, y, e1, e2, e3⟩ := o2_some e
  cases e3
  refine ha B1 H1 b eh x e1 _ fun v B2 H2 g2 hv => ?_
  refine hb B2 H2 (b.trans g2.b) g2.e y e2 _ fun vs B3 H3 g3 hu => ?_
  exact q (v :: vs) B3 H3 (g2.trans g3) ⟨v, vs, rfl, Rp.mono g3.b hv, hu⟩
/-- the promise of a def that changes nothing: f of its arguments -/
def spP {τ γ : Type} [RpL τ] [Rp γ] (K : Fg) (f : τ → Option γ) : Sp := fun vs H Q _ => ∃ B t r, Ex B H ∧ rpl K B vs t ∧ f t = some r ∧ ∀ v B' H', Gr noM B H B' H' → rp K B' v r → Q v H'
/-- .. that hands back a new list -/
def spO {τ γ : Type} [RpL τ] [Rp γ] (K : Fg) (f : τ → Option (List γ)) : Sp := fun vs H Q _ => ∃ B t r, Ex B H ∧ rpl K B vs t ∧ f t = some r ∧ ∀ p us B' H', Gr noM B H B' H' → H p = none → B' p = none → H' p = some (.lst us) → Paired (rp K B') us r → Q (.ref p) H'
theorem cp_call [RpL τ] [Rp γ] {f : τ → Option γ} {m : Option τ} {E : XK} (ha : Ca K tas σ B m) : Cp K (tCall (spP K f) [] E tas) σ B (m.bind f) := fun B1 H1 b eh z e Q q => by
  obtain ⟨x, e1, e2⟩ := bd_some e
  refine ha B1 H1 b eh x e1 _ fun vs B2 H2 g2 hv => ?_
  rw [List.append_nil]
  exact ⟨B2, x, z, g2.e, hv, e2, fun v B3 H3 g3 h3 => q v B3 H3 (g2.trans g3) h3⟩
theorem co_call [RpL τ] [Rp γ] {f : τ → Option (List γ)} {m : Option τ} {E : XK} (ha : Ca K tas σ B m) : Co K (tCall (spO K f) [] E tas) σ B (m.bind f) := fun B1 H1 b eh z e Q q => by
  obtain ⟨x, e1, e2⟩ := bd_some e
  refine ha B1 H1 b eh x e1 _ fun vs B2 H2 g2 hv => ?_
  rw [List.append_nil]
  exact ⟨B2, x, z, g2.e, hv, e2, fun p us B3 H3 g3 f n hp pr => q p us B3 H3 (g2.trans g3) (g2.fresh f) n hp pr⟩
/-! ### tests -/
theorem ct_test {m : Option Bool} (h : Cp K te σ B m) : Ct (tTest te) σ B m := fun B1 H1 b eh x e Q q => h B1 H1 b eh x e _ fun v B2 H2 g2 hv => ⟨x, hv, q B2 H2 g2⟩
theorem ct_B {m : Option Bool} (h : Cp K te σ B m) : Ct (tB te) σ B m := fun B1 H1 b eh x e Q q => h B1 H1 b eh x e _ fun v B2 H2 g2 hv => ⟨x, hv, q B2 H2 g2⟩
theorem ct_and {m1 m2 : Option Bool} (h1 : Ct tt σ B m1) (h2 : Ct tu σ B m2) : Ct (tAnd tt tu) σ B (m1.bind fun a => if a = true then m2 else some false) := fun B1 H1 b eh z e Q q => by
  obtain ⟨a, e1, e2⟩ := bd_some e
  refine h1 B1 H1 b eh a e1 _ fun B2 H2 g2 => ?_
  cases a with
  | true => exact h2 B2 H2 (b.trans g2.b) g2.e z e2 Q fun B3 H3 g3 => q B3 H3 (g2.trans g3)
  | false =>
    cases e2
    exact q B2 H2 g2
theorem ct_or {m1 m2 : Option Bool} (h1 : Ct tt σ B m1) (h2 : Ct tu σ B m2) : Ct (tOr tt tu) σ B (m1.bind fun a => if a = true then some true else m2) := fun B1 H1 b eh z e Q q => by
  obtain ⟨a, e1, e2⟩ := bd_some e
  refine h1 B1 H1 b eh a e1 _ fun B2 H2 g2 => ?_
  cases a with
  | false => exact h2 B2 H2 (b.trans g2.b) g2.e z e2 Q fun B3 H3 g3 => q B3 H3 (g2.trans g3)
  | true =>
    cases e2
    exact q B2 H2 g2
theorem ct_not {m : Option Bool} (h : Ct tt σ B m) : Ct (tNot tt) σ B (m.bind fun a => some (!a)) := fun B1 H1 b eh z e Q q => by
  obtain ⟨a, e1, e2⟩ := bd_some e
  cases e2
  exact h B1 H1 b eh a e1 _ fun B2 H2 g2 => q B2 H2 g2
theorem cp_andV {m1 m2 : Option Bool} (h1 : Cp K ta σ B m1) (h2 : Cp K tb σ B m2) : Cp K (tAndV ta tb) σ B (m1.bind fun a => if a = true then m2 else some false) := fun B1 H1 b eh z e Q q => by
  obtain ⟨a, e1, e2⟩ := bd_some e
  refine h1 B1 H1 b eh a e1 _ fun v B2 H2 g2 hv => ⟨a, hv, ?_⟩
  cases a with
  | true => exact h2 B2 H2 (b.trans g2.b) g2.e z e2 Q fun v B3 H3 g3 h3 => q v B3 H3 (g2.trans g3) h3
  | false =>
    cases e2
    exact q _ B2 H2 g2 rfl
theorem cp_orV {m1 m2 : Option Bool} (h1 : Cp K ta σ B m1) (h2 : Cp K tb σ B m2) : Cp K (tOrV ta tb) σ B (m1.bind fun a => if a = true then some true else m2) := fun B1 H1 b eh z e Q q => by
  obtain ⟨a, e1, e2⟩ := bd_some e
  refine h1 B1 H1 b eh a e1 _ fun v B2 H2 g2 hv => ⟨a, hv, ?_⟩
  cases a with
  | false => exact h2 B2 H2 (b.trans g2.b) g2.e z e2 Q fun v B3 H3 g3 h3 => q v B3 H3 (g2.trans g3) h3
  | true =>
    cases e2
    exact q _ B2 H2 g2 rfl
theorem cp_notV {m : Option Bool} (h : Cp K ta σ B m) : Cp K (tNotV ta) σ B (m.bind fun a => some (!a)) := fun B1 H1 b eh z e Q q => by
  obtain ⟨a, e1, e2⟩ := bd_some e
  cases e2
  exact h B1 H1 b eh a e1 _ fun v B2 H2 g2 hv => ⟨a, hv, q _ B2 H2 g2 rfl⟩
theorem cp_chain [Rp α] [Rp β] [Rp γ] {r r' : R2} {f : α → β → Option Bool} {f' : β → γ → Option Bool} {m1 : Option α} {m2 : Option β} {m3 : Option γ} (hr : R2p K r f) (hr' : R2p K r' f')
    (ha : Cp K ta σ B m1) (hb : Cp K tb σ B m2) (hc : Cp K tc σ B m3) : Cp K (tChain r r' ta tb tc) σ B (o2 m1 m2 fun x y => (f x y).bind fun k => if k = true then m3.bind fun z => f' y z else some false) := fun B1 H1 b eh z e Q q => by
  obtain ⟨x, y, e1, e2, e3⟩ := o2_some e
  obtain ⟨k, e4, e5⟩ := bd_some e3
  refine ha B1 H1 b eh x e1 _ fun v B2 H2 g2 hv => ?_
  refine hb B2 H2 (b.trans g2.b) g2.e y e2 _ fun u B3 H3 g3 hu => ?_
  refine hr B3 H3 x y k v u g3.e (Rp.mono g3.b hv) hu e4 _ fun w B4 H4 g4 hw => ⟨k, hw, ?_⟩
  cases k with
  | true =>
    obtain ⟨c, e6, e7⟩ := bd_some e5
    refine hc B4 H4 (b.trans ((g2.trans g3).trans g4).b) g4.e c e6 _ fun t B5 H5 g5 ht => ?_
    exact hr' B5 H5 y c z u t g5.e (Rp.mono (g4.trans g5).b hu) ht e7 Q fun t2 B6 H6 g6 h6 => q t2 B6 H6 ((((g2.trans g3).trans g4).trans g5).trans g6) h6
  | false =>
    cases e5
    exact q _ B4 H4 ((g2.trans g3).trans g4) rfl
end

/-! ### operators -/
def pdiv (i j : Int) : Option Int := if 0 < j ∧ j < 1073741824 then some (i / j) else none
def pmod (i j : Int) : Option Int := if 0 < j then some (i % j) else none
def pmul (i j : Int) : Option Int := if (-(2 ^ 64) < i ∧ i < 2 ^ 64) ∨ (-(2 ^ 64) < j ∧ j < 2 ^ 64) then some (i * j) else none
def ppow (i j : Int) : Option Int := if 0 ≤ j ∧ j ≤ 1000000 ∧ i.natAbs < 2 ^ 64 then some (i ^ j.toNat) else none
def pshr (i j : Int) : Option Int := if 0 ≤ j then some (i / 2 ^ j.toNat) else none
section
variable {K : Fg}
theorem r2_I0 {γ : Type} [Rp γ] {g : Int → Int → V} {f : Int → Int → γ} (h : ∀ i j K B, rp K B (g i j) (f i j)) : R2p K (rI0 g) (fun i j => some (f i j)) := fun B H x y z vx vy e hx hy ez Q q => by
  cases ez
  exact ⟨x, y, hx, hy, q _ B H (Gr.refl e) (h x y K B)⟩
theorem r2_I {C : Int → Int → Prop} {g : Int → Int → V} {f : Int → Int → Option Int} (h : ∀ i j z, f i j = some z → C i j ∧ g i j = .int z) : R2p K (rI C g) f := fun B H x y z vx vy e hx hy ez Q q => by
  obtain ⟨c, ge⟩ := h x y z ez
  exact ⟨x, y, hx, hy, c, q _ B H (Gr.refl e) ge⟩
theorem if_some {α : Type} {c : Prop} [Decidable c] {x z : α} (h : (if c then some x else none) = some z) : c ∧ x = z := by
  by_cases hc : c
  · rw [if_pos hc] at h
    exact ⟨hc, Option.some.inj h⟩
  · rw [if_neg hc] at h
    cases h
theorem r2_add : R2p K (rI0 fun i j => .int (i + j)) (fun i j : Int => some (i + j)) := r2_I0 fun _ _ _ _ => rfl
theorem r2_sub : R2p K (rI0 fun i j => .int (i - j)) (fun i j : Int => some (i - j)) := r2_I0 fun _ _ _ _ => rfl
theorem r2_mul : R2p K (rI CMul fun i j => .int (i * j)) pmul := r2_I fun i j z h => by
  obtain ⟨c, e⟩ := if_some h
  exact ⟨c, by rw [e]⟩
theorem r2_div : R2p K (rI CDiv fun i j => .int (i / j)) pdiv := r2_I fun i j z h => by
  obtain ⟨c, e⟩ := if_some h
  exact ⟨c, by rw [e]⟩
theorem r2_mod : R2p K (rI (fun _ j => 0 < j) fun i j => .int (i % j)) pmod := r2_I fun i j z h => by
  obtain ⟨c, e⟩ := if_some h
  exact ⟨c, by rw [e]⟩
theorem r2_pow : R2p K (rI CPow fun i j => .int (i ^ j.toNat)) ppow := r2_I fun i j z h => by
  obtain ⟨c, e⟩ := if_some h
  exact ⟨c, by rw [e]⟩
theorem r2_shr : R2p K (rI (fun _ j => 0 ≤ j) fun i j => .int (i / 2 ^ j.toNat)) pshr := r2_I fun i j z h => by
  obtain ⟨c, e⟩ := if_some h
  exact ⟨c, by rw [e]⟩
theorem r2_xor : R2p K (rI0 fun i j => .int (Builtin.bitXor i j)) (fun i j : Int => some (Builtin.bitXor i j)) := r2_I0 fun _ _ _ _ => rfl
theorem r2_lt : R2p K (rI0 fun i j => .bl (decide (i < j))) (fun i j : Int => some (decide (i < j))) := r2_I0 fun _ _ _ _ => rfl
theorem r2_le : R2p K (rI0 fun i j => .bl (decide (i ≤ j))) (fun i j : Int => some (decide (i ≤ j))) := r2_I0 fun _ _ _ _ => rfl
theorem r2_gt : R2p K (rI0 fun i j => .bl (decide (j < i))) (fun i j : Int => some (decide (j < i))) := r2_I0 fun _ _ _ _ => rfl
theorem r2_ge : R2p K (rI0 fun i j => .bl (decide (j ≤ i))) (fun i j : Int => some (decide (j ≤ i))) := r2_I0 fun _ _ _ _ => rfl
theorem r1_neg : R1p K (rU fun i => .int (-i)) (fun i : Int => some (-i)) := fun B H x z vx e hx ez Q q => by
  cases ez
  exact ⟨x, hx, q _ B H (Gr.refl e) rfl⟩
/-- == of scalars of one kind -/
class Sc (α : Type) extends Rp α where
  dec : DecidableEq α
  ok : ∀ {K : Fg} {B : Hp} {u v : V} {x y : α}, rp K B u x → rp K B v y → scal u v = true ∧ (u = v ↔ x = y)
instance : Sc Int := { dec := inferInstance, ok := fun h1 h2 => by cases h1; cases h2; exact ⟨rfl, by simp⟩ }
instance : Sc Bool := { dec := inferInstance, ok := fun h1 h2 => by cases h1; cases h2; exact ⟨rfl, by simp⟩ }
instance : Sc Str := { dec := inferInstance, ok := fun h1 h2 => by cases h1; cases h2; exact ⟨rfl, by simp⟩ }
/-- a scalar that is not None -/
class Sn (α : Type) extends Sc α where
  nn : ∀ {K : Fg} {B : Hp} {u : V} {x : α}, rp K B u x → u ≠ .non ∧ scal u .non = true ∧ scal .non u = true
instance : Sn Int where
  nn := fun h => by cases h; exact ⟨(fun e => nomatch e), rfl, rfl⟩
instance : Sn Bool where
  nn := fun h => by cases h; exact ⟨(fun e => nomatch e), rfl, rfl⟩
instance : Sn Str where
  nn := fun h => by cases h; exact ⟨(fun e => nomatch e), rfl, rfl⟩
instance {α : Type} [Sn α] : Sc (Option α) where
  dec := by
    have : DecidableEq α := Sc.dec
    infer_instance
  ok := fun {K B u v x y} h1 h2 => by
    cases x with
    | none =>
      cases (show u = .non from h1)
      cases y with
      | none => cases (show v = .non from h2); exact ⟨rfl, by simp⟩
      | some j =>
        obtain ⟨n1, n2, n3⟩ := Sn.nn (α := α) (show rp K B v j from h2)
        exact ⟨n3, ⟨fun e => absurd e.symm n1, fun e => nomatch e⟩⟩
    | some i =>
      cases y with
      | none =>
        cases (show v = .non from h2)
        obtain ⟨n1, n2, n3⟩ := Sn.nn (α := α) (show rp K B u i from h1)
        exact ⟨n2, ⟨fun e => absurd e n1, fun e => nomatch e⟩⟩
      | some j =>
        obtain ⟨s, e⟩ := Sc.ok (α := α) (show rp K B u i from h1) (show rp K B v j from h2)
        exact ⟨s, e.trans ⟨fun z => congrArg some z, fun z => Option.some.inj z⟩⟩
instance (priority := low) {α : Type} [Sc α] : DecidableEq α := Sc.dec
theorem r2_eq {α : Type} [i : Sc α] [d : DecidableEq α] : R2p K rEq (fun x y : α => some (decide (x = y))) := fun B H x y z vx vy e hx hy ez Q q => by
  cases ez
  obtain ⟨s, h⟩ := i.ok hx hy
  refine ⟨s, q _ B H (Gr.refl e) ?_⟩
  show V.bl _ = V.bl _
  rw [decide_eq_decide.mpr h]
theorem r2_ne {α : Type} [i : Sc α] [d : DecidableEq α] : R2p K rNe (fun x y : α => some (!decide (x = y))) := fun B H x y z vx vy e hx hy ez Q q => by
  cases ez
  obtain ⟨s, h⟩ := i.ok hx hy
  refine ⟨s, q _ B H (Gr.refl e) ?_⟩
  show V.bl _ = V.bl _
  rw [decide_eq_decide.mpr h]
/-! ### built-in calls -/
def RInt : List V → Hp → VK → Prop := fun xs H Q => (∃ i, xs = [.int i] ∧ Q (.int i) H) ∨ ∃ k, xs = [.bl k] ∧ Q (.int (if k then 1 else 0)) H
theorem call_int_ {X : Cx} : CallR X (.type "int") RInt := call_int1
theorem rc_int : Rcp K RInt (fun t : Int × Unit => some t.1) := fun B H t z vs e h ez Q q => by
  cases ez
  obtain ⟨v, us, rfl, h1, h2⟩ := h
  cases (show us = [] from h2)
  cases (show v = .int _ from h1)
  exact .inl ⟨_, rfl, q _ B H (Gr.refl e) rfl⟩
/-! ### indexes -/
/-- the item at a place counted from either end -/
def at? {α : Type} (xs : List α) (i : Int) : Option α := if 0 ≤ i then xs[i.toNat]? else if 0 ≤ i + (xs.length : Int) then xs[(i + (xs.length : Int)).toNat]? else none
theorem atI_of {α : Type} {R : V → α → Prop} {vs : List V} {xs : List α} {i : Int} {x : α} (p : Paired R vs xs) (h : at? xs i = some x) : ∃ v, atI vs i = some v ∧ R v x := by
  have hl := pr_len p
  unfold at? at h
  unfold atI ixN
  by_cases h0 : 0 ≤ i
  · rw [if_pos h0] at h
    obtain ⟨v, hv, r⟩ := pr_get p h
    have hb : i.toNat < vs.length := (List.getElem?_eq_some_iff.mp hv).1
    refine ⟨v, ?_, r⟩
    rw [if_pos h0, if_pos (by omega)]
    exact hv
  · rw [if_neg h0] at h
    by_cases h1 : 0 ≤ i + (xs.length : Int)
    · rw [if_pos h1] at h
      obtain ⟨v, hv, r⟩ := pr_get p h
      refine ⟨v, ?_, r⟩
      rw [if_neg h0, if_pos (by omega), hl]
      exact hv
    · rw [if_neg h1] at h
      cases h
theorem r2_ixL {α : Type} [Rp α] : R2p K (rIxL K) (fun (xs : List α) (i : Int) => at? xs i) := fun B H xs i z vx vy e hx hy ez Q q => by
  obtain ⟨a, vs, rfl, hs, hp⟩ := hx
  cases (show vy = .int i from hy)
  obtain ⟨v, hv, hr⟩ := atI_of hp ez
  exact ⟨a, vs, i, v, rfl, rfl, sq_lst (e _ _ hs), hv, q v B H (Gr.refl e) hr⟩
theorem ints_pr {B : Hp} : ∀ ns : List Int, Paired (rp K B) (ns.map V.int) ns
  | [] => .nil
  | _ :: ns => .cons rfl (ints_pr ns)
theorem r2_ixScr : R2p K (rIxL K) (fun (x : Scr) (i : Int) => at? x.l i) := fun B H x i z vx vy e hx hy ez Q q => by
  obtain ⟨a, rfl, hs⟩ := hx
  cases (show vy = .int i from hy)
  obtain ⟨v, hv, hr⟩ := atI_of (R := rp K B) (ints_pr x.l) ez
  exact ⟨a, _, i, v, rfl, rfl, sql_mono e hs, hv, q v B H (Gr.refl e) hr⟩
end
end Cf

set_option Elab.async false
set_option linter.all false
set_option maxRecDepth 100000
set_option maxHeartbeats 4000000
namespace Cf
open PySem L2
open Rp (rp)
open RpL (rpl)
open Enc (enc)
/-! ### loops in the mirror -/
inductive Fl (S R : Type) where
  | nx (s : S)
  | bk (s : S)
  | rt (r : R)
def forF {α S R : Type} (b : α → S → Option (Fl S R)) : List α → S → Option (Fl S R)
  | [], s => some (.nx s)
  | x :: xs, s => (b x s).bind fun c => match c with
    | .nx s' => forF b xs s'
    | .bk s' => some (.nx s')
    | .rt r => some (.rt r)
def forN {α S : Type} (b : α → S → Option S) : List α → S → Option S
  | [], s => some s
  | x :: xs, s => (b x s).bind fun s' => forN b xs s'
def whF {S R : Type} (c : S → Option Bool) (b : S → Option (Fl S R)) : Nat → S → Option (Fl S R)
  | 0, _ => none
  | n + 1, s => (c s).bind fun t => if t = true then (b s).bind fun c' => match c' with
      | .nx s' => whF c b n s'
      | .bk s' => some (.nx s')
      | .rt r => some (.rt r)
    else some (.nx s)
def whN {S : Type} (c : S → Option Bool) (b : S → Option S) : Nat → S → Option S
  | 0, _ => none
  | n + 1, s => (c s).bind fun t => if t = true then (b s).bind fun s' => whN c b n s' else some s
def rangeL (lo hi : Int) : List Int := (List.range (hi - lo).toNat).map fun (i : Nat) => lo + (i : Int)
section
variable {K : Fg} {σ : L2.St} {B H B' H' : Hp} {te ta tb tc : TE} {tt tu : TT} {tas : TA} {α β γ τ ρ S R : Type} {D : Ends} {t u ts : TS} {g : TG}
/-! ### statements -/
theorem st_asg [Rp α] {m m' : Option α} {k : α → Option ρ} {r : ρ} {i : Nat} (hm : m'.bind k = some r) (e : Ex B H) (hc : Cp K te σ B m) (he : m = m')
    (q : ∀ x v B1 H1, m' = some x → k x = some r → Gr noM B H B1 H1 → rp K B1 v x → D.nx (σ.set i (some v)) H1) : tAsg te (gName i) D σ H := by
  subst he
  obtain ⟨x, e1, e2⟩ := bd_some hm
  exact hc B H (Ex.refl B) e x e1 _ fun v B1 H1 g hv => q x v B1 H1 e1 e2 g hv
theorem st_asgO [Rp α] {m m' : Option (List α)} {k : List α → Option ρ} {r : ρ} {i : Nat} (hm : m'.bind k = some r) (e : Ex B H) (hc : Co K te σ B m) (he : m = m')
    (q : ∀ xs p vs B1 H1, m' = some xs → k xs = some r → Gr noM B H B1 H1 → H p = none → B1 p = none → H1 p = some (.lst vs) → Paired (rp K B1) vs xs → D.nx (σ.set i (some (.ref p))) H1) : tAsg te (gName i) D σ H := by
  subst he
  obtain ⟨x, e1, e2⟩ := bd_some hm
  exact hc B H (Ex.refl B) e x e1 _ fun p vs B1 H1 g f n hp pr => q x p vs B1 H1 e1 e2 g f n hp pr
theorem st_drop [Rp α] {m m' : Option α} {k : α → Option ρ} {r : ρ} (hm : m'.bind k = some r) (e : Ex B H) (hc : Cp K te σ B m) (he : m = m')
    (q : ∀ x B1 H1, m' = some x → k x = some r → Gr noM B H B1 H1 → D.nx σ H1) : tDrop te D σ H := by
  subst he
  obtain ⟨x, e1, e2⟩ := bd_some hm
  exact hc B H (Ex.refl B) e x e1 _ fun v B1 H1 g hv => q x B1 H1 e1 e2 g
theorem st_ret [Rp α] {m m' : Option α} {r : α} (hm : m' = some r) (e : Ex B H) (hc : Cp K te σ B m) (he : m = m') (q : ∀ v B1 H1, Gr noM B H B1 H1 → rp K B1 v r → D.rt v H1) : tRet te D σ H := by
  subst he
  exact hc B H (Ex.refl B) e r hm _ fun v B1 H1 g hv => q v B1 H1 g hv
theorem st_retF [Rp α] {m m' : Option α} {k : α → Option ρ} {c : ρ} (hm : m'.bind k = some c) (e : Ex B H) (hc : Cp K te σ B m) (he : m = m') (q : ∀ x v B1 H1, k x = some c → Gr noM B H B1 H1 → rp K B1 v x → D.rt v H1) : tRet te D σ H := by
  subst he
  obtain ⟨x, e1, e2⟩ := bd_some hm
  exact hc B H (Ex.refl B) e x e1 _ fun v B1 H1 g hv => q x v B1 H1 e2 g hv
theorem st_if {c c' : Option Bool} {A A' : Option ρ} {r : ρ} (hm : (c'.bind fun b => if b = true then A else A') = some r) (e : Ex B H) (hc : Ct tt σ B c) (he : c = c')
    (h1 : ∀ B1 H1, c' = some true → A = some r → Gr noM B H B1 H1 → t D σ H1) (h2 : ∀ B1 H1, c' = some false → A' = some r → Gr noM B H B1 H1 → u D σ H1) : tIfS tt t u D σ H := by
  subst he
  obtain ⟨b, e1, e2⟩ := bd_some hm
  refine hc B H (Ex.refl B) e b e1 _ fun B1 H1 g => ?_
  cases b with
  | true => exact h1 B1 H1 e1 e2 g
  | false => exact h2 B1 H1 e1 e2 g
/-- an if whose ways meet: J is what holds there -/
theorem st_ifJ {c c' : Option Bool} {A A' : Option S} {k : S → Option ρ} {r : ρ} (hm : ((c'.bind fun b => if b = true then A else A').bind k) = some r) (J : S → L2.St → Hp → Prop) (e : Ex B H) (hc : Ct tt σ B c) (he : c = c')
    (h1 : ∀ s B1 H1 (N : L2.St → Hp → Prop), c' = some true → A = some s → Gr noM B H B1 H1 → (∀ σ' H', J s σ' H' → N σ' H') → t { D with nx := N } σ H1)
    (h2 : ∀ s B1 H1 (N : L2.St → Hp → Prop), c' = some false → A' = some s → Gr noM B H B1 H1 → (∀ σ' H', J s σ' H' → N σ' H') → u { D with nx := N } σ H1)
    (q : ∀ s σ' H', k s = some r → J s σ' H' → D.nx σ' H') : tIfS tt t u D σ H := by
  subst he
  obtain ⟨s, e0, e3⟩ := bd_some hm
  obtain ⟨b, e1, e2⟩ := bd_some e0
  refine hc B H (Ex.refl B) e b e1 _ fun B1 H1 g => ?_
  cases b with
  | true => exact h1 s B1 H1 D.nx e1 e2 g fun σ' H' j => q s σ' H' e3 j
  | false => exact h2 s B1 H1 D.nx e1 e2 g fun σ' H' j => q s σ' H' e3 j
/-! ### loops -/
/-- a walk over the items xs: the loop's own iterator J yields their values, in a heap that is I's again -/
theorem forF_run {J : It} {xs : List α} [Rp α] {b : α → S → Option (Fl S R)} {k : Fl S R → Option ρ} {r : ρ} {s0 : S} (I : S → Hp → L2.St → Hp → Prop)
    (hgo : ∀ i s B σ H, I s B σ H → i < xs.length → J.go i H) (hst : ∀ i s B σ H, I s B σ H → xs.length ≤ i → J.stop i H)
    (hy : ∀ i x s B σ H v H', I s B σ H → xs[i]? = some x → J.yld i H v H' → ∃ B', I s B' σ H' ∧ rp K B' v x)
    (hm : (forF b xs s0).bind k = some r) (h0 : I s0 B σ H)
    (hs : ∀ x s B σ H v c (N : L2.St → Hp → Prop), I s B σ H → rp K B v x → b x s = some c → (∀ s2 B2 σ2 H2, c = .nx s2 → I s2 B2 σ2 H2 → N σ2 H2) → (∀ s2 B2 σ2 H2, c = .bk s2 → I s2 B2 σ2 H2 → D.nx σ2 H2) →
      (∀ r', c = .rt r' → k (.rt r') = some r) → g v σ H fun σ2 H2 => ts { D with nx := N, ct := N, bk := D.nx } σ2 H2)
    (hd : ∀ s B σ H, k (.nx s) = some r → I s B σ H → D.nx σ H) :
    ∃ W : Nat → Nat → L2.St → Hp → Prop, (∃ m, W 0 m σ H) ∧ ∀ i m σ H, W i m σ H → (J.stop i H ∧ D.nx σ H) ∨ (J.go i H ∧ ∃ N : L2.St → Hp → Prop, (∀ σ' H', N σ' H' → ∃ m', m' < m ∧ W (i + 1) m' σ' H') ∧
      ∀ x H', J.yld i H x H' → g x σ H' fun σ2 H2 => ts { D with nx := N, ct := N, bk := D.nx } σ2 H2) := by
  refine ⟨fun i m σ H => m = xs.length - i ∧ i ≤ xs.length ∧ ∃ s B, I s B σ H ∧ (forF b (xs.drop i) s).bind k = some r, ⟨_, rfl, Nat.zero_le _, s0, B, h0, hm⟩, ?_⟩
  rintro i m σ H ⟨rfl, hi, s, B, hI, hk⟩
  by_cases hlt : i < xs.length
  · refine .inr ⟨hgo i s B σ H hI hlt, fun σ' H' => i + 1 ≤ xs.length ∧ ∃ s B, I s B σ' H' ∧ (forF b (xs.drop (i + 1)) s).bind k = some r, fun σ' H' h => ⟨xs.length - (i + 1), by omega, rfl, h.1, h.2⟩, fun v H' y => ?_⟩
    have hx : xs[i]? = some xs[i] := List.getElem?_eq_getElem hlt
    obtain ⟨B', hI', hv⟩ := hy i xs[i] s B σ H v H' hI hx y
    have ed : xs.drop i = xs[i] :: xs.drop (i + 1) := List.drop_eq_getElem_cons hlt
    rw [ed] at hk
    obtain ⟨fl, e1, e2⟩ := bd_some hk
    obtain ⟨c, e3, e4⟩ := bd_some (show ((b xs[i] s).bind fun c => match c with | .nx s' => forF b (xs.drop (i + 1)) s' | .bk s' => some (.nx s') | .rt r => some (.rt r)) = some fl from e1)
    refine hs xs[i] s B' σ H' v c _ hI' hv e3 (fun s2 B2 σ2 H2 ec hI2 => ⟨hlt, s2, B2, hI2, ?_⟩) (fun s2 B2 σ2 H2 ec hI2 => ?_) (fun r' ec => ?_)
    · subst ec
      rw [show forF b (xs.drop (i + 1)) s2 = some fl from e4]
      exact e2
    · subst ec
      have : (Fl.nx s2 : Fl S R) = fl := Option.some.inj e4
      subst this
      exact hd s2 B2 σ2 H2 e2 hI2
    · subst ec
      have : (Fl.rt r' : Fl S R) = fl := Option.some.inj e4
      subst this
      exact e2
  · have e : xs.drop i = [] := List.drop_eq_nil_of_le (by omega)
    rw [e] at hk
    exact .inl ⟨hst i s B σ H hI (by omega), hd s B σ H hk hI⟩
theorem forN_F {b : α → S → Option S} : ∀ (xs : List α) (s : S), (forN b xs s).map (Fl.nx (R := R)) = forF (fun x s => (b x s).map Fl.nx) xs s
  | [], s => rfl
  | x :: xs, s => by
    unfold forN forF
    cases h : b x s with
    | none => rfl
    | some s' => exact forN_F xs s'
/-- the same, no way out of the loop but its end -/
theorem forN_run {J : It} {xs : List α} [Rp α] {b : α → S → Option S} {k : S → Option ρ} {r : ρ} {s0 : S} (I : S → Hp → L2.St → Hp → Prop)
    (hgo : ∀ i s B σ H, I s B σ H → i < xs.length → J.go i H) (hst : ∀ i s B σ H, I s B σ H → xs.length ≤ i → J.stop i H)
    (hy : ∀ i x s B σ H v H', I s B σ H → xs[i]? = some x → J.yld i H v H' → ∃ B', I s B' σ H' ∧ rp K B' v x)
    (hm : (forN b xs s0).bind k = some r) (h0 : I s0 B σ H)
    (hs : ∀ x s B σ H v s' (N : L2.St → Hp → Prop), I s B σ H → rp K B v x → b x s = some s' → (∀ B2 σ2 H2, I s' B2 σ2 H2 → N σ2 H2) → g v σ H fun σ2 H2 => ts { D with nx := N, ct := N, bk := D.nx } σ2 H2)
    (hd : ∀ s B σ H, k s = some r → I s B σ H → D.nx σ H) :
    ∃ W : Nat → Nat → L2.St → Hp → Prop, (∃ m, W 0 m σ H) ∧ ∀ i m σ H, W i m σ H → (J.stop i H ∧ D.nx σ H) ∨ (J.go i H ∧ ∃ N : L2.St → Hp → Prop, (∀ σ' H', N σ' H' → ∃ m', m' < m ∧ W (i + 1) m' σ' H') ∧
      ∀ x H', J.yld i H x H' → g x σ H' fun σ2 H2 => ts { D with nx := N, ct := N, bk := D.nx } σ2 H2) := by
  refine forF_run (K := K) (R := Unit) (b := fun x s => (b x s).map Fl.nx) (k := fun f => match f with | .nx s => k s | .bk _ => none | .rt _ => none) (r := r) (s0 := s0) I hgo hst hy ?_ h0 (fun x s B σ H v c N hI hv hb n1 n2 n3 => ?_) (fun s B σ H e hI => hd s B σ H e hI)
  · rw [← forN_F]
    cases h : forN b xs s0 with
    | none =>
      rw [h] at hm
      cases hm
    | some s =>
      rw [h] at hm
      exact hm
  · cases h : b x s with
    | none =>
      rw [h] at hb
      cases hb
    | some s' =>
      rw [h] at hb
      have e : Fl.nx s' = c := Option.some.inj hb
      exact hs x s B σ H v s' N hI hv h fun B2 σ2 H2 hI2 => n1 s' B2 σ2 H2 e.symm hI2
theorem itl_go {K : Fg} {H : Hp} {a : Addr} {vs : List V} {i : Nat} (h : SqL K H a vs) (hi : i < vs.length) : (Itl K a).go i H := ⟨vs, vs[i], h, List.getElem?_eq_getElem hi⟩
theorem itl_stop {K : Fg} {H : Hp} {a : Addr} {vs : List V} {i : Nat} (h : SqL K H a vs) (hi : vs.length ≤ i) : (Itl K a).stop i H := ⟨vs, h, hi⟩
/-- for x in a list that is known -/
theorem st_forF_list [Rp α] {mi mi' : Option (List α)} {b : α → S → Option (Fl S R)} {s0 : S} {k : Fl S R → Option ρ} {r : ρ} (I : Hp → S → Hp → L2.St → Hp → Prop) (hm : (mi'.bind fun xs => (forF b xs s0).bind k) = some r) (e : Ex B H) (hc : Cp K te σ B mi) (he : mi = mi')
    (hx : ∀ Be s B σ H, I Be s B σ H → Ex Be B ∧ Ex B H) (h0 : ∀ Be H1, Gr noM B H Be H1 → I Be s0 Be σ H1)
    (hs : ∀ Be x s B σ H v c (N : L2.St → Hp → Prop), I Be s B σ H → rp K B v x → b x s = some c → (∀ s2 B2 σ2 H2, c = .nx s2 → I Be s2 B2 σ2 H2 → N σ2 H2) → (∀ s2 B2 σ2 H2, c = .bk s2 → I Be s2 B2 σ2 H2 → D.nx σ2 H2) →
      (∀ r', c = .rt r' → k (.rt r') = some r) → g v σ H fun σ2 H2 => ts { D with nx := N, ct := N, bk := D.nx } σ2 H2)
    (hd : ∀ Be s B σ H, k (.nx s) = some r → I Be s B σ H → D.nx σ H) : tFor (iList K te) g ts D σ H := by
  subst he
  obtain ⟨xs, e1, e2⟩ := bd_some hm
  refine hc B H (Ex.refl B) e xs e1 _ fun v Be H1 g1 hv => ?_
  obtain ⟨a, vs, rfl, hS, hp⟩ := hv
  have hl := pr_len hp
  refine ⟨a, rfl, ⟨vs, sq_lst (g1.e _ _ hS)⟩, forF_run (K := K) (xs := xs) (B := Be) (I Be) (fun i s B σ H hI hi => ?_) (fun i s B σ H hI hi => ?_) (fun i x s B σ H v H' hI hxi y => ?_) e2 (h0 Be H1 g1) (fun x s B σ H v c N => hs Be x s B σ H v c N) (fun s B σ H => hd Be s B σ H)⟩
  · obtain ⟨x1, x2⟩ := hx _ _ _ _ _ hI
    exact itl_go (sq_lst ((x1.trans x2) _ _ hS)) (by omega)
  · obtain ⟨x1, x2⟩ := hx _ _ _ _ _ hI
    exact itl_stop (sq_lst ((x1.trans x2) _ _ hS)) (by omega)
  · obtain ⟨x1, x2⟩ := hx _ _ _ _ _ hI
    obtain ⟨eH, y⟩ := y
    subst eH
    obtain ⟨w, hw, hr⟩ := pr_get hp hxi
    have ew := y vs (sq_lst ((x1.trans x2) _ _ hS))
    rw [hw] at ew
    cases ew
    exact ⟨B, hI, Rp.mono x1 hr⟩
theorem st_forN_list [Rp α] {mi mi' : Option (List α)} {b : α → S → Option S} {s0 : S} {k : S → Option ρ} {r : ρ} (I : Hp → S → Hp → L2.St → Hp → Prop) (hm : (mi'.bind fun xs => (forN b xs s0).bind k) = some r) (e : Ex B H) (hc : Cp K te σ B mi) (he : mi = mi')
    (hx : ∀ Be s B σ H, I Be s B σ H → Ex Be B ∧ Ex B H) (h0 : ∀ Be H1, Gr noM B H Be H1 → I Be s0 Be σ H1)
    (hs : ∀ Be x s B σ H v s' (N : L2.St → Hp → Prop), I Be s B σ H → rp K B v x → b x s = some s' → (∀ B2 σ2 H2, I Be s' B2 σ2 H2 → N σ2 H2) → g v σ H fun σ2 H2 => ts { D with nx := N, ct := N, bk := D.nx } σ2 H2)
    (hd : ∀ Be s B σ H, k s = some r → I Be s B σ H → D.nx σ H) : tFor (iList K te) g ts D σ H := by
  subst he
  obtain ⟨xs, e1, e2⟩ := bd_some hm
  refine hc B H (Ex.refl B) e xs e1 _ fun v Be H1 g1 hv => ?_
  obtain ⟨a, vs, rfl, hS, hp⟩ := hv
  have hl := pr_len hp
  refine ⟨a, rfl, ⟨vs, sq_lst (g1.e _ _ hS)⟩, forN_run (K := K) (xs := xs) (B := Be) (I Be) (fun i s B σ H hI hi => ?_) (fun i s B σ H hI hi => ?_) (fun i x s B σ H v H' hI hxi y => ?_) e2 (h0 Be H1 g1) (fun x s B σ H v s' N => hs Be x s B σ H v s' N) (fun s B σ H => hd Be s B σ H)⟩
  · obtain ⟨x1, x2⟩ := hx _ _ _ _ _ hI
    exact itl_go (sq_lst ((x1.trans x2) _ _ hS)) (by omega)
  · obtain ⟨x1, x2⟩ := hx _ _ _ _ _ hI
    exact itl_stop (sq_lst ((x1.trans x2) _ _ hS)) (by omega)
  · obtain ⟨x1, x2⟩ := hx _ _ _ _ _ hI
    obtain ⟨eH, y⟩ := y
    subst eH
    obtain ⟨w, hw, hr⟩ := pr_get hp hxi
    have ew := y vs (sq_lst ((x1.trans x2) _ _ hS))
    rw [hw] at ew
    cases ew
    exact ⟨B, hI, Rp.mono x1 hr⟩
/-- the bounds of a range -/
def prange1 (n : Int) : Option (List Int) := if n.natAbs < 4611686018427387904 then some (rangeL 0 n) else none
def prange2 (lo hi : Int) : Option (List Int) := if lo.natAbs < 4611686018427387904 ∧ hi.natAbs < 4611686018427387904 then some (rangeL lo hi) else none
theorem rangeL_len (lo hi : Int) : (rangeL lo hi).length = (hi - lo).toNat := by
  unfold rangeL
  rw [List.length_map, List.length_range]
theorem rangeL_get {lo hi x : Int} {i : Nat} (h : (rangeL lo hi)[i]? = some x) : x = lo + (i : Int) := by
  unfold rangeL at h
  rw [List.getElem?_map] at h
  cases e : (List.range (hi - lo).toNat)[i]? with
  | none =>
    rw [e] at h
    cases h
  | some j =>
    rw [e] at h
    have hj := List.getElem?_eq_some_iff.mp e
    obtain ⟨h1, h2⟩ := hj
    rw [List.getElem_range] at h2
    subst h2
    exact (Option.some.inj h).symm
theorem itr_yld {lo hi x : Int} {i : Nat} {H H' : Hp} {v : V} (n : Nat) (h : (rangeL lo hi)[i]? = some x) (y : (Itr lo n).yld i H v H') : H' = H ∧ v = .int x := by
  obtain ⟨e, y⟩ := y
  exact ⟨e, by rw [y, rangeL_get h]⟩
theorem st_forF_r1 {mi mi' : Option Int} {b : Int → S → Option (Fl S R)} {s0 : S} {k : Fl S R → Option ρ} {r : ρ} (I : Hp → S → Hp → L2.St → Hp → Prop) (hm : ((mi'.bind fun n => prange1 n).bind fun xs => (forF b xs s0).bind k) = some r) (e : Ex B H) (hc : Ca K tas σ B (mi.bind fun n => some (n, ()))) (he : mi = mi')
    (h0 : ∀ Be H1, Gr noM B H Be H1 → I Be s0 Be σ H1)
    (hs : ∀ Be x s B σ H v c (N : L2.St → Hp → Prop), I Be s B σ H → rp K B v x → b x s = some c → (∀ s2 B2 σ2 H2, c = .nx s2 → I Be s2 B2 σ2 H2 → N σ2 H2) → (∀ s2 B2 σ2 H2, c = .bk s2 → I Be s2 B2 σ2 H2 → D.nx σ2 H2) →
      (∀ r', c = .rt r' → k (.rt r') = some r) → g v σ H fun σ2 H2 => ts { D with nx := N, ct := N, bk := D.nx } σ2 H2)
    (hd : ∀ Be s B σ H, k (.nx s) = some r → I Be s B σ H → D.nx σ H) : tFor (iRng1 tas) g ts D σ H := by
  subst he
  obtain ⟨xs, e1, e2⟩ := bd_some hm
  obtain ⟨n, e3, e4⟩ := bd_some e1
  obtain ⟨hb, ex⟩ := if_some e4
  subst ex
  subst e3
  refine hc B H (Ex.refl B) e (n, ()) rfl _ fun vs Be H1 g1 hv => ?_
  obtain ⟨v, us, rfl, h1, h2⟩ := hv
  cases (show us = [] from h2)
  cases (show v = .int n from h1)
  have hl := rangeL_len 0 n
  rw [Int.sub_zero] at hl
  refine ⟨n, rfl, (by omega), (by omega), forF_run (K := K) (xs := rangeL 0 n) (B := Be) (I Be) (fun i s B σ H hI hi => (by rw [hl] at hi; exact hi)) (fun i s B σ H hI hi => (by rw [hl] at hi; exact hi)) (fun i x s B σ H v H' hI hxi y => ?_) e2 (h0 Be H1 g1) (fun x s B σ H v c N => hs Be x s B σ H v c N) (fun s B σ H => hd Be s B σ H)⟩
  obtain ⟨eH, ev⟩ := itr_yld _ hxi y
  subst eH
  exact ⟨B, hI, ev⟩
theorem st_forN_r1 {mi mi' : Option Int} {b : Int → S → Option S} {s0 : S} {k : S → Option ρ} {r : ρ} (I : Hp → S → Hp → L2.St → Hp → Prop) (hm : ((mi'.bind fun n => prange1 n).bind fun xs => (forN b xs s0).bind k) = some r) (e : Ex B H) (hc : Ca K tas σ B (mi.bind fun n => some (n, ()))) (he : mi = mi')
    (h0 : ∀ Be H1, Gr noM B H Be H1 → I Be s0 Be σ H1)
    (hs : ∀ Be x s B σ H v s' (N : L2.St → Hp → Prop), I Be s B σ H → rp K B v x → b x s = some s' → (∀ B2 σ2 H2, I Be s' B2 σ2 H2 → N σ2 H2) → g v σ H fun σ2 H2 => ts { D with nx := N, ct := N, bk := D.nx } σ2 H2)
    (hd : ∀ Be s B σ H, k s = some r → I Be s B σ H → D.nx σ H) : tFor (iRng1 tas) g ts D σ H := by
  subst he
  obtain ⟨xs, e1, e2⟩ := bd_some hm
  obtain ⟨n, e3, e4⟩ := bd_some e1
  obtain ⟨hb, ex⟩ := if_some e4
  subst ex
  subst e3
  refine hc B H (Ex.refl B) e (n, ()) rfl _ fun vs Be H1 g1 hv => ?_
  obtain ⟨v, us, rfl, h1, h2⟩ := hv
  cases (show us = [] from h2)
  cases (show v = .int n from h1)
  have hl := rangeL_len 0 n
  rw [Int.sub_zero] at hl
  refine ⟨n, rfl, (by omega), (by omega), forN_run (K := K) (xs := rangeL 0 n) (B := Be) (I Be) (fun i s B σ H hI hi => (by rw [hl] at hi; exact hi)) (fun i s B σ H hI hi => (by rw [hl] at hi; exact hi)) (fun i x s B σ H v H' hI hxi y => ?_) e2 (h0 Be H1 g1) (fun x s B σ H v s' N => hs Be x s B σ H v s' N) (fun s B σ H => hd Be s B σ H)⟩
  obtain ⟨eH, ev⟩ := itr_yld _ hxi y
  subst eH
  exact ⟨B, hI, ev⟩
end
end Cf

set_option Elab.async false
set_option linter.all false
set_option maxRecDepth 100000
set_option maxHeartbeats 4000000
namespace Cf
open PySem L2
open Rp (rp)
open RpL (rpl)
open Enc (enc)
/-! ### calls by name -/
/-- the module's name x is a def that keeps the promise sp, by at most level k -/
structure Fc (P : Program) (w : World) (K : Fg) (mg : Str → Option Value) (base : Heap) (k : Nat) (x : Str) (ps : List Str) (sp : Sp) : Prop where
  ex : ∃ f fd, FnOk P w K mg base CX0 k f fd ps sp ∧ mg x = some (.ref f) ∧ PySem.W.keepIn K (.ref f) = true ∧ Binds K fd ps []
theorem pe_fc {X : Cx} {k j : Nat} {x : Str} {ps : List Str} {sp : Sp} {p pos : Pos} {e : Expr} {es : List Expr} {t : TA} (c : Fc X.prog X.w X.K X.mg X.base k x ps sp) (hr : Room j X.A) (hk : k ≤ j) (hg : Gl X x) (ha : PA X (e :: es) t)
    (hdb : (x == ("__debug__" : Str)) = false := by decide) (he : starEach (e :: es) X.env = (false, eval e X.env) :: starEach es X.env := by rfl)
    (hpl : (backTo pos (starEach es X.env)).any (·.1) = false := by rfl) : PE X (.Call (.Name x p) (e :: es) [] pos) (tCall sp [] E0 t) := by
  obtain ⟨f, fd, F, hm, hkp, hb⟩ := c.ex
  exact pe_call F (hr.mono hk) hg hm hkp hb .nil pass0 ha hdb he hpl
theorem pe_gint {X : Cx} {x : Str} {i : Int} {pos : Pos} (hg : Gl X x) (h : ∃ t, X.mg x = some (.int i t)) (hdb : (x == ("__debug__" : Str)) = false := by decide) : PE X (.Name x pos) (tC (.int i)) := by
  obtain ⟨t, e⟩ := h
  exact pe_glob hg e ⟨_, rfl⟩ hdb
theorem pe_gstr {X : Cx} {x : Str} {z : Str} {pos : Pos} (hg : Gl X x) (h : ∃ t, X.mg x = some (.str z t)) (hdb : (x == ("__debug__" : Str)) = false := by decide) : PE X (.Name x pos) (tC (.str z)) := by
  obtain ⟨t, e⟩ := h
  exact pe_glob hg e ⟨_, rfl⟩ hdb
theorem fc_of {P : Program} {w : World} {K : Fg} {mg : Str → Option Value} {base : Heap} {k : Nat} {x qual : Str} {pa : Arguments} {bd : List Stmt} {sc : Scope} {ps : List Str} {sp : Sp} {f : Addr} {fd : FuncData} (F : FunD K x qual pa bd sc [] [] f fd) (ok : FnOk P w K mg base CX0 k f fd ps sp) (g : mg x = some (.ref f))
    (h : ∀ (kV doc pm : Value) (an : Option Addr) (cdv ct : Value) (us : List Value), us.length = ps.length → bindArgs (PySem.W.fnOf x qual pa bd sc .none kV doc pm an cdv ct) ⟨us, []⟩ = pure (ps.zip us)) : Fc P w K mg base k x ps sp :=
  ⟨f, fd, ok, g, F.kp, F.bindsN h⟩
/-! ### len, repr -/
section
variable {K : Fg}
def RLen (K : Fg) : List V → Hp → VK → Prop := fun xs H Q => ∃ x n, xs = [x] ∧ LenV K x H n ∧ Q (.int n) H
theorem call_len_ {X : Cx} : CallR X (.builtin "len") (RLen X.K) := call_len
theorem rc_lenL {α : Type} [Rp α] : Rcp K (RLen K) (fun t : List α × Unit => some (t.1.length : Int)) := fun B H t z vs e h ez Q q => by
  cases ez
  obtain ⟨v, us, rfl, h1, h2⟩ := h
  cases (show us = [] from h2)
  obtain ⟨a, ws, rfl, s, p⟩ := h1
  refine ⟨_, t.1.length, rfl, .inl ⟨ws, sq_lst (e _ _ s), (pr_len p).symm⟩, q _ B H (Gr.refl e) rfl⟩
theorem rc_lenScr : Rcp K (RLen K) (fun t : Scr × Unit => some (t.1.l.length : Int)) := fun B H t z vs e h ez Q q => by
  cases ez
  obtain ⟨v, us, rfl, h1, h2⟩ := h
  cases (show us = [] from h2)
  obtain ⟨a, rfl, s⟩ := h1
  refine ⟨_, t.1.l.length, rfl, .inl ⟨_, sql_mono e s, (List.length_map ..).symm⟩, q _ B H (Gr.refl e) rfl⟩
def plenS (x : Str) : Option Int := if x.length ≤ sizeLine then some (x.length : Int) else none
theorem rc_lenS : Rcp K (RLen K) (fun t : Str × Unit => plenS t.1) := fun B H t z vs e h ez Q q => by
  obtain ⟨v, us, rfl, h1, h2⟩ := h
  cases (show us = [] from h2)
  cases (show v = .str _ from h1)
  obtain ⟨hc, ez⟩ := if_some ez
  cases ez
  exact ⟨_, t.1.length, rfl, ⟨hc, rfl⟩, q _ B H (Gr.refl e) rfl⟩
def RRepI : List V → Hp → VK → Prop := fun xs H Q => ∃ i, xs = [.int i] ∧ i.natAbs.log2 < 1920 ∧ Q (.str (toString i)) H
theorem call_repI_ {X : Cx} : CallR X (.builtin "repr") RRepI := SkE.call_repr_int
def preprI (i : Int) : Option Str := if i.natAbs.log2 < 1920 then some (Str.ofString (toString i)) else none
theorem rc_repI : Rcp K RRepI (fun t : Int × Unit => preprI t.1) := fun B H t z vs e h ez Q q => by
  obtain ⟨v, us, rfl, h1, h2⟩ := h
  cases (show us = [] from h2)
  cases (show v = .int _ from h1)
  obtain ⟨hc, ez⟩ := if_some ez
  cases ez
  exact ⟨_, rfl, hc, q _ B H (Gr.refl e) rfl⟩
end
end Cf

set_option Elab.async false
set_option linter.all false
set_option maxRecDepth 100000
namespace Cf
open PySem L2
section
variable {t u : TS} {D : Ends} {σ : L2.St} {H : Hp}
theorem sq (h : t { D with nx := u D } σ H) : tSeq t u D σ H := h
theorem nxt (h : D.nx σ H) : tNext D σ H := h
theorem brkn (h : D.bk σ H) : tBreak D σ H := h
theorem cntn (h : D.ct σ H) : tCont D σ H := h
theorem gnx {f b c : L2.St → Hp → Prop} {r : VK} (h : f σ H) : Ends.nx ⟨f, r, b, c⟩ σ H := h
theorem gnm {i : Nat} {v : V} {Q : L2.St → Hp → Prop} (h : Q (σ.set i (some v)) H) : gName i v σ H Q := h
end
section
variable {K : Fg} {σ : L2.St} {B H : Hp} {ta : TE}
theorem cp_int1 {m : Option Int} (h : Cp K ta σ B m) : Cp K (tCB RInt (tCons ta tNil)) σ B m := fun B1 H1 b eh x e Q q => h B1 H1 b eh x e _ fun v B2 H2 g2 hv => by
  cases (show v = .int x from hv)
  exact .inl ⟨x, rfl, q _ B2 H2 g2 rfl⟩
end
end Cf
namespace Cf
/-! ### the mirrors' operations -/
theorem pmod_some {i j : Int} (h : 0 < j) : pmod i j = some (i % j) := if_pos h
theorem pdiv_some {i j : Int} (h : 0 < j) (h2 : j < 1073741824) : pdiv i j = some (i / j) := if_pos ⟨h, h2⟩
theorem pmul_r {i j : Int} (h1 : -18446744073709551616 < j) (h2 : j < 18446744073709551616) : pmul i j = some (i * j) := if_pos (.inr ⟨h1, h2⟩)
theorem pmul_l {i j : Int} (h1 : -18446744073709551616 < i) (h2 : i < 18446744073709551616) : pmul i j = some (i * j) := if_pos (.inl ⟨h1, h2⟩)
theorem pshr_some {i j : Int} (h : 0 ≤ j) : pshr i j = some (i / 2 ^ j.toNat) := if_pos h
theorem at_nat {α : Type} {xs : List α} {i : Int} (h : 0 ≤ i) : at? xs i = xs[i.toNat]? := if_pos h
theorem forF_nil {α S R : Type} (b : α → S → Option (Fl S R)) (s : S) : forF b [] s = some (.nx s) := rfl
theorem forF_cons {α S R : Type} (b : α → S → Option (Fl S R)) (x : α) (xs : List α) (s : S) : forF b (x :: xs) s = (b x s).bind fun c => match c with
    | .nx s' => forF b xs s'
    | .bk s' => some (.nx s')
    | .rt r => some (.rt r) := rfl
theorem forN_cons {α S : Type} (b : α → S → Option S) (x : α) (xs : List α) (s : S) : forN b (x :: xs) s = (b x s).bind fun s' => forN b xs s' := rfl
/-- a loop that never leaves and keeps I -/
theorem forF_all {α S R : Type} {b : α → S → Option (Fl S R)} (I : S → Prop) : ∀ (xs : List α) (s : S), I s → (∀ x ∈ xs, ∀ s, I s → ∃ s', b x s = some (.nx s') ∧ I s') → ∃ s', forF b xs s = some (.nx s') ∧ I s'
  | [], s, h, _ => ⟨s, rfl, h⟩
  | x :: xs, s, h, hb => by
    obtain ⟨s', e, h'⟩ := hb x List.mem_cons_self s h
    obtain ⟨s2, e2, h2⟩ := forF_all I xs s' h' fun y hy => hb y (List.mem_cons_of_mem _ hy)
    exact ⟨s2, by rw [forF_cons, e]; exact e2, h2⟩
theorem forN_all {α S : Type} {b : α → S → Option S} (I : S → Prop) : ∀ (xs : List α) (s : S), I s → (∀ x ∈ xs, ∀ s, I s → ∃ s', b x s = some s' ∧ I s') → ∃ s', forN b xs s = some s' ∧ I s'
  | [], s, h, _ => ⟨s, rfl, h⟩
  | x :: xs, s, h, hb => by
    obtain ⟨s', e, h'⟩ := hb x List.mem_cons_self s h
    obtain ⟨s2, e2, h2⟩ := forN_all I xs s' h' fun y hy => hb y (List.mem_cons_of_mem _ hy)
    exact ⟨s2, by rw [forN_cons, e]; exact e2, h2⟩
theorem mem_rangeL {lo hi x : Int} : x ∈ rangeL lo hi ↔ lo ≤ x ∧ x < hi := by
  unfold rangeL
  rw [List.mem_map]
  constructor
  · rintro ⟨i, h, rfl⟩
    rw [List.mem_range] at h
    omega
  · intro h
    exact ⟨(x - lo).toNat, by rw [List.mem_range]; omega, by omega⟩
end Cf

set_option Elab.async false
set_option linter.all false
set_option maxRecDepth 100000
set_option maxHeartbeats 4000000
namespace Cf
open PySem L2
open Rp (rp)
open RpL (rpl)
open Enc (enc)
/-! ### expressions that change one's own -/
def Cs {S α : Type} [Rp α] (K : Fg) (P : Ow S) (te : TE) (σ : L2.St) (B : Hp) (m : S → Option (α × S)) : Prop :=
  ∀ B1 H1 W s, Ex B B1 → Ex B1 H1 → Ex W H1 → Dj W B1 → P W B1 s → ∀ x s', m s = some (x, s') → ∀ Q : VK, (∀ v B2 H2 W2, Sw W B1 H1 W2 B2 H2 → P W2 B2 s' → rp K B2 v x → Q v H2) → te σ H1 Q
def Cst {S : Type} (P : Ow S) (tt : TT) (σ : L2.St) (B : Hp) (m : S → Option (Bool × S)) : Prop :=
  ∀ B1 H1 W s, Ex B B1 → Ex B1 H1 → Ex W H1 → Dj W B1 → P W B1 s → ∀ x s', m s = some (x, s') → ∀ Q : Bool → Hp → Prop, (∀ B2 H2 W2, Sw W B1 H1 W2 B2 H2 → P W2 B2 s' → Q x H2) → tt σ H1 Q
def Csa {S τ : Type} [RpL τ] (K : Fg) (P : Ow S) (ta : TA) (σ : L2.St) (B : Hp) (m : S → Option (τ × S)) : Prop :=
  ∀ B1 H1 W s, Ex B B1 → Ex B1 H1 → Ex W H1 → Dj W B1 → P W B1 s → ∀ x s', m s = some (x, s') → ∀ Q : List V → Hp → Prop, (∀ vs B2 H2 W2, Sw W B1 H1 W2 B2 H2 → P W2 B2 s' → rpl K B2 vs x → Q vs H2) → ta σ H1 Q
/-- .. a new list, not known yet: its place p and items vs stand apart from one's own -/
def Cso {S α : Type} [Rp α] (K : Fg) (P : Ow S) (te : TE) (σ : L2.St) (B : Hp) (m : S → Option (List α × S)) : Prop :=
  ∀ B1 H1 W s, Ex B B1 → Ex B1 H1 → Ex W H1 → Dj W B1 → P W B1 s → ∀ xs s', m s = some (xs, s') → ∀ Q : VK,
    (∀ p vs B2 H2 W2, Sw W B1 H1 W2 B2 H2 → P W2 B2 s' → H1 p = none → B2 p = none → W2 p = none → H2 p = some (.lst vs) → Paired (rp K B2) vs xs → Q (.ref p) H2) → te σ H1 Q
/-- a part of one's own: get it, put it -/
structure Ln {S' S : Type} (P' : Ow S') (P : Ow S) (get : S' → S) (put : S' → S → S') : Prop where
  open_ : ∀ W B s', P' W B s' → ∃ W1 W2, W = uni W1 W2 ∧ Dj W1 W2 ∧ P W1 B (get s') ∧ ∀ W1' B' x, Ex B B' → Dj W1' W2 → P W1' B' x → P' (uni W1' W2) B' (put s' x)
section
variable {K : Fg} {σ : L2.St} {B H B' H' : Hp} {te ta tb tc : TE} {tt tu : TT} {tas : TA} {α β γ τ ρ S S' S1 S2 : Type} {P : Ow S} {P' : Ow S'} {R : Ow S1}
theorem uni_emp {W : Hp} : uni W emp = W := by
  funext a
  unfold uni
  split
  · rename_i o h
    exact h.symm
  · rename_i h
    exact h.symm
theorem ln_id : Ln P P (fun s => s) (fun _ x => x) := ⟨fun W B s p => ⟨W, emp, uni_emp.symm, fun a _ => rfl, p, fun W1' B' x _ _ q => by rw [uni_emp]; exact q⟩⟩
theorem ln_l [OwOk R] : Ln (star P R) P (fun s => s.1) (fun s x => (x, s.2)) := ⟨fun W B s ⟨W1, W2, h, d, p, r⟩ => ⟨W1, W2, h, d, p, fun W1' B' x e dj q => ⟨W1', W2, rfl, dj, q, OwOk.mono e r⟩⟩⟩
theorem uni_comm {W1 W2 : Hp} (d : Dj W1 W2) : uni W1 W2 = uni W2 W1 := by
  funext a
  cases q : W1 a with
  | some o =>
    have := d a (nn q)
    rw [uni_l q, uni_r this, q]
  | none =>
    rw [uni_r q]
    cases q2 : W2 a with
    | some o => rw [uni_l q2]
    | none => rw [uni_r q2, q]
theorem ln_r [OwOk P] : Ln (star P R) R (fun s => s.2) (fun s x => (s.1, x)) := ⟨fun W B s ⟨W1, W2, h, d, p, r⟩ => ⟨W2, W1, h.trans (uni_comm d), d.symm, r, fun W1' B' x e dj q => ⟨W1, W1', uni_comm dj, dj.symm, OwOk.mono e p, q⟩⟩⟩
theorem uni_assoc {A C D : Hp} : uni (uni A C) D = uni A (uni C D) := by
  funext a
  cases q : A a with
  | some o => rw [uni_l (uni_l q), uni_l q]
  | none =>
    rw [uni_r q]
    cases q2 : C a with
    | some o => rw [uni_l (show uni A C a = some o by rw [uni_r q, q2]), uni_l q2]
    | none => rw [uni_r (show uni A C a = none by rw [uni_r q, q2]), uni_r q2]
theorem dj_uni {A C D : Hp} (h1 : Dj A D) (h2 : Dj C D) : Dj (uni A C) D := fun a h => by
  rcases uni_dom h with z | z
  · exact h1 a z
  · exact h2 a z
theorem dj_l {A C D : Hp} (h : Dj (uni A C) D) : Dj A D := fun a z => h a (uni_dom_l z)
theorem dj_r {A C D : Hp} (d : Dj A C) (h : Dj (uni A C) D) : Dj C D := fun a z => h a (uni_dom_r d z)
theorem Ln.comp {P1 : Ow S1} {P2 : Ow S2} {g1 : S → S1} {p1 : S → S1 → S} {g2 : S1 → S2} {p2 : S1 → S2 → S1} (l : Ln P P1 g1 p1) (m : Ln P1 P2 g2 p2) : Ln P P2 (fun s => g2 (g1 s)) (fun s x => p1 s (p2 (g1 s) x)) := ⟨fun W B s p => by
  obtain ⟨W1, W2, h, d, q, put⟩ := l.open_ W B s p
  obtain ⟨W3, W4, h', d', q', put'⟩ := m.open_ W1 B _ q
  subst h'
  refine ⟨W3, uni W4 W2, by rw [h, uni_assoc], fun a z => ?_, q', fun W1' B' x e dj px => ?_⟩
  · cases hh : uni W4 W2 a with
    | none => rfl
    | some o =>
      rcases uni_dom (nn hh) with y | y
      · exact absurd (d' a z) y
      · exact absurd (d a (uni_dom_l z)) y
  · have dj4 : Dj W1' W4 := fun a z => by
      cases hh : W4 a with
      | none => rfl
      | some o => exact absurd (dj a z) (uni_dom_l (nn hh))
    have dj2 : Dj W1' W2 := fun a z => by
      cases hh : W2 a with
      | none => rfl
      | some o =>
        have dw : Dj W4 W2 := dj_r d' d
        exact absurd (dj a z) (uni_dom_r dw (nn hh))
    rw [← uni_assoc]
    exact put _ _ _ e (dj_uni dj2 (dj_r d' d)) (put' _ _ _ e dj4 px)⟩
theorem Ow.split {get : S' → S} {put : S' → S → S'} (l : Ln P' P get put) {W B : Hp} {s : S'} (p : P' W B s) : ∃ W1 W2, W = uni W1 W2 ∧ Dj W1 W2 ∧ P W1 B (get s) ∧ ∀ W1' B' x, Ex B B' → Dj W1' W2 → P W1' B' x → P' (uni W1' W2) B' (put s x) := l.open_ W B s p
/-! what changes nothing -/
theorem Cp.s [Rp α] [OwOk P] {m : Option α} (h : Cp K te σ B m) : Cs K P te σ B (fun s => m.bind fun x => some (x, s)) := fun B1 H1 W s b e w d p x s' em Q q => by
  obtain ⟨y, e1, e2⟩ := bd_some em
  cases e2
  exact h B1 H1 b e x e1 Q fun v B2 H2 g hv => q v B2 H2 W (Sw.pure g w d) (OwOk.mono g.b p) hv
theorem Ct.s [OwOk P] {m : Option Bool} (h : Ct tt σ B m) : Cst P tt σ B (fun s => m.bind fun x => some (x, s)) := fun B1 H1 W s b e w d p x s' em Q q => by
  obtain ⟨y, e1, e2⟩ := bd_some em
  cases e2
  exact h B1 H1 b e x e1 Q fun B2 H2 g => q B2 H2 W (Sw.pure g w d) (OwOk.mono g.b p)
theorem Ca.s [RpL τ] [OwOk P] {m : Option τ} (h : Ca K tas σ B m) : Csa K P tas σ B (fun s => m.bind fun x => some (x, s)) := fun B1 H1 W s b e w d p x s' em Q q => by
  obtain ⟨y, e1, e2⟩ := bd_some em
  cases e2
  exact h B1 H1 b e x e1 Q fun v B2 H2 g hv => q v B2 H2 W (Sw.pure g w d) (OwOk.mono g.b p) hv
theorem Co.s [Rp α] [OwOk P] {m : Option (List α)} (h : Co K te σ B m) : Cso K P te σ B (fun s => m.bind fun x => some (x, s)) := fun B1 H1 W s b e w d p x s' em Q q => by
  obtain ⟨y, e1, e2⟩ := bd_some em
  cases e2
  refine h B1 H1 b e x e1 Q fun a vs B2 H2 g f n hp pr => q a vs B2 H2 W (Sw.pure g w d) (OwOk.mono g.b p) f n ?_ hp pr
  cases hh : W a with
  | none => rfl
  | some o =>
    rw [w a o hh] at f
    cases f
theorem Cso.cs [Rp α] {m : S → Option (List α × S)} [OwOk P] (h : Cso K P te σ B m) : Cs K P te σ B m := fun B1 H1 W s b e w d p xs s' em Q q => h B1 H1 W s b e w d p xs s' em Q fun a vs B2 H2 W2 sw p2 f n nw hp pr =>
  q (.ref a) (upd B2 a (.lst vs)) H2 W2 ⟨sw.g.freeze hp f n, sw.w, fun c z => by
    rw [upd_ne (show c ≠ a from fun y => z (by rw [y]; exact nw))]
    exact sw.d c z, sw.f⟩ (OwOk.mono (Ex.new n) p2) ⟨a, vs, rfl, upd_same, pr_mono (Ex.new n) pr⟩
theorem sm2 {m1 : S → Option (α × S)} {m2 : S → Option (β × S)} {f : α → β → Option γ} {s s' : S} {z : γ} (h : ((m1 s).bind fun p => (m2 p.2).bind fun q => (f p.1 q.1).bind fun z => some (z, q.2)) = some (z, s')) : ∃ x s1 y, m1 s = some (x, s1) ∧ m2 s1 = some (y, s') ∧ f x y = some z := by
  obtain ⟨⟨x, s1⟩, e1, h⟩ := bd_some h
  obtain ⟨⟨y, s2⟩, e2, h⟩ := bd_some h
  obtain ⟨w, e3, h⟩ := bd_some h
  cases h
  exact ⟨x, s1, y, e1, e2, e3⟩
theorem cs_op [Rp α] [Rp β] [Rp γ] {r : R2} {f : α → β → Option γ} {m1 : S → Option (α × S)} {m2 : S → Option (β × S)} (hr : R2p K r f) [OwOk P] (ha : Cs K P ta σ B m1) (hb : Cs K P tb σ B m2) :
    Cs K P (tOp r ta tb) σ B (fun s => (m1 s).bind fun p => (m2 p.2).bind fun q => (f p.1 q.1).bind fun z => some (z, q.2)) := fun B1 H1 W s b e w d p z s' em Q q => by
  obtain ⟨x, s1, y, e1, e2, e3⟩ := sm2 em
  refine ha B1 H1 W s b e w d p x s1 e1 _ fun v B2 H2 W2 sw p2 hv => ?_
  refine hb B2 H2 W2 s1 (b.trans sw.g.b) sw.g.e sw.w sw.d p2 y s' e2 _ fun u B3 H3 W3 sw3 p3 hu => ?_
  exact hr B3 H3 x y z v u sw3.g.e (Rp.mono sw3.g.b hv) hu e3 Q fun t B4 H4 g4 ht => q t B4 H4 W3 ((sw.trans sw3).trans (Sw.pure g4 sw3.w sw3.d)) (OwOk.mono g4.b p3) ht
theorem cs_un [Rp α] [Rp γ] {r : V → Hp → VK → Prop} {f : α → Option γ} {m : S → Option (α × S)} (hr : R1p K r f) [OwOk P] (ha : Cs K P ta σ B m) : Cs K P (tUn r ta) σ B (fun s => (m s).bind fun p => (f p.1).bind fun z => some (z, p.2)) := fun B1 H1 W s b e w d p z s' em Q q => by
  obtain ⟨⟨x, s1⟩, e1, em⟩ := bd_some em
  obtain ⟨z', e2, em⟩ := bd_some em
  cases em
  refine ha B1 H1 W s b e w d p x _ e1 _ fun v B2 H2 W2 sw p2 hv => ?_
  exact hr B2 H2 x z v sw.g.e hv e2 Q fun t B3 H3 g3 ht => q t B3 H3 W2 (sw.trans (Sw.pure g3 sw.w sw.d)) (OwOk.mono g3.b p2) ht
theorem cs_cb [RpL τ] [Rp γ] {r : List V → Hp → VK → Prop} {f : τ → Option γ} {m : S → Option (τ × S)} (hr : Rcp K r f) [OwOk P] (ha : Csa K P tas σ B m) : Cs K P (tCB r tas) σ B (fun s => (m s).bind fun p => (f p.1).bind fun z => some (z, p.2)) := fun B1 H1 W s b e w d p z s' em Q q => by
  obtain ⟨⟨x, s1⟩, e1, em⟩ := bd_some em
  obtain ⟨z', e2, em⟩ := bd_some em
  cases em
  refine ha B1 H1 W s b e w d p x _ e1 _ fun vs B2 H2 W2 sw p2 hv => ?_
  exact hr B2 H2 x z vs sw.g.e hv e2 Q fun t B3 H3 g3 ht => q t B3 H3 W2 (sw.trans (Sw.pure g3 sw.w sw.d)) (OwOk.mono g3.b p2) ht
theorem cs_int1 {m : S → Option (Int × S)} (h : Cs K P ta σ B m) : Cs K P (tCB RInt (tCons ta tNil)) σ B m := fun B1 H1 W s b e w d p x s' em Q q => h B1 H1 W s b e w d p x s' em _ fun v B2 H2 W2 sw p2 hv => by
  cases (show v = .int x from hv)
  exact .inl ⟨x, rfl, q _ B2 H2 W2 sw p2 rfl⟩
theorem csa_nil : Csa K P tNil σ B (fun s => some ((), s)) := fun B1 H1 W s b e w d p x s' em Q q => by
  cases em
  exact q [] B1 H1 W (Sw.refl e w d) p rfl
theorem csa_cons [Rp α] [RpL τ] {m1 : S → Option (α × S)} {m2 : S → Option (τ × S)} (ha : Cs K P ta σ B m1) (hb : Csa K P tas σ B m2) :
    Csa K P (tCons ta tas) σ B (fun s => (m1 s).bind fun p => (m2 p.2).bind fun q => some ((p.1, q.1), q.2)) := fun B1 H1 W s b e w d p z s' em Q q => by
  obtain ⟨⟨x, s1⟩, e1, em⟩ := bd_some em
  obtain ⟨⟨y, s2⟩, e2, em⟩ := bd_some em
  cases em
  refine ha B1 H1 W s b e w d p x s1 e1 _ fun v B2 H2 W2 sw p2 hv => ?_
  refine hb B2 H2 W2 s1 (b.trans sw.g.b) sw.g.e sw.w sw.d p2 y _ e2 _ fun vs B3 H3 W3 sw3 p3 hu => ?_
  exact q (v :: vs) B3 H3 W3 (sw.trans sw3) p3 ⟨v, vs, rfl, Rp.mono sw3.g.b hv, hu⟩
theorem cs_call [RpL τ] [Rp γ] {f : τ → Option γ} {m : S → Option (τ × S)} {E : XK} [OwOk P] (ha : Csa K P tas σ B m) : Cs K P (tCall (spP K f) [] E tas) σ B (fun s => (m s).bind fun p => (f p.1).bind fun z => some (z, p.2)) := fun B1 H1 W s b e w d p z s' em Q q => by
  obtain ⟨⟨x, s1⟩, e1, em⟩ := bd_some em
  obtain ⟨z', e2, em⟩ := bd_some em
  cases em
  refine ha B1 H1 W s b e w d p x _ e1 _ fun vs B2 H2 W2 sw p2 hv => ?_
  rw [List.append_nil]
  exact ⟨B2, x, z, sw.g.e, hv, e2, fun t B3 H3 g3 ht => q t B3 H3 W2 (sw.trans (Sw.pure g3 sw.w sw.d)) (OwOk.mono g3.b p2) ht⟩
/-- the promise of a def that changes the object handed in first -/
def spM {S τ γ : Type} [RpL τ] [Rp γ] (K : Fg) (Pb : Addr → Ow S) (f : S → τ → Option (γ × S)) : Sp := fun vs H Q _ => ∃ a us W B s t r s', vs = .ref a :: us ∧ Ex B H ∧ Ex W H ∧ Dj W B ∧ Pb a W B s ∧ rpl K B us t ∧ f s t = some (r, s') ∧
  ∀ v W' B' H', Sw W B H W' B' H' → Pb a W' B' s' → rp K B' v r → Q v H'
theorem cs_callM [RpL τ] [Rp γ] {Pb : Addr → Ow S} {a : Addr} {get : S' → S} {put : S' → S → S'} {f : S → τ → Option (γ × S)} {i : Nat} {m : S' → Option (τ × S')} {E : XK} (l : Ln P' (Pb a) get put) (hs : σ[i]? = some (some (.ref a))) (ha : Csa K P' tas σ B m) :
    Cs K P' (tCall (spM K Pb f) [] E (tCons (tVar i) tas)) σ B (fun s => (m s).bind fun p => (f (get p.2) p.1).bind fun q => some (q.1, put p.2 q.2)) := fun B1 H1 W s b e w d p z s' em Q q => by
  obtain ⟨⟨x, s1⟩, e1, em⟩ := bd_some em
  obtain ⟨⟨y, s2⟩, e2, em⟩ := bd_some em
  cases em
  refine ⟨.ref a, hs, ?_⟩
  refine ha B1 H1 W s b e w d p x s1 e1 _ fun vs B2 H2 W2 sw p2 hv => ?_
  obtain ⟨V1, V2, hV, dV, q1, back⟩ := l.open_ W2 B2 s1 p2
  subst hV
  refine ⟨a, vs, V1, B2, get s1, x, _, s2, (by rw [List.append_nil]), sw.g.e, fun c o h => sw.w c o (uni_l h), dj_l sw.d, q1, hv, e2, fun v W' B3 H3 y p3 hr => ?_⟩
  have w2 : Ex V2 H2 := fun c o h => sw.w c o (by rw [uni_r (dV.symm c (nn h))]; exact h)
  obtain ⟨y2, dj⟩ := y.beside w2 dV (dj_r dV sw.d)
  exact q v B3 H3 (uni W' V2) (sw.trans y2) (back W' B3 s2 y.g.b dj p3) hr
/-! tests -/
theorem cst_test {m : S → Option (Bool × S)} (h : Cs K P te σ B m) : Cst P (tTest te) σ B m := fun B1 H1 W s b e w d p x s' em Q q => h B1 H1 W s b e w d p x s' em _ fun v B2 H2 W2 sw p2 hv => ⟨x, hv, q B2 H2 W2 sw p2⟩
theorem cst_B {m : S → Option (Bool × S)} (h : Cs K P te σ B m) : Cst P (tB te) σ B m := fun B1 H1 W s b e w d p x s' em Q q => h B1 H1 W s b e w d p x s' em _ fun v B2 H2 W2 sw p2 hv => ⟨x, hv, q B2 H2 W2 sw p2⟩
theorem cst_not {m : S → Option (Bool × S)} (h : Cst P tt σ B m) : Cst P (tNot tt) σ B (fun s => (m s).bind fun p => some (!p.1, p.2)) := fun B1 H1 W s b e w d p x s' em Q q => by
  obtain ⟨⟨y, s1⟩, e1, em⟩ := bd_some em
  cases em
  exact h B1 H1 W s b e w d p y _ e1 _ fun B2 H2 W2 sw p2 => q B2 H2 W2 sw p2
theorem cst_and {m1 m2 : S → Option (Bool × S)} (h1 : Cst P tt σ B m1) (h2 : Cst P tu σ B m2) : Cst P (tAnd tt tu) σ B (fun s => (m1 s).bind fun p => if p.1 = true then m2 p.2 else some (false, p.2)) := fun B1 H1 W s b e w d p z s' em Q q => by
  obtain ⟨⟨a, s1⟩, e1, em⟩ := bd_some em
  refine h1 B1 H1 W s b e w d p a s1 e1 _ fun B2 H2 W2 sw p2 => ?_
  cases a with
  | true => exact h2 B2 H2 W2 s1 (b.trans sw.g.b) sw.g.e sw.w sw.d p2 z s' em Q fun B3 H3 W3 sw3 p3 => q B3 H3 W3 (sw.trans sw3) p3
  | false =>
    cases em
    exact q B2 H2 W2 sw p2
theorem cst_or {m1 m2 : S → Option (Bool × S)} (h1 : Cst P tt σ B m1) (h2 : Cst P tu σ B m2) : Cst P (tOr tt tu) σ B (fun s => (m1 s).bind fun p => if p.1 = true then some (true, p.2) else m2 p.2) := fun B1 H1 W s b e w d p z s' em Q q => by
  obtain ⟨⟨a, s1⟩, e1, em⟩ := bd_some em
  refine h1 B1 H1 W s b e w d p a s1 e1 _ fun B2 H2 W2 sw p2 => ?_
  cases a with
  | false => exact h2 B2 H2 W2 s1 (b.trans sw.g.b) sw.g.e sw.w sw.d p2 z s' em Q fun B3 H3 W3 sw3 p3 => q B3 H3 W3 (sw.trans sw3) p3
  | true =>
    cases em
    exact q B2 H2 W2 sw p2
/-! ### one's own lists -/
/-- a list at p that is one's own -/
def OwL {α : Type} [Rp α] (K : Fg) (p : Addr) : Ow (List α) := fun W B xs => ∃ vs, W = sing p (.lst vs) ∧ Paired (rp K B) vs xs
instance {α : Type} [Rp α] {K : Fg} {p : Addr} : OwOk (OwL (α := α) K p) := ⟨fun e ⟨vs, h, r⟩ => ⟨vs, h, pr_mono e r⟩, fun {W B s a o} ⟨vs, h, r⟩ e => by
  subst h
  have := sing_dom (nn e)
  subst this
  rw [sing_at] at e
  cases e
  rfl⟩
theorem upd_sing {p : Addr} {o o' : HO} : upd (sing p o) p o' = sing p o' := upd_upd
theorem sw_sing {p : Addr} {o o' : HO} (e : Ex B H) (w : Ex (sing p o) H) (d : Dj (sing p o) B) : Sw (sing p o) B H (sing p o') B (upd H p o') :=
  have hp : sing p o p ≠ none := by rw [sing_at]; exact fun z => nomatch z
  ⟨Gr.mut e hp (d p hp) (w.nn hp), fun a u h => by
    have := sing_dom (nn h)
    subst this
    rw [sing_at] at h
    rw [upd_same]
    exact h, fun a h => by
    have := sing_dom h
    subst this
    exact d a hp, fun a h => by
    have := sing_dom h
    subst this
    exact .inl hp⟩
/-- xs.append(e): the list's room is part of the mirror -/
def papp {α : Type} (xs : List α) (x : α) : Option (List α) := if xs.length < 1000000 then some (xs ++ [x]) else none
theorem cs_append [Rp α] {a : Addr} {get : S' → List α} {put : S' → List α → S'} {i : Nat} {m : S' → Option (α × S')} (l : Ln P' (OwL K a) get put) (hs : σ[i]? = some (some (.ref a))) (he : Cs K P' te σ B m) :
    Cs K P' (tBM K "list" rAppend (tVar i) (tCons te tNil)) σ B (fun s => (m s).bind fun p => (papp (get p.2) p.1).bind fun q => some ((), put p.2 q)) := fun B1 H1 W s b e w d p z s' em Q q => by
  obtain ⟨⟨x, s1⟩, e1, em⟩ := bd_some em
  obtain ⟨ys, e2, em⟩ := bd_some em
  cases em
  obtain ⟨hl, e2⟩ := if_some e2
  subst e2
  replace hl : (get s1).length < 1000000 := hl
  refine ⟨.ref a, hs, ?_, ?_⟩
  · obtain ⟨V1, V2, hV, dV, ⟨vs, hv, _⟩, _⟩ := l.open_ W B1 s p
    subst hV hv
    exact .inl ⟨rfl, vs, .inl (.inl (w a _ (uni_l sing_at)))⟩
  refine he B1 H1 W s b e w d p x s1 e1 _ fun v B2 H2 W2 sw p2 hv => ?_
  obtain ⟨V1, V2, hV, dV, ⟨vs, hvs, pr⟩, back⟩ := l.open_ W2 B2 s1 p2
  subst hV hvs
  have w2 : Ex V2 H2 := fun c o h => sw.w c o (by rw [uni_r (dV.symm c (nn h))]; exact h)
  have y := sw_sing (o' := .lst (vs ++ [v])) sw.g.e (fun c o h => sw.w c o (uni_l h)) (dj_l sw.d)
  obtain ⟨y2, dj⟩ := y.beside w2 dV (dj_r dV sw.d)
  have hlen := pr_len pr
  refine ⟨a, vs, v, rfl, rfl, sw.w a _ (uni_l sing_at), Nat.lt_of_lt_of_le (show vs.length < 1000000 by omega) (by decide), ?_⟩
  exact q .non B2 (upd H2 a (.lst (vs ++ [v]))) _ (sw.trans y2) (back _ B2 _ (Ex.refl B2) dj ⟨vs ++ [v], rfl, pr_app pr (.cons hv .nil)⟩) rfl
/-! ### the law's box of digits -/
/-- a list of a list of ints and a place in it: what is left of the ints -/
def OwBox (K : Fg) (b : Addr) : Ow (List Int) := fun W B rest => ∃ (u : V) (ds : List Int) (k : Nat), W = sing b (.lst [u, .int k]) ∧ rp K B u ds ∧ rest = ds.drop k
instance {K : Fg} {p : Addr} : OwOk (OwBox K p) := ⟨fun e ⟨u, ds, k, h, r, z⟩ => ⟨u, ds, k, h, Rp.mono e r, z⟩, fun {W B s a o} ⟨u, ds, k, h, r, z⟩ e => by
  subst h
  have := sing_dom (nn e)
  subst this
  rw [sing_at] at e
  cases e
  rfl⟩
/-- a draw -/
def draw : List Int → Int × Unit → Option (Int × List Int)
  | [], _ => some (0, [])
  | d :: r, n => (pmod d n.1).bind fun x => some (x, r)
end
/-! ### statements that change one's own -/
section
variable {K : Fg} {M : Ms} {Bs Hs W : Hp} {σ : L2.St} {B H B' H' : Hp} {te ta tb tc : TE} {tt tu : TT} {tas : TA} {α β γ τ ρ S S' S1 S2 Z R : Type} {P : Ow S} {s : S} {D : Ends} {t u ts : TS} {g : TG}
theorem st_asgS [Rp α] {m : S → Option (α × S)} {m' : Option (α × S)} {k : α × S → Option ρ} {r : ρ} {i : Nat} (hm : m'.bind k = some r) (N : Now M Bs Hs P W B H s) (hc : Cs K P te σ B m) (he : m s = m')
    (q : ∀ x s1 v W1 B1 H1, k (x, s1) = some r → Now M Bs Hs P W1 B1 H1 s1 → Ex B B1 → rp K B1 v x → D.nx (σ.set i (some v)) H1) : tAsg te (gName i) D σ H := by
  subst he
  obtain ⟨⟨x, s1⟩, e1, e2⟩ := bd_some hm
  exact hc B H W s (Ex.refl B) N.ex N.w N.d N.p x s1 e1 _ fun v B1 H1 W1 sw p hv => q x s1 v W1 B1 H1 e2 (N.step sw p) sw.g.b hv
theorem st_dropS [Rp α] {m : S → Option (α × S)} {m' : Option (α × S)} {k : α × S → Option ρ} {r : ρ} (hm : m'.bind k = some r) (N : Now M Bs Hs P W B H s) (hc : Cs K P te σ B m) (he : m s = m')
    (q : ∀ x s1 W1 B1 H1, k (x, s1) = some r → Now M Bs Hs P W1 B1 H1 s1 → Ex B B1 → D.nx σ H1) : tDrop te D σ H := by
  subst he
  obtain ⟨⟨x, s1⟩, e1, e2⟩ := bd_some hm
  exact hc B H W s (Ex.refl B) N.ex N.w N.d N.p x s1 e1 _ fun v B1 H1 W1 sw p hv => q x s1 W1 B1 H1 e2 (N.step sw p) sw.g.b
theorem st_retS [Rp α] {m : S → Option (α × S)} {m' : Option (α × S)} {k : α × S → Option ρ} {r : ρ} (hm : m'.bind k = some r) (N : Now M Bs Hs P W B H s) (hc : Cs K P te σ B m) (he : m s = m')
    (q : ∀ x s1 v W1 B1 H1, k (x, s1) = some r → Now M Bs Hs P W1 B1 H1 s1 → Ex B B1 → rp K B1 v x → D.rt v H1) : tRet te D σ H := by
  subst he
  obtain ⟨⟨x, s1⟩, e1, e2⟩ := bd_some hm
  exact hc B H W s (Ex.refl B) N.ex N.w N.d N.p x s1 e1 _ fun v B1 H1 W1 sw p hv => q x s1 v W1 B1 H1 e2 (N.step sw p) sw.g.b hv
theorem st_ifS {m : S → Option (Bool × S)} {m' : Option (Bool × S)} {A A' : Bool × S → Option ρ} {r : ρ} (hm : (m'.bind fun b => if b.1 = true then A b else A' b) = some r) (N : Now M Bs Hs P W B H s) (hc : Cst P tt σ B m) (he : m s = m')
    (h1 : ∀ s1 W1 B1 H1, m' = some (true, s1) → A (true, s1) = some r → Now M Bs Hs P W1 B1 H1 s1 → Ex B B1 → t D σ H1) (h2 : ∀ s1 W1 B1 H1, m' = some (false, s1) → A' (false, s1) = some r → Now M Bs Hs P W1 B1 H1 s1 → Ex B B1 → u D σ H1) : tIfS tt t u D σ H := by
  subst he
  obtain ⟨⟨b, s1⟩, e1, e2⟩ := bd_some hm
  refine hc B H W s (Ex.refl B) N.ex N.w N.d N.p b s1 e1 _ fun B1 H1 W1 sw p => ?_
  cases b with
  | true => exact h1 s1 W1 B1 H1 e1 e2 (N.step sw p) sw.g.b
  | false => exact h2 s1 W1 B1 H1 e1 e2 (N.step sw p) sw.g.b
theorem st_ifJS {m : S → Option (Bool × S)} {m' : Option (Bool × S)} {A A' : Bool × S → Option Z} {k : Z → Option ρ} {r : ρ} (hm : ((m'.bind fun b => if b.1 = true then A b else A' b).bind k) = some r) (J : Z → L2.St → Hp → Prop) (N : Now M Bs Hs P W B H s) (hc : Cst P tt σ B m) (he : m s = m')
    (h1 : ∀ z s1 W1 B1 H1 (Nx : L2.St → Hp → Prop), m' = some (true, s1) → A (true, s1) = some z → Now M Bs Hs P W1 B1 H1 s1 → Ex B B1 → (∀ σ' H', J z σ' H' → Nx σ' H') → t { D with nx := Nx } σ H1)
    (h2 : ∀ z s1 W1 B1 H1 (Nx : L2.St → Hp → Prop), m' = some (false, s1) → A' (false, s1) = some z → Now M Bs Hs P W1 B1 H1 s1 → Ex B B1 → (∀ σ' H', J z σ' H' → Nx σ' H') → u { D with nx := Nx } σ H1)
    (q : ∀ z σ' H', k z = some r → J z σ' H' → D.nx σ' H') : tIfS tt t u D σ H := by
  subst he
  obtain ⟨z, e0, e3⟩ := bd_some hm
  obtain ⟨⟨b, s1⟩, e1, e2⟩ := bd_some e0
  refine hc B H W s (Ex.refl B) N.ex N.w N.d N.p b s1 e1 _ fun B1 H1 W1 sw p => ?_
  cases b with
  | true => exact h1 z s1 W1 B1 H1 D.nx e1 e2 (N.step sw p) sw.g.b fun σ' H' j => q z σ' H' e3 j
  | false => exact h2 z s1 W1 B1 H1 D.nx e1 e2 (N.step sw p) sw.g.b fun σ' H' j => q z σ' H' e3 j
/-- a new list of one's own: x = [..] -/
theorem st_asgL [Rp α] {m : S → Option (List α × S)} {m' : Option (List α × S)} {k : List α × S → Option ρ} {r : ρ} {i : Nat} (hm : m'.bind k = some r) (N : Now M Bs Hs P W B H s) (hc : Cso K P te σ B m) (he : m s = m')
    (q : ∀ xs s1 p W1 B1 H1, k (xs, s1) = some r → Now M Bs Hs (star P (OwL K p)) W1 B1 H1 (s1, xs) → Ex B B1 → Hs p = none → D.nx (σ.set i (some (.ref p))) H1) : tAsg te (gName i) D σ H := by
  subst he
  obtain ⟨⟨xs, s1⟩, e1, e2⟩ := bd_some hm
  refine hc B H W s (Ex.refl B) N.ex N.w N.d N.p xs s1 e1 _ fun p vs B1 H1 W1 sw p1 f n nw hp pr => ?_
  have N1 := N.step sw p1
  have fp : Hs p = none := N.g.fresh f
  refine q xs s1 p (uni W1 (sing p (.lst vs))) B1 H1 e2 ⟨N1.g, ex_uni N1.w fun a o h => ?_, fun a h => ?_, ⟨W1, sing p (.lst vs), rfl, fun a h => ?_, p1, ⟨vs, rfl, pr⟩⟩, fun a h => ?_⟩ sw.g.b fp
  · have := sing_dom (nn h)
    subst this
    rw [sing_at] at h
    cases h
    exact hp
  · rcases uni_dom h with z | z
    · exact N1.d a z
    · have := sing_dom z
      subst this
      exact n
  · by_cases ea : a = p
    · subst ea
      exact absurd nw h
    · exact sing_ne ea
  · rcases uni_dom h with z | z
    · exact N1.f a z
    · have := sing_dom z
      subst this
      exact .inr fp
/-- what is no longer needed is dropped -/
theorem Now.drop {S' : Type} {R : Ow S'} {x : S × S'} (N : Now M Bs Hs (star P R) W B H x) : ∃ W1, Now M Bs Hs P W1 B H x.1 := by
  obtain ⟨W1, W2, h, d, p, r⟩ := N.p
  subst h
  exact ⟨W1, N.g, fun a o h => N.w a o (uni_l h), dj_l N.d, p, fun a h => N.f a (uni_dom_l h)⟩
/-- a list of one's own is known from now on -/
theorem Now.freeze [Rp α] {p : Addr} {x : S × List α} [OwOk P] (N : Now M Bs Hs (star P (OwL K p)) W B H x) (fp : Hs p = none) : ∃ W1 B1, Now M Bs Hs P W1 B1 H x.1 ∧ Ex B B1 ∧ rp K B1 (.ref p) x.2 := by
  obtain ⟨W1, W2, h, d, p1, ⟨vs, hv, pr⟩⟩ := N.p
  subst h hv
  have hp : H p = some (.lst vs) := N.w p _ (by rw [uni_r (d.symm p (nn sing_at))]; exact sing_at)
  have nb : B p = none := dj_r d N.d p (nn sing_at)
  refine ⟨W1, upd B p (.lst vs), ⟨N.g.freeze hp fp nb, fun a o h => N.w a o (uni_l h), fun a h => ?_, OwOk.mono (Ex.new nb) p1, fun a h => N.f a (uni_dom_l h)⟩, Ex.new nb, p, vs, rfl, upd_same, pr_mono (Ex.new nb) pr⟩
  have : a ≠ p := fun z => by
    subst z
    exact h (d.symm a (nn sing_at))
  rw [upd_ne this]
  exact dj_l N.d a h
end
end Cf

set_option Elab.async false
set_option linter.all false
set_option maxRecDepth 100000
set_option maxHeartbeats 4000000
namespace Cf
open PySem L2
open Rp (rp)
open RpL (rpl)
open Enc (enc)
/-! ### values without lists or objects in them -/
/-- B' holds the tuples of B -/
def ExT (B B' : Hp) : Prop := ∀ a o, B a = some o → plainO o = false → B' a = some o
class Flat (α : Type) [Rp α] : Prop where
  flat : ∀ {K : Fg} {B B' : Hp} {v : V} {x : α}, ExT B B' → rp K B v x → rp K B' v x
theorem sqt_flat {K : Fg} {B B' : Hp} {a : Addr} {xs : List V} (e : ExT B B') (h : SqT K B a xs) : SqT K B' a xs := by
  rcases h with (h | ⟨o, h⟩) | h
  · exact .inl (.inl (e _ _ h rfl))
  · exact .inl (.inr ⟨o, e _ _ h rfl⟩)
  · exact .inr h
instance : Flat Int := ⟨fun _ h => h⟩
instance : Flat Bool := ⟨fun _ h => h⟩
instance : Flat Str := ⟨fun _ h => h⟩
instance : Flat Unit := ⟨fun _ h => h⟩
instance {α : Type} [Rp α] [Flat α] : Flat (Option α) := ⟨fun {K B B' v x} e h => by
  cases x with
  | none => exact h
  | some y => exact Flat.flat (α := α) e h⟩
instance {α β : Type} [Rp α] [Rp β] [Flat α] [Flat β] : Flat (α × β) := ⟨fun e ⟨a, u, w, h, s, p, q⟩ => ⟨a, u, w, h, sqt_flat e s, Flat.flat e p, Flat.flat e q⟩⟩
instance {α β γ : Type} [Rp α] [Rp β] [Rp γ] [Flat α] [Flat β] [Flat γ] : Flat (T3 α β γ) := ⟨fun e ⟨a, u1, u2, u3, h, s, p1, p2, p3⟩ => ⟨a, u1, u2, u3, h, sqt_flat e s, Flat.flat e p1, Flat.flat e p2, Flat.flat e p3⟩⟩
instance {α β γ δ : Type} [Rp α] [Rp β] [Rp γ] [Rp δ] [Flat α] [Flat β] [Flat γ] [Flat δ] : Flat (T4 α β γ δ) := ⟨fun e ⟨a, u1, u2, u3, u4, h, s, p1, p2, p3, p4⟩ => ⟨a, u1, u2, u3, u4, h, sqt_flat e s, Flat.flat e p1, Flat.flat e p2, Flat.flat e p3, Flat.flat e p4⟩⟩
theorem pr_flat {α : Type} [Rp α] [Flat α] {K : Fg} {B B' : Hp} (e : ExT B B') : ∀ {vs : List V} {xs : List α}, Paired (rp K B) vs xs → Paired (rp K B') vs xs
  | _, _, .nil => .nil
  | _, _, .cons r t => .cons (Flat.flat e r) (pr_flat e t)
/-- B without W's places -/
def less (B W : Hp) : Hp := fun a => match W a with
  | some _ => none
  | none => B a
theorem less_ex {B W : Hp} : Ex (less B W) B := fun a o h => by
  unfold less at h
  split at h
  · cases h
  · exact h
theorem less_in {B W : Hp} {a : Addr} (h : W a = none) : less B W a = B a := by
  unfold less
  rw [h]
theorem less_out {B W : Hp} {a : Addr} (h : W a ≠ none) : less B W a = none := by
  obtain ⟨o, q⟩ := nn_ex h
  unfold less
  rw [q]
section
variable {K : Fg} {σ : L2.St} {B H B' H' : Hp} {te ta tb tc : TE} {tt tu : TT} {tas : TA} {α β γ τ ρ S S' S1 S2 : Type} {P : Ow S} {P' : Ow S'} {R : Ow S1}
theorem view_back {W B1 H1 B2 H2 : Hp} {s : S} [OwOk P] (e : Ex B1 H1) (w : Ex W H1) (d : Dj W B1) (p : P W B1 s) (g : Gr noM (uni W B1) H1 B2 H2) : Sw W B1 H1 W (less B2 W) H2 ∧ P W (less B2 W) s ∧ ExT B2 (less B2 W) := by
  have eb : Ex B1 (less B2 W) := fun a o h => by
    have n : W a = none := by
      cases q : W a with
      | none => rfl
      | some o' =>
        have := d a (nn q)
        rw [h] at this
        cases this
    rw [less_in n]
    exact g.b a o (by rw [uni_r n]; exact h)
  refine ⟨⟨⟨e, eb, fun a o m h => g.exH a o h, less_ex.trans g.e, fun a h n => ?_, g.k⟩, w.trans g.exH, fun a h => less_out h, fun a h => .inl h⟩, OwOk.mono eb p, fun a o h hp => ?_⟩
  · cases q : W a with
    | some o => exact less_out (nn q)
    | none =>
      rw [less_in q]
      exact g.n a h (by rw [uni_r q]; exact n)
  · cases q : W a with
    | none =>
      rw [less_in q]
      exact h
    | some o' =>
      have := OwOk.nt p q
      have h2 : B2 a = some o' := g.b a o' (uni_l q)
      rw [h] at h2
      cases h2
      rw [hp] at this
      cases this
/-- what reads one's own and changes nothing -/
theorem cs_view [Rp α] [Flat α] [OwOk P] {m : S → Option α} (h : ∀ W1 B1 s, Ex B B1 → Dj W1 B1 → P W1 B1 s → Cp K te σ (uni W1 B1) (m s)) : Cs K P te σ B (fun s => (m s).bind fun x => some (x, s)) := fun B1 H1 W s b e w d p x s' em Q q => by
  obtain ⟨y, e1, e2⟩ := bd_some em
  cases e2
  refine h W B1 s b d p _ H1 (Ex.refl _) (ex_uni w e) x e1 Q fun v B2 H2 g hv => ?_
  obtain ⟨sw, p2, et⟩ := view_back e w d p g
  exact q v _ H2 W sw p2 (Flat.flat et hv)
theorem cst_view [OwOk P] {m : S → Option Bool} (h : ∀ W1 B1 s, Ex B B1 → Dj W1 B1 → P W1 B1 s → Ct tt σ (uni W1 B1) (m s)) : Cst P tt σ B (fun s => (m s).bind fun x => some (x, s)) := fun B1 H1 W s b e w d p x s' em Q q => by
  obtain ⟨y, e1, e2⟩ := bd_some em
  cases e2
  refine h W B1 s b d p _ H1 (Ex.refl _) (ex_uni w e) x e1 Q fun B2 H2 g => ?_
  obtain ⟨sw, p2, et⟩ := view_back e w d p g
  exact q _ H2 W sw p2
theorem cso_view [Rp α] [Flat α] [OwOk P] {m : S → Option (List α)} (h : ∀ W1 B1 s, Ex B B1 → Dj W1 B1 → P W1 B1 s → Co K te σ (uni W1 B1) (m s)) : Cso K P te σ B (fun s => (m s).bind fun x => some (x, s)) := fun B1 H1 W s b e w d p x s' em Q q => by
  obtain ⟨y, e1, e2⟩ := bd_some em
  cases e2
  refine h W B1 s b d p _ H1 (Ex.refl _) (ex_uni w e) x e1 Q fun a vs B2 H2 g f n hp pr => ?_
  obtain ⟨sw, p2, et⟩ := view_back e w d p g
  have hw : W a = none := by
    cases hh : W a with
    | none => rfl
    | some o =>
      rw [w a o hh] at f
      cases f
  exact q a vs _ H2 W sw p2 f (by rw [less_in hw]; exact n) hw hp (pr_flat et pr)
/-- a list of one's own, seen as known -/
theorem ol_rp [Rp α] {a : Addr} {get : S → List α} {put : S → List α → S} {W : Hp} {s : S} (l : Ln P (OwL K a) get put) (p : P W B s) (d : Dj W B) : rp K (uni W B) (.ref a) (get s) := by
  obtain ⟨V1, V2, hV, dV, ⟨vs, hv, pr⟩, _⟩ := l.open_ W B s p
  subst hV hv
  exact ⟨a, vs, rfl, uni_l (uni_l sing_at), pr_mono (ex_uni_r d) pr⟩
/-! ### new lists -/
theorem co_nil [Rp α] : Co K (tLst tNil) σ B (some ([] : List α)) := fun B1 H1 b e xs em Q q => by
  cases em
  refine ⟨by show 0 ≤ sizeLine; decide, fun p hp => ?_⟩
  exact q p [] B1 _ (Gr.newM e hp) hp (e.none hp) upd_same .nil
/-- items of one kind -/
inductive Cl {α : Type} [Rp α] (K : Fg) (σ : L2.St) (B : Hp) : TA → Option (List α) → Prop where
  | nil : Cl K σ B tNil (some [])
  | cons {ta : TE} {tas : TA} {m1 : Option α} {m2 : Option (List α)} : Cp K ta σ B m1 → Cl K σ B tas m2 → Cl K σ B (tCons ta tas) (o2 m1 m2 fun x y => some (x :: y))
theorem Cl.run [Rp α] {ta : TA} {m : Option (List α)} (h : Cl K σ B ta m) : ∀ B1 H1, Ex B B1 → Ex B1 H1 → ∀ xs, m = some xs → ∀ Q : List V → Hp → Prop, (∀ vs B2 H2, Gr noM B1 H1 B2 H2 → Paired (rp K B2) vs xs → Q vs H2) → ta σ H1 Q := by
  induction h with
  | nil =>
    intro B1 H1 b e xs em Q q
    cases em
    exact q [] B1 H1 (Gr.refl e) .nil
  | cons h1 h2 ih =>
    intro B1 H1 b e xs em Q q
    obtain ⟨x, y, e1, e2, e3⟩ := o2_some em
    cases e3
    refine h1 B1 H1 b e x e1 _ fun v B2 H2 g2 hv => ?_
    refine ih B2 H2 (b.trans g2.b) g2.e y e2 _ fun vs B3 H3 g3 hp => ?_
    exact q (v :: vs) B3 H3 (g2.trans g3) (.cons (Rp.mono g3.b hv) hp)
def plst {α : Type} (xs : List α) : Option (List α) := if xs.length < 1000000 then some xs else none
theorem co_lst [Rp α] {ta : TA} {m : Option (List α)} (h : Cl K σ B ta m) : Co K (tLst ta) σ B (m.bind plst) := fun B1 H1 b e xs em Q q => by
  obtain ⟨ys, e1, e2⟩ := bd_some em
  obtain ⟨hl, e2⟩ := if_some e2
  subst e2
  refine h.run B1 H1 b e ys e1 _ fun vs B2 H2 g2 hp => ⟨?_, fun p np => ?_⟩
  · have := pr_len hp
    exact Nat.le_trans (show vs.length ≤ 1000000 by omega) (by decide)
  · exact q p vs B2 _ (g2.trans (Gr.newM g2.e np)) (g2.fresh np) (g2.e.none np) upd_same hp
/-- slices -/
def cut {α : Type} (xs : List α) (lo hi : Option Int) : List α := (xs.drop (HT.sIx xs.length 0 lo)).take (HT.sIx xs.length xs.length hi - HT.sIx xs.length 0 lo)
def Cpo (to : TO) (σ : L2.St) (B : Hp) (m : Option (Option Int)) : Prop := ∀ B1 H1, Ex B B1 → Ex B1 H1 → ∀ x, m = some x → ∀ Q : Option Int → Hp → Prop, (∀ B2 H2, Gr noM B1 H1 B2 H2 → Q x H2) → to σ H1 Q
theorem cpo_none : Cpo tNoPart σ B (some none) := fun B1 H1 b e x em Q q => by
  cases em
  exact q B1 H1 (Gr.refl e)
theorem cpo_some {m : Option Int} (h : Cp K te σ B m) : Cpo (tPart te) σ B (m.bind fun x => some (some x)) := fun B1 H1 b e x em Q q => by
  obtain ⟨y, e1, e2⟩ := bd_some em
  cases e2
  refine h B1 H1 b e y e1 _ fun v B2 H2 g2 hv => ⟨y, hv, q B2 H2 g2⟩
theorem co_slice [Rp α] {tl th : TO} {m : Option (List α)} {m1 m2 : Option (Option Int)} (h : Cp K te σ B m) (h1 : Cpo tl σ B m1) (h2 : Cpo th σ B m2) : Co K (tSl (rSlL K) te tl th) σ B (m.bind fun xs => m1.bind fun lo => m2.bind fun hi => some (cut xs lo hi)) := fun B1 H1 b e ys em Q q => by
  obtain ⟨xs, e1, em⟩ := bd_some em
  obtain ⟨lo, e2, em⟩ := bd_some em
  obtain ⟨hi, e3, em⟩ := bd_some em
  cases em
  refine h B1 H1 b e xs e1 _ fun v B2 H2 g2 hv => ?_
  refine h1 B2 H2 (b.trans g2.b) g2.e lo e2 _ fun B3 H3 g3 => ?_
  refine h2 B3 H3 (b.trans (g2.trans g3).b) g3.e hi e3 _ fun B4 H4 g4 => ?_
  obtain ⟨a, vs, rfl, hs, hp⟩ := hv
  refine ⟨a, vs, rfl, sq_lst (g4.e _ _ ((g3.trans g4).b _ _ hs)), fun p np => ?_⟩
  have G := (g2.trans g3).trans g4
  refine q p _ B4 _ (G.trans (Gr.newM g4.e np)) (G.fresh np) (g4.e.none np) upd_same ?_
  unfold cutV cut
  rw [pr_len hp]
  exact pr_mono (g3.trans g4).b (pr_take _ (pr_drop _ hp))
theorem co_cat [Rp α] {m1 m2 : Option (List α)} (h1 : Cp K ta σ B m1) (h2 : Cp K tb σ B m2) : Co K (tOp rCat ta tb) σ B (m1.bind fun x => m2.bind fun y => plst (x ++ y)) := fun B1 H1 b e zs em Q q => by
  obtain ⟨xs, e1, em⟩ := bd_some em
  obtain ⟨ys, e2, em⟩ := bd_some em
  obtain ⟨hl, em⟩ := if_some em
  subst em
  refine h1 B1 H1 b e xs e1 _ fun v B2 H2 g2 hv => ?_
  refine h2 B2 H2 (b.trans g2.b) g2.e ys e2 _ fun u B3 H3 g3 hu => ?_
  obtain ⟨a, vs, rfl, ha, pa⟩ := hv
  obtain ⟨c, us, rfl, hc, pc⟩ := hu
  have l1 := pr_len pa
  have l2 := pr_len pc
  rw [List.length_append] at hl
  refine ⟨a, c, vs, us, rfl, rfl, g3.e _ _ (g3.b _ _ ha), g3.e _ _ hc, Nat.le_trans (show vs.length + us.length ≤ 1000000 by omega) (by decide), fun p np => ?_⟩
  have G := g2.trans g3
  exact q p _ B3 _ (G.trans (Gr.newM g3.e np)) (G.fresh np) (g3.e.none np) upd_same (pr_app (pr_mono g3.b pa) pc)
/-! ### comprehensions -/
def lcF {α β : Type} (t : α → Option Bool) (f : α → Option β) : List α → Option (List β)
  | [] => some []
  | x :: xs => (t x).bind fun b => if b = true then (f x).bind fun y => (lcF t f xs).bind fun ys => some (y :: ys) else lcF t f xs
def pbig {α : Type} (xs : List α) : Option (List α) := if xs.length < 1000000 then some xs else none
theorem lcF_len {t : α → Option Bool} {f : α → Option β} : ∀ {xs : List α} {ys : List β}, lcF t f xs = some ys → ys.length ≤ xs.length
  | [], ys, h => by cases h; exact Nat.le_refl _
  | x :: xs, ys, h => by
    obtain ⟨b, e1, h⟩ := bd_some (show ((t x).bind fun b => if b = true then (f x).bind fun y => (lcF t f xs).bind fun ys => some (y :: ys) else lcF t f xs) = some ys from h)
    cases b with
    | true =>
      obtain ⟨y, e2, h⟩ := bd_some h
      obtain ⟨zs, e3, h⟩ := bd_some h
      cases h
      have := lcF_len e3
      simp only [List.length_cons]
      omega
    | false =>
      have := lcF_len h
      simp only [List.length_cons]
      omega
/-- the loop of a comprehension, whatever it walks -/
theorem lc_run {J : It} {xs : List α} [Rp α] [Rp β] {t : α → Option Bool} {f : α → Option β} {ys : List β} {g : TG} {vs : List Nat} {B1 H1 : Hp} {Q : VK} (hl : xs.length < 1000000)
    (hgo : ∀ i B H, Ex B1 B → Ex B H → i < xs.length → J.go i H) (hst : ∀ i B H, Ex B1 B → Ex B H → xs.length ≤ i → J.stop i H)
    (hy : ∀ i x B H v H', Ex B1 B → Ex B H → xs[i]? = some x → J.yld i H v H' → ∃ B', Gr noM B H B' H' ∧ rp K B' v x)
    (hm : lcF t f xs = some ys) (e : Ex B1 H1)
    (hs : ∀ x B H v, Ex B1 B → Ex B H → rp K B v x → ∀ b, t x = some b → (b = true → ∃ y, f x = some y) →
      ∀ (Qy : VK) (Qn : Hp → Prop), (b = true → ∀ y, f x = some y → ∀ v2 B2 H2, Gr noM B H B2 H2 → rp K B2 v2 y → Qy v2 H2) → (b = false → ∀ B2 H2, Gr noM B H B2 H2 → Qn H2) →
      g v (wipe σ vs) H fun σ2 H2 => wipe σ2 vs = wipe σ vs ∧ tt σ2 H2 fun b H3 => if b = true then te σ2 H3 Qy else Qn H3)
    (hq : ∀ D us B2 H2, Gr noM B1 H1 B2 H2 → H1 D = none → B2 D = none → H2 D = some (.lst us) → Paired (rp K B2) us ys → Q (.ref D) H2) :
    ∀ D, H1 D = none → ∃ W : Nat → Nat → Hp → Prop, (∃ m, W 0 m (upd H1 D (.lst []))) ∧ ∀ i m H, W i m H → (J.stop i H ∧ Q (.ref D) H) ∨ (J.go i H ∧ ∃ Nx : Hp → Prop, (∀ H', Nx H' → ∃ m', m' < m ∧ W (i + 1) m' H') ∧
      ∀ x H', J.yld i H x H' → g x (wipe σ vs) H' fun σ2 H2 => wipe σ2 vs = wipe σ vs ∧ tt σ2 H2 fun b H3 => if b = true then te σ2 H3 fun y H4 => ∃ acc, H4 D = some (.lst acc) ∧ acc.length < sizeLine ∧ Nx (upd H4 D (.lst (acc ++ [y]))) else Nx H3) := by
  intro D nD
  refine ⟨fun i m H => m = xs.length - i ∧ i ≤ xs.length ∧ ∃ B us zs rs, Gr noM B1 H1 B H ∧ B D = none ∧ H D = some (.lst us) ∧ Paired (rp K B) us zs ∧ zs.length ≤ i ∧ lcF t f (xs.drop i) = some rs ∧ ys = zs ++ rs, ⟨_, rfl, Nat.zero_le _, B1, [], [], ys, Gr.newM e nD, e.none nD, upd_same, .nil, Nat.le_refl _, hm, rfl⟩, ?_⟩
  rintro i m H ⟨rfl, hi, B, us, zs, rs, G, nb, hD, pr, hz, hr, hys⟩
  by_cases hlt : i < xs.length
  · refine .inr ⟨hgo i B H G.b G.e hlt, fun H' => i + 1 ≤ xs.length ∧ ∃ B us zs rs, Gr noM B1 H1 B H' ∧ B D = none ∧ H' D = some (.lst us) ∧ Paired (rp K B) us zs ∧ zs.length ≤ i + 1 ∧ lcF t f (xs.drop (i + 1)) = some rs ∧ ys = zs ++ rs, fun H' h => ⟨xs.length - (i + 1), by omega, rfl, h.1, h.2⟩, fun v H' y => ?_⟩
    have hx : xs[i]? = some xs[i] := List.getElem?_eq_getElem hlt
    obtain ⟨B', g1, hv⟩ := hy i xs[i] B H v H' G.b G.e hx y
    have ed : xs.drop i = xs[i] :: xs.drop (i + 1) := List.drop_eq_getElem_cons hlt
    rw [ed] at hr
    obtain ⟨b, e1, hr⟩ := bd_some (show ((t xs[i]).bind fun b => if b = true then (f xs[i]).bind fun y => (lcF t f (xs.drop (i + 1))).bind fun ys => some (y :: ys) else lcF t f (xs.drop (i + 1))) = some rs from hr)
    have hex : b = true → ∃ y, f xs[i] = some y := fun eb => by
      subst eb
      obtain ⟨y1, e2, _⟩ := bd_some (show ((f xs[i]).bind fun y => (lcF t f (xs.drop (i + 1))).bind fun ys => some (y :: ys)) = some rs from hr)
      exact ⟨y1, e2⟩
    refine hs xs[i] B' H' v (G.b.trans g1.b) g1.e hv b e1 hex _ _ (fun eb y0 ey v2 B2 H2 g2 h2 => ?_) (fun eb B2 H2 g2 => ?_)
    · subst eb
      obtain ⟨y1, e2, hr⟩ := bd_some hr
      obtain ⟨rs', e3, hr⟩ := bd_some hr
      cases hr
      rw [ey] at e2
      cases e2
      have G2 := G.trans (g1.trans g2)
      have hD2 : H2 D = some (.lst us) := (g1.trans g2).exH D _ hD
      have nb2 : B2 D = none := (g1.trans g2).n D (nn hD) nb
      have hul := pr_len pr
      refine ⟨us, hD2, Nat.lt_of_lt_of_le (show us.length < 1000000 by omega) (by decide), hlt, B2, us ++ [v2], zs ++ [y0], rs', ?_, nb2, upd_same, pr_app (pr_mono (g1.trans g2).b pr) (.cons h2 .nil), ?_, e3, ?_⟩
      · refine ⟨G2.s, G2.b, fun a o m h => ?_, G2.e.mut nb2, G2.n, fun a h => ?_⟩
        · rw [upd_ne (ne_of_none h nD)]
          exact G2.h a o m h
        · by_cases ea : a = D
          · subst ea
            exact absurd nD h
          · rw [upd_ne ea]
            exact G2.k a h
      · simp only [List.length_append, List.length_cons, List.length_nil]
        omega
      · rw [hys, List.append_assoc]
        rfl
    · subst eb
      have G2 := G.trans (g1.trans g2)
      exact ⟨hlt, B2, us, zs, rs, G2, (g1.trans g2).n D (nn hD) nb, (g1.trans g2).exH D _ hD, pr_mono (g1.trans g2).b pr, Nat.le_trans hz (Nat.le_succ _), hr, hys⟩
  · have ed : xs.drop i = [] := List.drop_eq_nil_of_le (by omega)
    rw [ed] at hr
    cases hr
    rw [List.append_nil] at hys
    subst hys
    exact .inl ⟨hst i B H G.b G.e (by omega), hq D us B H G nD nb hD pr⟩
theorem tyes_ok {x : L2.St} {H : Hp} {Q : Bool → Hp → Prop} (h : Q true H) : tYes x H Q := h
/-- [f for x in a list if t] -/
theorem co_lcL [Rp α] [Rp β] {g : TG} {vs : List Nat} {mi : Option (List α)} {t : α → Option Bool} {f : α → Option β} (hc : Cp K ta σ B mi)
    (hs : ∀ x B1 v, Ex B B1 → rp K B1 v x → ∃ σ2, (∀ H (Q : L2.St → Hp → Prop), Ex B1 H → Q σ2 H → g v (wipe σ vs) H Q) ∧ wipe σ2 vs = wipe σ vs ∧ Ct tt σ2 B1 (t x) ∧ Cp K te σ2 B1 (f x)) :
    Co K (tLc (iList K ta) g tt te vs) σ B (mi.bind fun xs => (pbig xs).bind fun xs => lcF t f xs) := fun B1 H1 b e ys em Q q => by
  obtain ⟨xs, e1, em⟩ := bd_some em
  obtain ⟨xs', e2, em⟩ := bd_some em
  obtain ⟨hl, e2⟩ := if_some e2
  subst e2
  refine hc B1 H1 b e xs e1 _ fun v B2 H2 g2 hv => ?_
  obtain ⟨a, ws, rfl, hS, hp⟩ := hv
  have hlw := pr_len hp
  refine ⟨a, rfl, ⟨ws, sq_lst (g2.e _ _ hS)⟩, lc_run (K := K) (xs := xs) (B1 := B2) hl (fun i B H x1 x2 hi => itl_go (sq_lst ((x1.trans x2) _ _ hS)) (by omega)) (fun i B H x1 x2 hi => itl_stop (sq_lst ((x1.trans x2) _ _ hS)) (by omega))
    (fun i x B H v H' x1 x2 hxi y => ?_) em g2.e (fun x B H v x1 x2 hv bb tb hex Qy Qn hy hn => ?_) fun D us B3 H3 g3 f n hD pr => q D us B3 H3 (g2.trans g3) (g2.fresh f) n hD pr⟩
  · obtain ⟨eH, y⟩ := y
    subst eH
    obtain ⟨w, hw, hr⟩ := pr_get hp hxi
    have ew := y ws (sq_lst ((x1.trans x2) _ _ hS))
    rw [hw] at ew
    cases ew
    exact ⟨B, Gr.refl x2, Rp.mono x1 hr⟩
  · obtain ⟨σ2, hg, hw, ht, hf⟩ := hs x B v ((b.trans g2.b).trans x1) hv
    refine hg H _ x2 ⟨hw, ht B H (Ex.refl B) x2 _ tb _ fun B3 H3 g3 => ?_⟩
    cases bb with
    | true =>
      rw [if_pos rfl]
      obtain ⟨y, hfx⟩ := hex rfl
      exact hf B3 H3 g3.b g3.e y hfx _ fun v2 B4 H4 g4 h4 => hy rfl y hfx v2 B4 H4 (g3.trans g4) h4
    | false =>
      rw [if_neg Bool.false_ne_true]
      exact hn rfl B3 H3 g3
theorem ct_yes : Ct tYes σ B (some true) := fun B1 H1 b e x em Q q => by
  cases em
  exact q B1 H1 (Gr.refl e)
theorem co_lcR [Rp β] {g : TG} {vs : List Nat} {mi : Option Int} {t : Int → Option Bool} {f : Int → Option β} (hc : Cp K ta σ B mi)
    (hs : ∀ x B1 v, Ex B B1 → rp K B1 v x → ∃ σ2, (∀ H (Q : L2.St → Hp → Prop), Ex B1 H → Q σ2 H → g v (wipe σ vs) H Q) ∧ wipe σ2 vs = wipe σ vs ∧ Ct tt σ2 B1 (t x) ∧ Cp K te σ2 B1 (f x)) :
    Co K (tLc (iRng1 (tCons ta tNil)) g tt te vs) σ B (mi.bind fun n => (prange1 n).bind fun xs => (pbig xs).bind fun xs => lcF t f xs) := fun B1 H1 b e ys em Q q => by
  obtain ⟨n, e1, em⟩ := bd_some em
  obtain ⟨xs, e2, em⟩ := bd_some em
  obtain ⟨hb, e2⟩ := if_some e2
  subst e2
  obtain ⟨xs', e2, em⟩ := bd_some em
  obtain ⟨hl, e2⟩ := if_some e2
  subst e2
  refine hc B1 H1 b e n e1 _ fun v B2 H2 g2 hv => ?_
  cases (show v = .int n from hv)
  have hn := rangeL_len 0 n
  rw [Int.sub_zero] at hn
  refine ⟨n, rfl, (by omega), (by omega), lc_run (K := K) (xs := rangeL 0 n) (B1 := B2) hl (fun i B H x1 x2 hi => (by rw [hn] at hi; exact hi)) (fun i B H x1 x2 hi => (by rw [hn] at hi; exact hi))
    (fun i x B H v H' x1 x2 hxi y => ?_) em g2.e (fun x B H v x1 x2 hv bb tb hex Qy Qn hy hn => ?_) fun D us B3 H3 g3 f n hD pr => q D us B3 H3 (g2.trans g3) (g2.fresh f) n hD pr⟩
  · obtain ⟨eH, ev⟩ := itr_yld _ hxi y
    subst eH
    exact ⟨B, Gr.refl x2, ev⟩
  · obtain ⟨σ2, hg, hw, ht, hf⟩ := hs x B v ((b.trans g2.b).trans x1) hv
    refine hg H _ x2 ⟨hw, ht B H (Ex.refl B) x2 _ tb _ fun B3 H3 g3 => ?_⟩
    cases bb with
    | true =>
      rw [if_pos rfl]
      obtain ⟨y, hfx⟩ := hex rfl
      exact hf B3 H3 g3.b g3.e y hfx _ fun v2 B4 H4 g4 h4 => hy rfl y hfx v2 B4 H4 (g3.trans g4) h4
    | false =>
      rw [if_neg Bool.false_ne_true]
      exact hn rfl B3 H3 g3
end
end Cf

set_option Elab.async false
set_option linter.all false
set_option maxRecDepth 100000
set_option maxHeartbeats 4000000
namespace Cf
open PySem L2
open Rp (rp)
open RpL (rpl)
open Enc (enc)
/-! ### a part of one's own that becomes another -/
structure Lr {S' S : Type} (P' P'' : Ow S') (P Q : Ow S) (get : S' → S) (put : S' → S → S') : Prop where
  open_ : ∀ W B s', P' W B s' → ∃ W1 W2, W = uni W1 W2 ∧ Dj W1 W2 ∧ P W1 B (get s') ∧ ∀ W1' B' x, Ex B B' → Dj W1' W2 → Q W1' B' x → P'' (uni W1' W2) B' (put s' x)
section
variable {K : Fg} {σ : L2.St} {B H B' H' : Hp} {te ta tb tc : TE} {tt tu : TT} {tas : TA} {α β γ τ ρ S S' S1 S2 : Type} {P : Ow S} {P' : Ow S'} {R : Ow S1}
theorem lr_id {P Q : Ow S} : Lr P Q P Q (fun s => s) (fun _ x => x) := ⟨fun W B s p => ⟨W, emp, uni_emp.symm, fun a _ => rfl, p, fun W1' B' x _ _ q => by rw [uni_emp]; exact q⟩⟩
theorem lr_l {P Q : Ow S} [OwOk R] : Lr (star P R) (star Q R) P Q (fun s => s.1) (fun s x => (x, s.2)) := ⟨fun W B s ⟨W1, W2, h, d, p, r⟩ => ⟨W1, W2, h, d, p, fun W1' B' x e dj q => ⟨W1', W2, rfl, dj, q, OwOk.mono e r⟩⟩⟩
theorem lr_r {R Q : Ow S1} [OwOk P] : Lr (star P R) (star P Q) R Q (fun s => s.2) (fun s x => (s.1, x)) := ⟨fun W B s ⟨W1, W2, h, d, p, r⟩ => ⟨W2, W1, h.trans (uni_comm d), d.symm, r, fun W1' B' x e dj q => ⟨W1, W1', uni_comm dj, dj.symm, OwOk.mono e p, q⟩⟩⟩
theorem Lr.comp {P P3 : Ow S} {P1 P4 : Ow S1} {P2 P5 : Ow S2} {g1 : S → S1} {p1 : S → S1 → S} {g2 : S1 → S2} {p2 : S1 → S2 → S1} (l : Lr P P3 P1 P4 g1 p1) (m : Lr P1 P4 P2 P5 g2 p2) : Lr P P3 P2 P5 (fun s => g2 (g1 s)) (fun s x => p1 s (p2 (g1 s) x)) := ⟨fun W B s p => by
  obtain ⟨W1, W2, h, d, q, put⟩ := l.open_ W B s p
  obtain ⟨W3, W4, h', d', q', put'⟩ := m.open_ W1 B _ q
  subst h'
  refine ⟨W3, uni W4 W2, by rw [h, uni_assoc], fun a z => ?_, q', fun W1' B' x e dj px => ?_⟩
  · cases hh : uni W4 W2 a with
    | none => rfl
    | some o =>
      rcases uni_dom (nn hh) with y | y
      · exact absurd (d' a z) y
      · exact absurd (d a (uni_dom_l z)) y
  · have dj4 : Dj W1' W4 := fun a z => by
      cases hh : W4 a with
      | none => rfl
      | some o => exact absurd (dj a z) (uni_dom_l (nn hh))
    have dj2 : Dj W1' W2 := fun a z => by
      cases hh : W2 a with
      | none => rfl
      | some o =>
        have dw : Dj W4 W2 := dj_r d' d
        exact absurd (dj a z) (uni_dom_r dw (nn hh))
    rw [← uni_assoc]
    exact put _ _ _ e (dj_uni dj2 (dj_r d' d)) (put' _ _ _ e dj4 px)⟩
end
/-! ### == of data -/
class Eqv (α : Type) extends Enc α where
  deep : Nat
  dep : ∀ x : α, (enc x).depth ≤ deep
  dec : DecidableEq α
  eqv : ∀ x y : α, PyData.eqv (enc x) (enc y) = true ↔ x = y
  pl : ∀ x : α, (enc x).plain = true
class Eqn (α : Type) extends Eqv α where
  nn : ∀ y : α, PyData.eqv .none (enc y) = false ∧ PyData.eqv (enc y) .none = false
instance : Eqn Int where
  pl := fun _ => rfl
  deep := 0
  dep := fun _ => Nat.le_refl _
  dec := inferInstance
  eqv := fun x y => by show (x == y) = true ↔ _; simp
  nn := fun _ => ⟨rfl, rfl⟩
instance : Eqn Bool where
  pl := fun _ => rfl
  deep := 0
  dep := fun _ => Nat.le_refl _
  dec := inferInstance
  eqv := fun x y => by show (x == y) = true ↔ _; simp
  nn := fun _ => ⟨rfl, rfl⟩
instance : Eqn Str where
  pl := fun _ => rfl
  deep := 0
  dep := fun _ => Nat.le_refl _
  dec := inferInstance
  eqv := fun x y => by show (x == y) = true ↔ _; simp
  nn := fun _ => ⟨rfl, rfl⟩
instance : Eqv Unit where
  pl := fun _ => rfl
  deep := 0
  dep := fun _ => Nat.le_refl _
  dec := inferInstance
  eqv := fun x y => ⟨fun _ => rfl, fun _ => rfl⟩
instance {α : Type} [Eqn α] : Eqv (Option α) where
  pl := fun x => by
    cases x with
    | none => rfl
    | some y => exact Eqv.pl y
  deep := Eqv.deep α
  dep := fun x => by
    cases x with
    | none => exact Nat.zero_le _
    | some y => exact Eqv.dep y
  dec := by
    have : DecidableEq α := Eqv.dec
    infer_instance
  eqv := fun x y => by
    cases x with
    | none => cases y with
      | none => exact ⟨fun _ => rfl, fun _ => rfl⟩
      | some j =>
        constructor
        · intro h
          rw [show PyData.eqv (enc (none : Option α)) (enc (some j)) = PyData.eqv .none (enc j) from rfl, (Eqn.nn j).1] at h
          cases h
        · intro h
          cases h
    | some i => cases y with
      | none =>
        constructor
        · intro h
          rw [show PyData.eqv (enc (some i)) (enc (none : Option α)) = PyData.eqv (enc i) .none from rfl, (Eqn.nn i).2] at h
          cases h
        · intro h
          cases h
      | some j => exact (Eqv.eqv i j).trans ⟨fun h => by rw [h], fun h => Option.some.inj h⟩
theorem eqvAll_iff {α : Type} [Eqv α] : ∀ xs ys : List α, PyData.eqvAll (xs.map enc) (ys.map enc) = true ↔ xs = ys
  | [], [] => ⟨fun _ => rfl, fun _ => rfl⟩
  | [], _ :: _ => ⟨(fun h => nomatch h), (fun h => nomatch h)⟩
  | _ :: _, [] => ⟨(fun h => nomatch h), (fun h => nomatch h)⟩
  | x :: xs, y :: ys => by
    show (PyData.eqv (enc x) (enc y) && PyData.eqvAll (xs.map enc) (ys.map enc)) = true ↔ _
    rw [Bool.and_eq_true, Eqv.eqv, eqvAll_iff xs ys, List.cons.injEq]
theorem depthAll_le {α : Type} [Eqv α] : ∀ xs : List α, PyData.depthAll (xs.map enc) ≤ Eqv.deep α
  | [] => Nat.zero_le _
  | x :: xs => Nat.max_le.mpr ⟨Eqv.dep x, depthAll_le xs⟩
theorem plainAll_map {α : Type} [Eqv α] : ∀ xs : List α, PyData.plainAll (xs.map enc) = true
  | [] => rfl
  | x :: xs => by
    show ((enc x).plain && PyData.plainAll (xs.map enc)) = true
    rw [Eqv.pl x, plainAll_map xs]
    rfl
instance {α : Type} [Eqv α] : Eqn (List α) where
  pl := plainAll_map
  deep := Eqv.deep α + 1
  dep := fun xs => Nat.succ_le_succ (depthAll_le xs)
  dec := by
    have : DecidableEq α := Eqv.dec
    infer_instance
  eqv := eqvAll_iff
  nn := fun _ => ⟨rfl, rfl⟩
theorem and3 {a b : Bool} : (a && (b && true)) = true ↔ a = true ∧ b = true := by simp
instance {α β : Type} [Eqv α] [Eqv β] : Eqn (α × β) where
  pl := fun x => by
    show ((enc x.1).plain && ((enc x.2).plain && true)) = true
    rw [Eqv.pl, Eqv.pl]
    rfl
  deep := max (Eqv.deep α) (Eqv.deep β) + 1
  dep := fun x => Nat.succ_le_succ (by
    show max (enc x.1).depth (max (enc x.2).depth 0) ≤ _
    have h1 := Eqv.dep x.1
    have h2 := Eqv.dep x.2
    omega)
  dec := by
    have : DecidableEq α := Eqv.dec
    have : DecidableEq β := Eqv.dec
    infer_instance
  eqv := fun x y => by
    show (PyData.eqv (enc x.1) (enc y.1) && (PyData.eqv (enc x.2) (enc y.2) && true)) = true ↔ _
    rw [and3, Eqv.eqv, Eqv.eqv]
    exact ⟨fun ⟨a, b⟩ => Prod.ext a b, fun h => by rw [h]; exact ⟨rfl, rfl⟩⟩
  nn := fun _ => ⟨rfl, rfl⟩
instance {α β γ : Type} [Eqv α] [Eqv β] [Eqv γ] : Eqn (T3 α β γ) where
  pl := fun x => by
    show ((enc x.a).plain && ((enc x.b).plain && ((enc x.c).plain && true))) = true
    rw [Eqv.pl, Eqv.pl, Eqv.pl]
    rfl
  deep := max (Eqv.deep α) (max (Eqv.deep β) (Eqv.deep γ)) + 1
  dep := fun x => Nat.succ_le_succ (by
    show max (enc x.a).depth (max (enc x.b).depth (max (enc x.c).depth 0)) ≤ _
    have h1 := Eqv.dep x.a
    have h2 := Eqv.dep x.b
    have h3 := Eqv.dep x.c
    omega)
  dec := by
    have : DecidableEq α := Eqv.dec
    have : DecidableEq β := Eqv.dec
    have : DecidableEq γ := Eqv.dec
    infer_instance
  eqv := fun x y => by
    show (PyData.eqv (enc x.a) (enc y.a) && (PyData.eqv (enc x.b) (enc y.b) && (PyData.eqv (enc x.c) (enc y.c) && true))) = true ↔ _
    rw [Bool.and_eq_true, and3, Eqv.eqv, Eqv.eqv, Eqv.eqv]
    cases x
    cases y
    simp
  nn := fun _ => ⟨rfl, rfl⟩
instance {α β γ δ : Type} [Eqv α] [Eqv β] [Eqv γ] [Eqv δ] : Eqn (T4 α β γ δ) where
  pl := fun x => by
    show ((enc x.a).plain && ((enc x.b).plain && ((enc x.c).plain && ((enc x.d).plain && true)))) = true
    rw [Eqv.pl, Eqv.pl, Eqv.pl, Eqv.pl]
    rfl
  deep := max (Eqv.deep α) (max (Eqv.deep β) (max (Eqv.deep γ) (Eqv.deep δ))) + 1
  dep := fun x => Nat.succ_le_succ (by
    show max (enc x.a).depth (max (enc x.b).depth (max (enc x.c).depth (max (enc x.d).depth 0))) ≤ _
    have h1 := Eqv.dep x.a
    have h2 := Eqv.dep x.b
    have h3 := Eqv.dep x.c
    have h4 := Eqv.dep x.d
    omega)
  dec := by
    have : DecidableEq α := Eqv.dec
    have : DecidableEq β := Eqv.dec
    have : DecidableEq γ := Eqv.dec
    have : DecidableEq δ := Eqv.dec
    infer_instance
  eqv := fun x y => by
    show (PyData.eqv (enc x.a) (enc y.a) && (PyData.eqv (enc x.b) (enc y.b) && (PyData.eqv (enc x.c) (enc y.c) && (PyData.eqv (enc x.d) (enc y.d) && true)))) = true ↔ _
    rw [Bool.and_eq_true, Bool.and_eq_true, and3, Eqv.eqv, Eqv.eqv, Eqv.eqv, Eqv.eqv]
    cases x
    cases y
    simp
  nn := fun _ => ⟨rfl, rfl⟩
/-! a data == b -/
def rEqP (K : Fg) : R2 := fun x y H Q => ∃ d e, Dp K H x d ∧ Dp K H y e ∧ d.plain = true ∧ e.plain = true ∧ d.depth ≤ 60 ∧ Q (.bl (PyData.eqv d e)) H
def rNeP (K : Fg) : R2 := fun x y H Q => ∃ d e, Dp K H x d ∧ Dp K H y e ∧ d.plain = true ∧ e.plain = true ∧ d.depth ≤ 60 ∧ Q (.bl (!PyData.eqv d e)) H
theorem op_eqP {X : Cx} (hu : X.A.units + 64 < cLine) : OpR X (compareOp .Eq) (rEqP X.K) := by
  intro pins s σ H x y v u Q I rx ry h
  obtain ⟨d, e, hd, he, sd, se, hl, q⟩ := h
  obtain ⟨as, r1⟩ := Dp.reads I d x v hd rx
  obtain ⟨bs, r2⟩ := Dp.reads I e y u he ry
  exact SeqAt.eq_plain r1 r2 sd se (by omega) ⟨.bl _, H, I, rfl, q⟩
theorem op_neP {X : Cx} (hu : X.A.units + 64 < cLine) : OpR X (compareOp .NotEq) (rNeP X.K) := by
  intro pins s σ H x y v u Q I rx ry h
  obtain ⟨d, e, hd, he, sd, se, hl, q⟩ := h
  obtain ⟨as, r1⟩ := Dp.reads I d x v hd rx
  obtain ⟨bs, r2⟩ := Dp.reads I e y u he ry
  exact SeqAt.ne_plain r1 r2 sd se (by omega) ⟨.bl _, H, I, rfl, q⟩
theorem eqvD {α : Type} [Eqv α] [DecidableEq α] (x y : α) : PyData.eqv (enc x) (enc y) = decide (x = y) := by
  rw [Bool.eq_iff_iff, decide_eq_true_eq]
  exact Eqv.eqv x y
theorem r2_eqD {α : Type} {K : Fg} [i : Eqv α] [d : DecidableEq α] (hd : Eqv.deep α ≤ 60) : R2p K (rEqP K) (fun x y : α => some (decide (x = y))) := fun B H x y z vx vy e hx hy ez Q q => by
  cases ez
  refine ⟨enc x, enc y, dp_mono e _ _ (Enc.to hx), dp_mono e _ _ (Enc.to hy), Eqv.pl x, Eqv.pl y, Nat.le_trans (Eqv.dep x) hd, q _ B H (Gr.refl e) ?_⟩
  exact congrArg V.bl (eqvD x y)
theorem r2_neD {α : Type} {K : Fg} [i : Eqv α] [d : DecidableEq α] (hd : Eqv.deep α ≤ 60) : R2p K (rNeP K) (fun x y : α => some (!decide (x = y))) := fun B H x y z vx vy e hx hy ez Q q => by
  cases ez
  refine ⟨enc x, enc y, dp_mono e _ _ (Enc.to hx), dp_mono e _ _ (Enc.to hy), Eqv.pl x, Eqv.pl y, Nat.le_trans (Eqv.dep x) hd, q _ B H (Gr.refl e) ?_⟩
  exact congrArg (fun b => V.bl (!b)) (eqvD x y)
/-! x in a list of data -/
def rInP (K : Fg) : R2 := fun x c H Q => ∃ d ds, Dp K H x d ∧ Dp K H c (.list ds) ∧ d.plain = true ∧ PyData.plainAll ds = true ∧ d.depth ≤ 60 ∧ Q (.bl (ds.any fun y => PyData.eqv y d)) H
def rNinP (K : Fg) : R2 := fun x c H Q => ∃ d ds, Dp K H x d ∧ Dp K H c (.list ds) ∧ d.plain = true ∧ PyData.plainAll ds = true ∧ d.depth ≤ 60 ∧ Q (.bl (!ds.any fun y => PyData.eqv y d)) H
theorem op_inP {X : Cx} (hu : X.A.units + 64 < cLine) : OpR X (compareOp .In) (rInP X.K) := by
  intro pins s σ H x y v u Q I rx ry h
  obtain ⟨d, ds, hd, he, sd, se, hl, q⟩ := h
  obtain ⟨as, r1⟩ := Dp.reads I d x v hd rx
  obtain ⟨bs, r2⟩ := Dp.reads I _ y u he ry
  exact SeqAt.in_list_data r2 r1 se sd (by omega) ⟨.bl _, H, I, rfl, q⟩
theorem op_ninP {X : Cx} (hu : X.A.units + 64 < cLine) : OpR X (compareOp .NotIn) (rNinP X.K) := by
  intro pins s σ H x y v u Q I rx ry h
  obtain ⟨d, ds, hd, he, sd, se, hl, q⟩ := h
  obtain ⟨as, r1⟩ := Dp.reads I d x v hd rx
  obtain ⟨bs, r2⟩ := Dp.reads I _ y u he ry
  exact SeqAt.notIn_list_data r2 r1 se sd (by omega) ⟨.bl _, H, I, rfl, q⟩
def umem {α : Type} [DecidableEq α] (x : α) (xs : List α) : Bool := decide (x ∈ xs)
theorem any_eqv {α : Type} [Eqv α] [DecidableEq α] (x : α) : ∀ xs : List α, ((xs.map enc).any fun y => PyData.eqv y (enc x)) = decide (x ∈ xs)
  | [] => rfl
  | y :: ys => by
    rw [List.map_cons, List.any_cons, any_eqv x ys, eqvD y x, Bool.eq_iff_iff]
    simp only [Bool.or_eq_true, decide_eq_true_eq, List.mem_cons]
    exact ⟨fun h => h.elim (fun h => .inl h.symm) .inr, fun h => h.elim (fun h => .inl h.symm) .inr⟩
theorem r2_inD {α : Type} {K : Fg} [i : Eqv α] [d : DecidableEq α] (hd : Eqv.deep α ≤ 60) : R2p K (rInP K) (fun (x : α) (xs : List α) => some (umem x xs)) := fun B H x y z vx vy e hx hy ez Q q => by
  cases ez
  refine ⟨enc x, y.map enc, dp_mono e _ _ (Enc.to hx), dp_mono e _ _ (Enc.to hy), Eqv.pl x, plainAll_map y, Nat.le_trans (Eqv.dep x) hd, q _ B H (Gr.refl e) ?_⟩
  exact congrArg V.bl (any_eqv x y)
theorem r2_ninD {α : Type} {K : Fg} [i : Eqv α] [d : DecidableEq α] (hd : Eqv.deep α ≤ 60) : R2p K (rNinP K) (fun (x : α) (xs : List α) => some (!umem x xs)) := fun B H x y z vx vy e hx hy ez Q q => by
  cases ez
  refine ⟨enc x, y.map enc, dp_mono e _ _ (Enc.to hx), dp_mono e _ _ (Enc.to hy), Eqv.pl x, plainAll_map y, Nat.le_trans (Eqv.dep x) hd, q _ B H (Gr.refl e) ?_⟩
  exact congrArg (fun b => V.bl (!b)) (any_eqv x y)
end Cf

set_option Elab.async false
set_option linter.all false
set_option maxRecDepth 100000
set_option maxHeartbeats 4000000
namespace Cf
open PySem L2
open Rp (rp)
open RpL (rpl)
open Enc (enc)
section
variable {K : Fg} {σ : L2.St} {B H B' H' : Hp} {te ta tb tc : TE} {tt tu : TT} {tas : TA} {α β γ δ τ ρ S S' S1 S2 : Type} {P : Ow S} {P' : Ow S'} {R : Ow S1}
/-! ### more expressions -/
theorem Cs.opt [Rp α] {m : S → Option (α × S)} (h : Cs K P te σ B m) : Cs K P te σ B (fun s => (m s).bind fun p => some (some p.1, p.2)) := fun B1 H1 W s b e w d p x s' em Q q => by
  obtain ⟨⟨y, s1⟩, e1, em⟩ := bd_some em
  cases em
  exact h B1 H1 W s b e w d p y _ e1 Q q
theorem cs_notV {m : S → Option (Bool × S)} (h : Cs K P ta σ B m) : Cs K P (tNotV ta) σ B (fun s => (m s).bind fun p => some (!p.1, p.2)) := fun B1 H1 W s b e w d p x s' em Q q => by
  obtain ⟨⟨y, s1⟩, e1, em⟩ := bd_some em
  cases em
  exact h B1 H1 W s b e w d p y _ e1 _ fun v B2 H2 W2 sw p2 hv => ⟨y, hv, q _ B2 H2 W2 sw p2 rfl⟩
theorem cs_andV {m1 m2 : S → Option (Bool × S)} (h1 : Cs K P ta σ B m1) (h2 : Cs K P tb σ B m2) : Cs K P (tAndV ta tb) σ B (fun s => (m1 s).bind fun p => if p.1 = true then m2 p.2 else some (false, p.2)) := fun B1 H1 W s b e w d p z s' em Q q => by
  obtain ⟨⟨a, s1⟩, e1, em⟩ := bd_some em
  refine h1 B1 H1 W s b e w d p a s1 e1 _ fun v B2 H2 W2 sw p2 hv => ⟨a, hv, ?_⟩
  cases a with
  | true => exact h2 B2 H2 W2 s1 (b.trans sw.g.b) sw.g.e sw.w sw.d p2 z s' em Q fun v B3 H3 W3 sw3 p3 h3 => q v B3 H3 W3 (sw.trans sw3) p3 h3
  | false =>
    cases em
    exact q _ B2 H2 W2 sw p2 rfl
theorem cs_orV {m1 m2 : S → Option (Bool × S)} (h1 : Cs K P ta σ B m1) (h2 : Cs K P tb σ B m2) : Cs K P (tOrV ta tb) σ B (fun s => (m1 s).bind fun p => if p.1 = true then some (true, p.2) else m2 p.2) := fun B1 H1 W s b e w d p z s' em Q q => by
  obtain ⟨⟨a, s1⟩, e1, em⟩ := bd_some em
  refine h1 B1 H1 W s b e w d p a s1 e1 _ fun v B2 H2 W2 sw p2 hv => ⟨a, hv, ?_⟩
  cases a with
  | false => exact h2 B2 H2 W2 s1 (b.trans sw.g.b) sw.g.e sw.w sw.d p2 z s' em Q fun v B3 H3 W3 sw3 p3 h3 => q v B3 H3 W3 (sw.trans sw3) p3 h3
  | true =>
    cases em
    exact q _ B2 H2 W2 sw p2 rfl
/-! None or not -/
class Nn (α : Type) [Rp α] : Prop where
  nn : ∀ {K : Fg} {B : Hp} {v : V} {x : α}, rp K B v x → v ≠ .non
instance : Nn Int := ⟨fun h z => by rw [z] at h; exact nomatch h⟩
instance : Nn Bool := ⟨fun h z => by rw [z] at h; exact nomatch h⟩
instance : Nn Str := ⟨fun h z => by rw [z] at h; exact nomatch h⟩
instance [Rp α] : Nn (List α) := ⟨fun ⟨a, vs, h, _⟩ z => by rw [z] at h; exact nomatch h⟩
instance [Rp α] [Rp β] : Nn (α × β) := ⟨fun ⟨a, u, w, h, _⟩ z => by rw [z] at h; exact nomatch h⟩
instance [Rp α] [Rp β] [Rp γ] : Nn (T3 α β γ) := ⟨fun ⟨a, u1, u2, u3, h, _⟩ z => by rw [z] at h; exact nomatch h⟩
instance [Rp α] [Rp β] [Rp γ] [Rp δ] : Nn (T4 α β γ δ) := ⟨fun ⟨a, u1, u2, u3, u4, h, _⟩ z => by rw [z] at h; exact nomatch h⟩
theorem isN_of [Rp α] [Nn α] {v : V} {x : Option α} (h : rp K B v x) : decide (v = .non) = x.isNone := by
  cases x with
  | none => exact decide_eq_true h
  | some y => exact decide_eq_false (Nn.nn (α := α) h)
theorem cp_isN [Rp α] [Nn α] {m : Option (Option α)} (h : Cp K ta σ B m) : Cp K (tIsN ta) σ B (m.bind fun x => some x.isNone) := fun B1 H1 b e z em Q q => by
  obtain ⟨x, e1, em⟩ := bd_some em
  cases em
  exact h B1 H1 b e x e1 _ fun v B2 H2 g2 hv => q _ B2 H2 g2 (congrArg V.bl (isN_of hv))
theorem cp_notN [Rp α] [Nn α] {m : Option (Option α)} (h : Cp K ta σ B m) : Cp K (tNotN ta) σ B (m.bind fun x => some x.isSome) := fun B1 H1 b e z em Q q => by
  obtain ⟨x, e1, em⟩ := bd_some em
  cases em
  refine h B1 H1 b e x e1 _ fun v B2 H2 g2 hv => q _ B2 H2 g2 ?_
  show V.bl _ = V.bl _
  rw [isN_of hv]
  cases x <;> rfl
theorem cs_isN [Rp α] [Nn α] {m : S → Option (Option α × S)} (h : Cs K P ta σ B m) : Cs K P (tIsN ta) σ B (fun s => (m s).bind fun p => some (p.1.isNone, p.2)) := fun B1 H1 W s b e w d p z s' em Q q => by
  obtain ⟨⟨x, s1⟩, e1, em⟩ := bd_some em
  cases em
  exact h B1 H1 W s b e w d p x _ e1 _ fun v B2 H2 W2 sw p2 hv => q _ B2 H2 W2 sw p2 (congrArg V.bl (isN_of hv))
theorem cs_notN [Rp α] [Nn α] {m : S → Option (Option α × S)} (h : Cs K P ta σ B m) : Cs K P (tNotN ta) σ B (fun s => (m s).bind fun p => some (p.1.isSome, p.2)) := fun B1 H1 W s b e w d p z s' em Q q => by
  obtain ⟨⟨x, s1⟩, e1, em⟩ := bd_some em
  cases em
  refine h B1 H1 W s b e w d p x _ e1 _ fun v B2 H2 W2 sw p2 hv => q _ B2 H2 W2 sw p2 ?_
  show V.bl _ = V.bl _
  rw [isN_of hv]
  cases x <;> rfl
/-! tuples -/
theorem cp_tup2 [Rp α] [Rp β] {m : Option (α × β × Unit)} (h : Ca K tas σ B m) : Cp K (tTup tas) σ B (m.bind fun t => some (t.1, t.2.1)) := fun B1 H1 b e z em Q q => by
  obtain ⟨t, e1, em⟩ := bd_some em
  cases em
  refine h B1 H1 b e t e1 _ fun vs B2 H2 g2 hv => ?_
  obtain ⟨v1, _, rfl, h1, v2, _, rfl, h2, h3⟩ := hv
  cases h3
  exact ⟨by show 2 ≤ sizeLine; decide, fun p np => q _ (upd B2 p (.tup [v1, v2])) _ (g2.trans (Gr.new g2.e np)) ⟨p, v1, v2, rfl, .inl (.inl upd_same), Rp.mono (Ex.new (g2.e.none np)) h1, Rp.mono (Ex.new (g2.e.none np)) h2⟩⟩
theorem cp_tup3 [Rp α] [Rp β] [Rp γ] {m : Option (α × β × γ × Unit)} (h : Ca K tas σ B m) : Cp K (tTup tas) σ B (m.bind fun t => some (T3.mk t.1 t.2.1 t.2.2.1)) := fun B1 H1 b e z em Q q => by
  obtain ⟨t, e1, em⟩ := bd_some em
  cases em
  refine h B1 H1 b e t e1 _ fun vs B2 H2 g2 hv => ?_
  obtain ⟨v1, _, rfl, h1, v2, _, rfl, h2, v3, _, rfl, h3, h4⟩ := hv
  cases h4
  exact ⟨by show 3 ≤ sizeLine; decide, fun p np => q _ (upd B2 p (.tup [v1, v2, v3])) _ (g2.trans (Gr.new g2.e np)) ⟨p, v1, v2, v3, rfl, .inl (.inl upd_same), Rp.mono (Ex.new (g2.e.none np)) h1, Rp.mono (Ex.new (g2.e.none np)) h2, Rp.mono (Ex.new (g2.e.none np)) h3⟩⟩
theorem cs_tup2 [Rp α] [Rp β] [OwOk P] {m : S → Option ((α × β × Unit) × S)} (h : Csa K P tas σ B m) : Cs K P (tTup tas) σ B (fun s => (m s).bind fun t => some ((t.1.1, t.1.2.1), t.2)) := fun B1 H1 W s b e w d p z s' em Q q => by
  obtain ⟨⟨t, s1⟩, e1, em⟩ := bd_some em
  cases em
  refine h B1 H1 W s b e w d p t _ e1 _ fun vs B2 H2 W2 sw p2 hv => ?_
  obtain ⟨v1, _, rfl, h1, v2, _, rfl, h2, h3⟩ := hv
  cases h3
  refine ⟨by show 2 ≤ sizeLine; decide, fun c np => q _ (upd B2 c (.tup [v1, v2])) _ W2 (sw.trans (Sw.pure (Gr.new sw.g.e np) sw.w sw.d)) (OwOk.mono (Ex.new (sw.g.e.none np)) p2) ⟨c, v1, v2, rfl, .inl (.inl upd_same), Rp.mono (Ex.new (sw.g.e.none np)) h1, Rp.mono (Ex.new (sw.g.e.none np)) h2⟩⟩
theorem cs_tup3 [Rp α] [Rp β] [Rp γ] [OwOk P] {m : S → Option ((α × β × γ × Unit) × S)} (h : Csa K P tas σ B m) : Cs K P (tTup tas) σ B (fun s => (m s).bind fun t => some (T3.mk t.1.1 t.1.2.1 t.1.2.2.1, t.2)) := fun B1 H1 W s b e w d p z s' em Q q => by
  obtain ⟨⟨t, s1⟩, e1, em⟩ := bd_some em
  cases em
  refine h B1 H1 W s b e w d p t _ e1 _ fun vs B2 H2 W2 sw p2 hv => ?_
  obtain ⟨v1, _, rfl, h1, v2, _, rfl, h2, v3, _, rfl, h3, h4⟩ := hv
  cases h4
  refine ⟨by show 3 ≤ sizeLine; decide, fun c np => q _ (upd B2 c (.tup [v1, v2, v3])) _ W2 (sw.trans (Sw.pure (Gr.new sw.g.e np) sw.w sw.d)) (OwOk.mono (Ex.new (sw.g.e.none np)) p2) ⟨c, v1, v2, v3, rfl, .inl (.inl upd_same), Rp.mono (Ex.new (sw.g.e.none np)) h1, Rp.mono (Ex.new (sw.g.e.none np)) h2, Rp.mono (Ex.new (sw.g.e.none np)) h3⟩⟩
/-- an item of a tuple at a written place -/
theorem cp_ixT [Rp α] [Rp γ] {i : Int} {f : α → γ} (hf : ∀ {B : Hp} {v : V} {x : α}, rp K B v x → ∃ a vs u, v = .ref a ∧ SqT K B a vs ∧ atI vs i = some u ∧ rp K B u (f x)) {m : Option α} (h : Cp K ta σ B m) : Cp K (tOp (rIxT K) ta (tC (.int i))) σ B (m.bind fun x => some (f x)) := fun B1 H1 b e z em Q q => by
  obtain ⟨x, e1, em⟩ := bd_some em
  cases em
  refine h B1 H1 b e x e1 _ fun v B2 H2 g2 hv => ?_
  obtain ⟨a, vs, u, rfl, s, ha, hu⟩ := hf hv
  exact ⟨a, vs, i, u, rfl, rfl, sqt_mono g2.e s, ha, q u B2 H2 g2 hu⟩
theorem cp_item2_0 [Rp α] [Rp β] {m : Option (α × β)} (h : Cp K ta σ B m) : Cp K (tOp (rIxT K) ta (tC (.int 0))) σ B (m.bind fun x => some x.1) := cp_ixT (fun h => by obtain ⟨a, u, w, h, s, p, q⟩ := h; exact ⟨a, _, u, h, s, rfl, p⟩) h
theorem cp_item2_1 [Rp α] [Rp β] {m : Option (α × β)} (h : Cp K ta σ B m) : Cp K (tOp (rIxT K) ta (tC (.int 1))) σ B (m.bind fun x => some x.2) := cp_ixT (fun h => by obtain ⟨a, u, w, h, s, p, q⟩ := h; exact ⟨a, _, w, h, s, rfl, q⟩) h
/-! lists -/
theorem ct_truL [Rp α] {m : Option (List α)} (h : Cp K ta σ B m) : Ct (fun σ H Q => ta σ H fun x H' => ∃ k, TruV K x H' k ∧ Q k H') σ B (m.bind fun x => some (!x.isEmpty)) := fun B1 H1 b e z em Q q => by
  obtain ⟨x, e1, em⟩ := bd_some em
  cases em
  refine h B1 H1 b e x e1 _ fun v B2 H2 g2 hv => ?_
  obtain ⟨a, vs, rfl, s, p⟩ := hv
  refine ⟨!x.isEmpty, .inl ⟨vs, sq_lst (g2.e _ _ s), ?_⟩, q B2 H2 g2⟩
  cases p <;> rfl
def RListOf (K : Fg) : List V → Hp → VK → Prop := fun xs H Q => ∃ p ys, xs = [.ref p] ∧ (SqL K H p ys ∨ SqT K H p ys) ∧ ∀ l, H l = none → Q (.ref l) (upd H l (.lst ys))
theorem co_listof [Rp α] {m : Option (List α)} (h : Cp K ta σ B m) : Co K (tCB (RListOf K) (tCons ta tNil)) σ B m := fun B1 H1 b e xs em Q q => by
  refine h B1 H1 b e xs em _ fun v B2 H2 g2 hv => ?_
  obtain ⟨a, vs, rfl, s, p⟩ := hv
  exact ⟨a, vs, rfl, .inl (sq_lst (g2.e _ _ s)), fun l nl => q l vs B2 _ (g2.trans (Gr.newM g2.e nl)) (g2.fresh nl) (g2.e.none nl) upd_same p⟩
theorem inV_ints {x : Int} : ∀ {vs : List V} {xs : List Int}, Paired (rp K B) vs xs → inV (.int x) vs = decide (x ∈ xs)
  | _, _, .nil => rfl
  | _, _, .cons (b := y) r t => by
    cases (show _ = V.int _ from r)
    show (eqV (.int y) (.int x) || inV (.int x) _) = _
    rw [inV_ints t]
    rw [Bool.eq_iff_iff, Bool.or_eq_true, decide_eq_true_eq, decide_eq_true_eq, List.mem_cons]
    have : eqV (.int y) (.int x) = true ↔ x = y := by
      show (y == x) = true ↔ _
      rw [beq_iff_eq]
      exact eq_comm
    rw [this]
theorem flat_ints : ∀ {vs : List V} {xs : List Int}, Paired (rp K B) vs xs → vs.all flatV = true
  | _, _, .nil => rfl
  | _, _, .cons r t => by
    cases (show _ = V.int _ from r)
    show (true && _) = true
    rw [flat_ints t]
    rfl
theorem r2_inL : R2p K (rIn K false) (fun (x : Int) (xs : List Int) => some (decide (x ∈ xs))) := fun B H x xs z vx vy e hx hy ez Q q => by
  cases ez
  cases (show vx = .int x from hx)
  obtain ⟨a, vs, rfl, s, p⟩ := hy
  refine ⟨a, vs, rfl, .inl (sq_lst (e _ _ s)), rfl, flat_ints p, q _ B H (Gr.refl e) ?_⟩
  show V.bl _ = V.bl _
  rw [if_neg Bool.false_ne_true, inV_ints p]
theorem r2_ninL : R2p K (rIn K true) (fun (x : Int) (xs : List Int) => some (!decide (x ∈ xs))) := fun B H x xs z vx vy e hx hy ez Q q => by
  cases ez
  cases (show vx = .int x from hx)
  obtain ⟨a, vs, rfl, s, p⟩ := hy
  refine ⟨a, vs, rfl, .inl (sq_lst (e _ _ s)), rfl, flat_ints p, q _ B H (Gr.refl e) ?_⟩
  show V.bl _ = V.bl _
  rw [if_pos rfl, inV_ints p]
/-! min, max of two -/
def pmin2 (i j : Int) : Int := if j < i then j else i
def pmax2 (i j : Int) : Int := if j > i then j else i
theorem rc_min2 : Rcp K (fun xs H Q => ∃ i j, xs = [.int i, .int j] ∧ Q (.int (if j < i then j else i)) H) (fun t : Int × Int × Unit => some (pmin2 t.1 t.2.1)) := fun B H t z vs e h ez Q q => by
  cases ez
  obtain ⟨v1, _, rfl, h1, v2, _, rfl, h2, h3⟩ := h
  cases h3
  cases (show v1 = .int _ from h1)
  cases (show v2 = .int _ from h2)
  exact ⟨_, _, rfl, q _ B H (Gr.refl e) rfl⟩
theorem rc_max2 : Rcp K (fun xs H Q => ∃ i j, xs = [.int i, .int j] ∧ Q (.int (if j > i then j else i)) H) (fun t : Int × Int × Unit => some (pmax2 t.1 t.2.1)) := fun B H t z vs e h ez Q q => by
  cases ez
  obtain ⟨v1, _, rfl, h1, v2, _, rfl, h2, h3⟩ := h
  cases h3
  cases (show v1 = .int _ from h1)
  cases (show v2 = .int _ from h2)
  exact ⟨_, _, rfl, q _ B H (Gr.refl e) rfl⟩
/-! isinstance -/
theorem kit_int_int {K : Fg} : PySem.W.kitOne K (.type "int") (.type "int") = some true := kit_ty (by decide +kernel)
theorem kit_bool_int {K : Fg} : PySem.W.kitOne K (.type "bool") (.type "int") = some true := kit_ty (by decide +kernel)
theorem kit_int_bool {K : Fg} : PySem.W.kitOne K (.type "int") (.type "bool") = some false := kit_ty (by decide +kernel)
theorem kit_str_str {K : Fg} : PySem.W.kitOne K (.type "str") (.type "str") = some true := kit_ty (by decide +kernel)
theorem kit_list_list {K : Fg} : PySem.W.kitOne K (.type "list") (.type "list") = some true := kit_ty (by decide +kernel)
theorem kit_tuple_tuple {K : Fg} : PySem.W.kitOne K (.type "tuple") (.type "tuple") = some true := kit_ty (by decide +kernel)
theorem kit_NoneType_tuple {K : Fg} : PySem.W.kitOne K (.type "NoneType") (.type "tuple") = some false := kit_ty (by decide +kernel)

def Isi (α : Type) [Rp α] (K : Fg) (c : String) (f : α → Bool) : Prop := ∀ {B : Hp} {v : V} {x : α}, rp K B v x → ∃ t, TyX K B v t ∧ PySem.W.kitOne K t (.type c) = some (f x)
theorem tyx_mono {v : V} {t : Value} (e : Ex B H) (h : TyX K B v t) : TyX K H v t := by
  cases h with
  | base b =>
    cases b with
    | non => exact .base .non
    | bl x => exact .base (.bl x)
    | int x => exact .base (.int x)
    | str x => exact .base (.str x)
    | flt x => exact .base (.flt x)
    | lst h => exact .base (.lst (e _ _ h))
    | frz h => exact .base (.frz (e _ _ h))
    | tup h => exact .base (.tup (e _ _ h))
    | dK h => exact .base (.dK (e _ _ h))
    | dT h => exact .base (.dT (e _ _ h))
    | ins h a b c d f => exact .base (.ins (e _ _ h) a b c d f)
  | byt b => exact .byt b
  | set h => exact .set (e _ _ h)
  | kList h c => exact .kList h c
  | kTuple h c => exact .kTuple h c
  | kDict h c => exact .kDict h c
  | fTuple h => exact .fTuple (e _ _ h)
  | fDict h => exact .fDict (e _ _ h)
theorem cp_isi [Rp α] {c : String} {f : α → Bool} (hi : Isi α K c f) {m : Option α} (h : Cp K ta σ B m) : Cp K (tCB (rIsi K) (tCons ta (tCons (tC (.ty c)) tNil))) σ B (m.bind fun x => some (f x)) := fun B1 H1 b e z em Q q => by
  obtain ⟨x, e1, em⟩ := bd_some em
  cases em
  refine h B1 H1 b e x e1 _ fun v B2 H2 g2 hv => ?_
  obtain ⟨t, ht, hk⟩ := hi hv
  exact ⟨v, .ty c, t, .type c, f x, rfl, ClsV.ty c, tyx_mono g2.e ht, hk, q _ B2 H2 g2 rfl⟩
theorem isi_int : Isi Int K "int" (fun _ => true) := fun h => by
  cases (show _ = V.int _ from h)
  exact ⟨_, .base (.int _), kit_int_int⟩
theorem isi_bool_int : Isi Bool K "int" (fun _ => true) := fun h => by
  cases (show _ = V.bl _ from h)
  exact ⟨_, .base (.bl _), kit_bool_int⟩
theorem isi_int_bool : Isi Int K "bool" (fun _ => false) := fun h => by
  cases (show _ = V.int _ from h)
  exact ⟨_, .base (.int _), kit_int_bool⟩
theorem isi_str : Isi Str K "str" (fun _ => true) := fun h => by
  cases (show _ = V.str _ from h)
  exact ⟨_, .base (.str _), kit_str_str⟩
theorem isi_list [Rp α] : Isi (List α) K "list" (fun _ => true) := fun h => by
  obtain ⟨a, vs, rfl, s, p⟩ := h
  exact ⟨_, .base (.lst s), kit_list_list⟩
theorem tyx_sqt {a : Addr} {xs : List V} (s : SqT K B a xs) : TyX K B (.ref a) (.type "tuple") := by
  rcases s with (h | ⟨o, h⟩) | ⟨o, its, n, h, c, _⟩
  · exact .base (.tup h)
  · exact .fTuple h
  · exact .kTuple h c
theorem isi_tuple2 [Rp α] [Rp β] : Isi (α × β) K "tuple" (fun _ => true) := fun h => by
  obtain ⟨a, u, w, rfl, s, p, q⟩ := h
  exact ⟨_, tyx_sqt s, kit_tuple_tuple⟩
theorem isi_otuple2 [Rp α] [Rp β] : Isi (Option (α × β)) K "tuple" (fun x => x.isSome) := fun {B v x} h => by
  cases x with
  | none =>
    cases (show v = V.non from h)
    exact ⟨_, .base .non, kit_NoneType_tuple⟩
  | some y =>
    obtain ⟨a, u, w, rfl, s, p, q⟩ := (show rp K B v y from h)
    exact ⟨_, tyx_sqt s, kit_tuple_tuple⟩
end
/-! ### objects -/
structure Mc (P : Program) (w : World) (K : Fg) (mg : Str → Option Value) (base : Heap) (k : Nat) (C m : Str) (ps : List Str) (sp : Sp) : Prop where
  ex : ∃ f fd, FnOk P w K mg base CX0 k f fd ps sp ∧ Meth K (He.ga K C) m f ∧ Binds K fd ps []
theorem pe_mfc {X : Cx} {k j : Nat} {C m : Str} {ps : List Str} {sp : Sp} {apos pos : Pos} {o e : Expr} {es : List Expr} {ta : TE} {t : TA} {pl : Sem Bool} (he : PE X o ta) (c : Cls X.K (He.ga X.K C)) (M : Mc X.prog X.w X.K X.mg X.base k C m ps sp) (hr : Room j X.A) (hk : k ≤ j) (ha : PA X (e :: es) t)
    (hst : starEach (e :: es) X.env = (false, eval e X.env) :: starEach es X.env := by rfl) (hpl : (backTo pos (starEach es X.env)).any (·.1) = false := by rfl)
    (ht : eval (.Call (.Attribute o m apos) (e :: es) [] pos) X.env = (do
      let ov ← eval o X.env
      standAt apos.atName
      let (f, first) ← holding [ov] (getMethod ov m pl)
      callWith pos f first (backTo pos (starEach (e :: es) X.env)) (backToKw pos (keywordEach [] X.env))) := by rfl) :
    PE X (.Call (.Attribute o m apos) (e :: es) [] pos) (tMeth (He.ga X.K C) m sp [] E0 ta t) := by
  obtain ⟨f, fd, F, hm, hb⟩ := M.ex
  exact pe_meth he c hm F (hr.mono hk) hb .nil pass0 ha hst hpl ht
theorem pe_mfc0 {X : Cx} {k j : Nat} {C m : Str} {ps : List Str} {sp : Sp} {apos pos : Pos} {o : Expr} {ta : TE} {pl : Sem Bool} (he : PE X o ta) (c : Cls X.K (He.ga X.K C)) (M : Mc X.prog X.w X.K X.mg X.base k C m ps sp) (hr : Room j X.A) (hk : k ≤ j)
    (ht : eval (.Call (.Attribute o m apos) [] [] pos) X.env = (do
      let ov ← eval o X.env
      standAt apos.atName
      let (f, first) ← holding [ov] (getMethod ov m pl)
      callWith pos f first (backTo pos (starEach [] X.env)) (backToKw pos (keywordEach [] X.env))) := by rfl) :
    PE X (.Call (.Attribute o m apos) [] [] pos) (tMeth (He.ga X.K C) m sp [] E0 ta tNil) := by
  obtain ⟨f, fd, F, hm, hb⟩ := M.ex
  exact pe_meth0 he c hm F (hr.mono hk) hb .nil pass0 ht
theorem pe_mkc {X : Cx} {k j : Nat} {C : Str} {ps : List Str} {sp : Sp} {p pos : Pos} {e : Expr} {es : List Expr} {t : TA} (M : Mk X.K (He.ga X.K C) (He.ma X.K (He.ga X.K C) "__init__")) (c : Mc X.prog X.w X.K X.mg X.base k C "__init__" ps sp) (hr : Room j X.A) (hk : k + 1 ≤ j) (hg : Gl X C) (hm : X.mg C = some (.ref (He.ga X.K C))) (ha : PA X (e :: es) t)
    (hdb : (C == ("__debug__" : Str)) = false := by decide) (he : starEach (e :: es) X.env = (false, eval e X.env) :: starEach es X.env := by rfl) (hpl : (backTo pos (starEach es X.env)).any (·.1) = false := by rfl) :
    PE X (.Call (.Name C p) (e :: es) [] pos) (tMake (He.ga X.K C) sp [] E0 t) := by
  obtain ⟨f, fd, F, hmt, hb⟩ := c.ex
  have e1 : f = He.ma X.K (He.ga X.K C) "__init__" := by
    have := hmt.at_.symm.trans M.init
    cases this
    rfl
  subst e1
  exact pe_make M F (hr.mono hk) hg hm hb .nil pass0 ha hdb he hpl
theorem pe_mkc0 {X : Cx} {k j : Nat} {C : Str} {ps : List Str} {sp : Sp} {p pos : Pos} (M : Mk X.K (He.ga X.K C) (He.ma X.K (He.ga X.K C) "__init__")) (c : Mc X.prog X.w X.K X.mg X.base k C "__init__" ps sp) (hr : Room j X.A) (hk : k + 1 ≤ j) (hg : Gl X C) (hm : X.mg C = some (.ref (He.ga X.K C)))
    (hdb : (C == ("__debug__" : Str)) = false := by decide) :
    PE X (.Call (.Name C p) [] [] pos) (tMake (He.ga X.K C) sp [] E0 tNil) := by
  obtain ⟨f, fd, F, hmt, hb⟩ := c.ex
  have e1 : f = He.ma X.K (He.ga X.K C) "__init__" := by
    have := hmt.at_.symm.trans M.init
    cases this
    rfl
  subst e1
  exact pe_make0 M F (hr.mono hk) hg hm hb .nil pass0 hdb
theorem mc_of {P : Program} {w : World} {K : Fg} {mg : Str → Option Value} {base : Heap} {k : Nat} {C m qual : Str} {pa : Arguments} {bd : List Stmt} {sc : Scope} {ps : List Str} {sp : Sp} {f : Addr} {fd : FuncData} (F : FunD K m qual pa bd sc [] [] f fd) (ok : FnOk P w K mg base CX0 k f fd ps sp) (g : Meth K (He.ga K C) m f)
    (h : ∀ (kV doc pm : Value) (an : Option Addr) (cdv ct : Value) (us : List Value), us.length = ps.length → bindArgs (PySem.W.fnOf m qual pa bd sc .none kV doc pm an cdv ct) ⟨us, []⟩ = pure (ps.zip us)) : Mc P w K mg base k C m ps sp :=
  ⟨f, fd, ok, g, F.bindsN h⟩
section
variable {K : Fg} {σ : L2.St} {B H B' H' : Hp} {te ta tb tc : TE} {tt tu : TT} {tas : TA} {α β γ δ τ ρ S S' S1 S2 : Type} {P : Ow S} {P' : Ow S'} {R : Ow S1}
/-- the object at a is an instance of the class C, and m is no attribute of it -/
def IsObj (Pb : Addr → Ow S) (K : Fg) (C m : Str) : Prop := ∀ {a : Addr} {W B : Hp} {s : S}, Pb a W B s → ∃ dx fs, W a = some (.ins (He.ga K C) dx fs) ∧ fs.lookup m = none
theorem cs_methM [RpL τ] [Rp γ] {Pb : Addr → Ow S} {C mt : Str} {a : Addr} {get : S' → S} {put : S' → S → S'} {f : S → τ → Option (γ × S)} {i : Nat} {m : S' → Option (τ × S')} {E : XK} [OwOk P'] (l : Ln P' (Pb a) get put) (hs : σ[i]? = some (some (.ref a))) (ho : IsObj Pb K C mt) (ha : Csa K P' tas σ B m) :
    Cs K P' (tMeth (He.ga K C) mt (spM K Pb f) [] E (tVar i) tas) σ B (fun s => (m s).bind fun p => (f (get p.2) p.1).bind fun q => some (q.1, put p.2 q.2)) := fun B1 H1 W s b e w d p z s' em Q q => by
  obtain ⟨⟨x, s1⟩, e1, em⟩ := bd_some em
  obtain ⟨⟨y, s2⟩, e2, em⟩ := bd_some em
  cases em
  refine ⟨.ref a, hs, ?_⟩
  obtain ⟨V1, V2, hV, dV, q1, back⟩ := l.open_ W B1 s p
  obtain ⟨dx, fs, hw, hn⟩ := ho q1
  refine ⟨a, dx, fs, rfl, w a _ (by rw [hV]; exact uni_l hw), hn, ?_⟩
  refine ha B1 H1 W s b e w d p x s1 e1 _ fun vs B2 H2 W2 sw p2 hv => ?_
  obtain ⟨V1, V2, hV, dV, q1, back⟩ := l.open_ W2 B2 s1 p2
  subst hV
  refine ⟨a, vs, V1, B2, get s1, x, _, s2, (by rw [List.append_nil]), sw.g.e, fun c o h => sw.w c o (uni_l h), dj_l sw.d, q1, hv, e2, fun v W' B3 H3 y p3 hr => ?_⟩
  have w2 : Ex V2 H2 := fun c o h => sw.w c o (by rw [uni_r (dV.symm c (nn h))]; exact h)
  obtain ⟨y2, dj⟩ := y.beside w2 dV (dj_r dV sw.d)
  exact q v B3 H3 (uni W' V2) (sw.trans y2) (back W' B3 s2 y.g.b dj p3) hr
/-- the promise of an __init__ -/
def spI {S τ : Type} [RpL τ] (K : Fg) (C : Str) (Pb : Addr → Ow S) (f : τ → Option S) : Sp := fun vs H Q _ => ∃ a us dx B t s, vs = .ref a :: us ∧ H a = some (.ins (He.ga K C) dx []) ∧ H dx = some (.own a) ∧ dx ≠ a ∧ Ex B H ∧ B a = none ∧ B dx = none ∧ rpl K B us t ∧ f t = some s ∧
  ∀ W' B' H', Sw (sing a (.ins (He.ga K C) dx [])) B H W' B' H' → Pb a W' B' s → Q .non H'
theorem st_mk {M : Ms} {Bs Hs W : Hp} {s : S} {D : Ends} [RpL τ] {Pb : Addr → Ow S'} {C : Str} {f : τ → Option S'} {m : Option τ} {m' : Option S'} {k : S' → Option ρ} {r : ρ} {i : Nat} {E : XK} [OwOk P] (hm : m'.bind k = some r) (N : Now M Bs Hs P W B H s) (ha : Ca K tas σ B m) (he : m.bind f = m')
    (q : ∀ x p W1 B1 H1, k x = some r → Now M Bs Hs (star P (Pb p)) W1 B1 H1 (s, x) → Ex B B1 → Hs p = none → D.nx (σ.set i (some (.ref p))) H1) : tAsg (tMake (He.ga K C) (spI K C Pb f) [] E tas) (gName i) D σ H := by
  subst he
  obtain ⟨x, e0, e3⟩ := bd_some hm
  obtain ⟨t, e1, e2⟩ := bd_some e0
  refine ha B H (Ex.refl B) N.ex t e1 _ fun vs B1 H1 g1 hv => fun p dx np ndx ne => ?_
  have N1 := N.pure g1
  have g2 : Gr noM B1 H1 B1 (upd H1 dx (.own p)) := Gr.newM g1.e ndx
  have np2 : (upd H1 dx (.own p)) p = none := by rw [upd_ne ne.symm]; exact np
  have g3 : Gr noM B1 (upd H1 dx (.own p)) B1 (upd (upd H1 dx (.own p)) p (.ins (He.ga K C) dx [])) := Gr.newM g2.e np2
  have N3 := (N1.pure g2).pure g3
  have fp : Hs p = none := N1.g.fresh np
  refine ⟨p, vs, dx, B1, t, x, (by rw [List.append_nil]), upd_same, (by rw [upd_ne ne, upd_same]), ne, g3.e, g1.e.none np, g1.e.none ndx, hv, e2, fun W' B' H' sw pp => ⟨rfl, ?_⟩⟩
  have hWp : W p = none := by
    cases hh : W p with
    | none => rfl
    | some o =>
      rw [N1.w p o hh] at np
      cases np
  have dj : Dj (sing p (.ins (He.ga K C) dx [])) W := fun a h => by
    have := sing_dom h
    subst this
    exact hWp
  obtain ⟨sw2, dj2⟩ := sw.beside N3.w dj N3.d
  have hs2 : star P (Pb p) (uni W' W) B' (s, x) := ⟨W, W', uni_comm dj2, dj2.symm, OwOk.mono sw.g.b N3.p, pp⟩
  have f2 : ∀ a, uni (sing p (.ins (He.ga K C) dx [])) W a ≠ none → M a ∨ Hs a = none := fun a h => by
    rcases uni_dom h with z | z
    · have := sing_dom z
      subst this
      exact .inr fp
    · exact N3.f a z
  have N4 : Now M Bs Hs (star oE P) (uni (sing p (.ins (He.ga K C) dx [])) W) B1 (upd (upd H1 dx (.own p)) p (.ins (He.ga K C) dx [])) ((), s) → True := fun _ => trivial
  refine q x p (uni W' W) B' H' e3 ⟨⟨N3.g.s, N3.g.b.trans sw2.g.b, fun a o m h => ?_, sw2.g.e, fun a h n => sw2.g.n a (N3.g.k a h) (N3.g.n a h n), fun a h => sw2.g.k a (N3.g.k a h)⟩, sw2.w, sw2.d, hs2, fun a h => ?_⟩ (g1.b.trans sw.g.b) fp
  · refine sw2.g.h a o (fun z => ?_) (N3.g.h a o m h)
    rcases f2 a z with y | y
    · exact m y
    · rw [y] at h
      cases h
  · rcases sw2.f a h with z | z
    · exact f2 a z
    · exact .inr (N3.g.fresh z)
/-- an attribute of an object of one's own, read -/
theorem cp_ownfld [Rp γ] {C f : Str} {a dx : Addr} {i : Nat} {fs : List (Str × V)} {W : Hp} {u : V} {x : γ} (hs : σ[i]? = some (some (.ref a))) (ho : uni W B a = some (.ins (He.ga K C) dx fs)) (c : Cls K (He.ga K C)) (n : NoAttr K (He.ga K C) f) (hf : fs.lookup f = some u) (hr : rp K (uni W B) u x) : Cp K (tFld K (tVar i) f) σ (uni W B) (some x) := fun B1 H1 b e z em Q q => by
  cases em
  exact ⟨.ref a, hs, a, _, dx, fs, u, rfl, e _ _ (b _ _ ho), c, n, hf, q u B1 H1 (Gr.refl e) (Rp.mono b hr)⟩
/-- an attribute of an object that is known -/
theorem cp_fld [Rp α] [Rp γ] {C f : Str} {g : α → γ} {m : Option α} (hf : ∀ {B : Hp} {v : V} {x : α}, rp K B v x → ∃ a dx fs u, v = .ref a ∧ B a = some (.ins (He.ga K C) dx fs) ∧ fs.lookup f = some u ∧ rp K B u (g x)) (c : Cls K (He.ga K C)) (n : NoAttr K (He.ga K C) f) (h : Cp K ta σ B m) :
    Cp K (tFld K ta f) σ B (m.bind fun x => some (g x)) := fun B1 H1 b e z em Q q => by
  obtain ⟨x, e1, em⟩ := bd_some em
  cases em
  refine h B1 H1 b e x e1 _ fun v B2 H2 g2 hv => ?_
  obtain ⟨a, dx, fs, u, rfl, ho, hl, hu⟩ := hf hv
  exact ⟨a, _, dx, fs, u, rfl, g2.e _ _ ho, c, n, hl, q u B2 H2 g2 hu⟩
/-! ### more statements -/
theorem st_box {M : Ms} {Bs Hs W : Hp} {D : Ends} {m m' : Option (List Int)} {k : List Int → Option ρ} {r : ρ} {i : Nat} (hm : m'.bind k = some r) (N : Now M Bs Hs oE W B H ()) (hc : Cp K te σ B m) (he : m = m')
    (q : ∀ ds p W1 B1 H1, k ds = some r → Now M Bs Hs (OwBox K p) W1 B1 H1 ds → Ex B B1 → Hs p = none → D.nx (σ.set i (some (.ref p))) H1) : tAsg (tLst (tCons te (tCons (tC (.int 0)) tNil))) (gName i) D σ H := by
  subst he
  obtain ⟨x, e1, e2⟩ := bd_some hm
  refine hc B H (Ex.refl B) N.ex x e1 _ fun v B1 H1 g hv => ⟨by show 2 ≤ sizeLine; decide, fun p np => ?_⟩
  have N1 := N.pure g
  have fp : Hs p = none := N1.g.fresh np
  refine q x p (sing p (.lst [v, .int 0])) B1 _ e2 ⟨N1.g.trans (Gr.newM g.e np), fun a o h => ?_, fun a h => ?_, ⟨v, x, 0, rfl, hv, rfl⟩, fun a h => ?_⟩ g.b fp
  · have := sing_dom (nn h)
    subst this
    rw [sing_at] at h
    rw [upd_same]
    exact h
  · have := sing_dom h
    subst this
    exact g.e.none np
  · have := sing_dom h
    subst this
    exact .inr fp
/-- x = [..] again, where x is one's own -/
theorem st_reL {M : Ms} {Bs Hs W : Hp} {D : Ends} [Rp α] {s : S} {a : Addr} {P2 : Addr → Ow S} {get : S → List α} {put : S → List α → S} {m : S → Option (List α × S)} {m' : Option (List α × S)} {k : List α × S → Option ρ} {r : ρ} {i : Nat} (l : ∀ p, Lr P (P2 p) (OwL K a) (OwL K p) get put)
    (hm : m'.bind k = some r) (N : Now M Bs Hs P W B H s) (hc : Cso K P te σ B m) (he : m s = m')
    (q : ∀ xs s1 p W1 B1 H1, k (xs, s1) = some r → Now M Bs Hs (P2 p) W1 B1 H1 (put s1 xs) → Ex B B1 → Hs p = none → D.nx (σ.set i (some (.ref p))) H1) : tAsg te (gName i) D σ H := by
  subst he
  obtain ⟨⟨xs, s1⟩, e1, e2⟩ := bd_some hm
  refine hc B H W s (Ex.refl B) N.ex N.w N.d N.p xs s1 e1 _ fun p vs B1 H1 W1 sw p1 f n nw hp pr => ?_
  have N1 := N.step sw p1
  have fp : Hs p = none := N.g.fresh f
  obtain ⟨V1, V2, hV, dV, ⟨us, hv, pu⟩, back⟩ := (l p).open_ W1 B1 s1 p1
  subst hV hv
  have hV2 : V2 p = none := by
    cases hh : V2 p with
    | none => rfl
    | some o => exact absurd nw (uni_dom_r dV (nn hh))
  have dj : Dj (sing p (.lst vs)) V2 := fun c h => by
    have := sing_dom h
    subst this
    exact hV2
  refine q xs s1 p (uni (sing p (.lst vs)) V2) B1 H1 e2 ⟨N1.g, fun c o h => ?_, fun c h => ?_, back _ B1 xs (Ex.refl B1) dj ⟨vs, rfl, pr⟩, fun c h => ?_⟩ sw.g.b fp
  · by_cases ec : c = p
    · subst ec
      rw [uni_l sing_at] at h
      cases h
      exact hp
    · rw [uni_r (sing_ne ec)] at h
      exact N1.w c o (by rw [uni_r (dV.symm c (nn h))]; exact h)
  · rcases uni_dom h with z | z
    · have := sing_dom z
      subst this
      exact n
    · exact N1.d c (uni_dom_r dV z)
  · rcases uni_dom h with z | z
    · have := sing_dom z
      subst this
      exact .inr fp
    · exact N1.f c (uni_dom_r dV z)
end
end Cf

set_option Elab.async false
set_option linter.all false
set_option maxRecDepth 100000
set_option maxHeartbeats 4000000
namespace Cf
open PySem L2
open Rp (rp)
open RpL (rpl)
open Enc (enc)
section
variable {K : Fg} {M : Ms} {Bs Hs W : Hp} {σ : L2.St} {B H B' H' : Hp} {te ta tb tc : TE} {tt tu : TT} {tas : TA} {α β γ δ τ ρ S S' S1 S2 Z R : Type} {P : Ow S} {s : S} {D : Ends} {t u ts : TS} {g : TG}
/-! ### loops whose source changes one's own -/
theorem st_forF_r1S [OwOk P] {m : S → Option (Int × S)} {m' : Option (Int × S)} {b : Int → Z → Option (Fl Z R)} {z0 : Int × S → Z} {k : Fl Z R → Option ρ} {r : ρ} (I : Hp → Z → Hp → L2.St → Hp → Prop)
    (hm : (m'.bind fun p => ((some p.1).bind fun n => prange1 n).bind fun xs => (forF b xs (z0 p)).bind k) = some r) (N : Now M Bs Hs P W B H s) (hc : Cs K P ta σ B m) (he : m s = m')
    (h0 : ∀ Be H1 W1 x s1, Now M Bs Hs P W1 Be H1 s1 → Ex B Be → I Be (z0 (x, s1)) Be σ H1)
    (hs : ∀ Be x z B σ H v c (N : L2.St → Hp → Prop), I Be z B σ H → rp K B v x → b x z = some c → (∀ s2 B2 σ2 H2, c = .nx s2 → I Be s2 B2 σ2 H2 → N σ2 H2) → (∀ s2 B2 σ2 H2, c = .bk s2 → I Be s2 B2 σ2 H2 → D.nx σ2 H2) →
      (∀ r', c = .rt r' → k (.rt r') = some r) → g v σ H fun σ2 H2 => ts { D with nx := N, ct := N, bk := D.nx } σ2 H2)
    (hd : ∀ Be z B σ H, k (.nx z) = some r → I Be z B σ H → D.nx σ H) : tFor (iRng1 (tCons ta tNil)) g ts D σ H := by
  subst he
  obtain ⟨⟨n, s1⟩, e1, hm⟩ := bd_some hm
  obtain ⟨xs, e2, hm⟩ := bd_some hm
  obtain ⟨hb, ex⟩ := if_some (show (if n.natAbs < 4611686018427387904 then some (rangeL 0 n) else none) = some xs from e2)
  subst ex
  refine hc B H W s (Ex.refl B) N.ex N.w N.d N.p n s1 e1 _ fun v Be H1 W1 sw p1 hv => ?_
  cases (show v = .int n from hv)
  have hl := rangeL_len 0 n
  rw [Int.sub_zero] at hl
  refine ⟨n, rfl, (by omega), (by omega), forF_run (K := K) (xs := rangeL 0 n) (B := Be) (I Be) (fun i z B σ H hI hi => (by rw [hl] at hi; exact hi)) (fun i z B σ H hI hi => (by rw [hl] at hi; exact hi)) (fun i x z B σ H v H' hI hxi y => ?_) hm (h0 Be H1 W1 n s1 (N.step sw p1) sw.g.b) (fun x z B σ H v c N => hs Be x z B σ H v c N) (fun z B σ H => hd Be z B σ H)⟩
  obtain ⟨eH, ev⟩ := itr_yld _ hxi y
  subst eH
  exact ⟨B, hI, ev⟩
theorem st_forN_r1S [OwOk P] {m : S → Option (Int × S)} {m' : Option (Int × S)} {b : Int → Z → Option Z} {z0 : Int × S → Z} {k : Z → Option ρ} {r : ρ} (I : Hp → Z → Hp → L2.St → Hp → Prop)
    (hm : (m'.bind fun p => ((some p.1).bind fun n => prange1 n).bind fun xs => (forN b xs (z0 p)).bind k) = some r) (N : Now M Bs Hs P W B H s) (hc : Cs K P ta σ B m) (he : m s = m')
    (h0 : ∀ Be H1 W1 x s1, Now M Bs Hs P W1 Be H1 s1 → Ex B Be → I Be (z0 (x, s1)) Be σ H1)
    (hs : ∀ Be x z B σ H v z' (N : L2.St → Hp → Prop), I Be z B σ H → rp K B v x → b x z = some z' → (∀ B2 σ2 H2, I Be z' B2 σ2 H2 → N σ2 H2) → g v σ H fun σ2 H2 => ts { D with nx := N, ct := N, bk := D.nx } σ2 H2)
    (hd : ∀ Be z B σ H, k z = some r → I Be z B σ H → D.nx σ H) : tFor (iRng1 (tCons ta tNil)) g ts D σ H := by
  subst he
  obtain ⟨⟨n, s1⟩, e1, hm⟩ := bd_some hm
  obtain ⟨xs, e2, hm⟩ := bd_some hm
  obtain ⟨hb, ex⟩ := if_some (show (if n.natAbs < 4611686018427387904 then some (rangeL 0 n) else none) = some xs from e2)
  subst ex
  refine hc B H W s (Ex.refl B) N.ex N.w N.d N.p n s1 e1 _ fun v Be H1 W1 sw p1 hv => ?_
  cases (show v = .int n from hv)
  have hl := rangeL_len 0 n
  rw [Int.sub_zero] at hl
  refine ⟨n, rfl, (by omega), (by omega), forN_run (K := K) (xs := rangeL 0 n) (B := Be) (I Be) (fun i z B σ H hI hi => (by rw [hl] at hi; exact hi)) (fun i z B σ H hI hi => (by rw [hl] at hi; exact hi)) (fun i x z B σ H v H' hI hxi y => ?_) hm (h0 Be H1 W1 n s1 (N.step sw p1) sw.g.b) (fun x z B σ H v z' N => hs Be x z B σ H v z' N) (fun z B σ H => hd Be z B σ H)⟩
  obtain ⟨eH, ev⟩ := itr_yld _ hxi y
  subst eH
  exact ⟨B, hI, ev⟩
/-! ### range(a, b) -/
theorem st_forF_r2 {mi mi' : Option (Int × Int)} {b : Int → S → Option (Fl S R)} {s0 : S} {k : Fl S R → Option ρ} {r : ρ} (I : Hp → S → Hp → L2.St → Hp → Prop) (hm : ((mi'.bind fun n => prange2 n.1 n.2).bind fun xs => (forF b xs s0).bind k) = some r) (e : Ex B H) (hc : Ca K tas σ B (mi.bind fun n => some (n.1, n.2, ()))) (he : mi = mi')
    (h0 : ∀ Be H1, Gr noM B H Be H1 → I Be s0 Be σ H1)
    (hs : ∀ Be x s B σ H v c (N : L2.St → Hp → Prop), I Be s B σ H → rp K B v x → b x s = some c → (∀ s2 B2 σ2 H2, c = .nx s2 → I Be s2 B2 σ2 H2 → N σ2 H2) → (∀ s2 B2 σ2 H2, c = .bk s2 → I Be s2 B2 σ2 H2 → D.nx σ2 H2) →
      (∀ r', c = .rt r' → k (.rt r') = some r) → g v σ H fun σ2 H2 => ts { D with nx := N, ct := N, bk := D.nx } σ2 H2)
    (hd : ∀ Be s B σ H, k (.nx s) = some r → I Be s B σ H → D.nx σ H) : tFor (iRng2 tas) g ts D σ H := by
  subst he
  obtain ⟨xs, e1, e2⟩ := bd_some hm
  obtain ⟨⟨lo, hi⟩, e3, e4⟩ := bd_some e1
  obtain ⟨hb, ex⟩ := if_some (show (if lo.natAbs < 4611686018427387904 ∧ hi.natAbs < 4611686018427387904 then some (rangeL lo hi) else none) = some xs from e4)
  subst ex
  subst e3
  refine hc B H (Ex.refl B) e (lo, hi, ()) rfl _ fun vs Be H1 g1 hv => ?_
  obtain ⟨v1, _, rfl, h1, v2, _, rfl, h2, h3⟩ := hv
  cases h3
  cases (show v1 = .int lo from h1)
  cases (show v2 = .int hi from h2)
  have hl := rangeL_len lo hi
  refine ⟨lo, hi, rfl, (by omega), forF_run (K := K) (xs := rangeL lo hi) (B := Be) (I Be) (fun i s B σ H hI hi => (by rw [hl] at hi; exact hi)) (fun i s B σ H hI hi => (by rw [hl] at hi; exact hi)) (fun i x s B σ H v H' hI hxi y => ?_) e2 (h0 Be H1 g1) (fun x s B σ H v c N => hs Be x s B σ H v c N) (fun s B σ H => hd Be s B σ H)⟩
  obtain ⟨eH, ev⟩ := itr_yld _ hxi y
  subst eH
  exact ⟨B, hI, ev⟩
theorem st_forN_r2 {mi mi' : Option (Int × Int)} {b : Int → S → Option S} {s0 : S} {k : S → Option ρ} {r : ρ} (I : Hp → S → Hp → L2.St → Hp → Prop) (hm : ((mi'.bind fun n => prange2 n.1 n.2).bind fun xs => (forN b xs s0).bind k) = some r) (e : Ex B H) (hc : Ca K tas σ B (mi.bind fun n => some (n.1, n.2, ()))) (he : mi = mi')
    (h0 : ∀ Be H1, Gr noM B H Be H1 → I Be s0 Be σ H1)
    (hs : ∀ Be x s B σ H v s' (N : L2.St → Hp → Prop), I Be s B σ H → rp K B v x → b x s = some s' → (∀ B2 σ2 H2, I Be s' B2 σ2 H2 → N σ2 H2) → g v σ H fun σ2 H2 => ts { D with nx := N, ct := N, bk := D.nx } σ2 H2)
    (hd : ∀ Be s B σ H, k s = some r → I Be s B σ H → D.nx σ H) : tFor (iRng2 tas) g ts D σ H := by
  subst he
  obtain ⟨xs, e1, e2⟩ := bd_some hm
  obtain ⟨⟨lo, hi⟩, e3, e4⟩ := bd_some e1
  obtain ⟨hb, ex⟩ := if_some (show (if lo.natAbs < 4611686018427387904 ∧ hi.natAbs < 4611686018427387904 then some (rangeL lo hi) else none) = some xs from e4)
  subst ex
  subst e3
  refine hc B H (Ex.refl B) e (lo, hi, ()) rfl _ fun vs Be H1 g1 hv => ?_
  obtain ⟨v1, _, rfl, h1, v2, _, rfl, h2, h3⟩ := hv
  cases h3
  cases (show v1 = .int lo from h1)
  cases (show v2 = .int hi from h2)
  have hl := rangeL_len lo hi
  refine ⟨lo, hi, rfl, (by omega), forN_run (K := K) (xs := rangeL lo hi) (B := Be) (I Be) (fun i s B σ H hI hi => (by rw [hl] at hi; exact hi)) (fun i s B σ H hI hi => (by rw [hl] at hi; exact hi)) (fun i x s B σ H v H' hI hxi y => ?_) e2 (h0 Be H1 g1) (fun x s B σ H v s' N => hs Be x s B σ H v s' N) (fun s B σ H => hd Be s B σ H)⟩
  obtain ⟨eH, ev⟩ := itr_yld _ hxi y
  subst eH
  exact ⟨B, hI, ev⟩
/-! ### x += e -/
def Ipp (K : Fg) {α β γ : Type} [Rp α] [Rp β] [Rp γ] (ti : TIp) (f : α → β → Option γ) : Prop := ∀ B H x y z vx vy, Ex B H → rp K B vx x → rp K B vy y → f x y = some z → ∀ Q : VK, (∀ v, rp K B v z → Q v H) → ti vx vy H Q
theorem r2_ipadd : Ipp K (ipI fun i j => i + j) (fun i j : Int => some (i + j)) := fun B H x y z vx vy e hx hy ez Q q => by
  cases ez
  exact ⟨x, y, hx, hy, q _ rfl⟩
theorem r2_ipsub : Ipp K (ipI fun i j => i - j) (fun i j : Int => some (i - j)) := fun B H x y z vx vy e hx hy ez Q q => by
  cases ez
  exact ⟨x, y, hx, hy, q _ rfl⟩
theorem st_aug [Rp α] [Rp β] [Rp γ] {i : Nat} {v0 : V} {x0 : α} {ti : TIp} {f : α → β → Option γ} {m : Option β} {m' : Option γ} {k : γ → Option ρ} {r : ρ} (hm : m'.bind k = some r) (e : Ex B H) (hs : σ[i]? = some (some v0)) (h0 : rp K B v0 x0) (hf : Ipp K ti f) (hc : Cp K te σ B m) (he : (m.bind fun y => f x0 y) = m')
    (q : ∀ x v B1 H1, k x = some r → Gr noM B H B1 H1 → rp K B1 v x → D.nx (σ.set i (some v)) H1) : tAug i te ti D σ H := by
  subst he
  obtain ⟨z, e0, e3⟩ := bd_some hm
  obtain ⟨y, e1, e2⟩ := bd_some e0
  refine ⟨v0, hs, hc B H (Ex.refl B) e y e1 _ fun v B1 H1 g hv => ?_⟩
  exact hf B1 H1 x0 y z v0 v g.e (Rp.mono g.b h0) hv e2 _ fun w hw => q z w B1 H1 e3 g hw
end
end Cf
namespace Cf
open PySem L2
/-- an object of one's own changes -/
theorem sw_upd {W B H : Hp} {p : Addr} {o : HO} (e : Ex B H) (w : Ex W H) (d : Dj W B) (hp : W p ≠ none) : Sw W B H (upd W p o) B (upd H p o) :=
  ⟨Gr.mut e hp (d p hp) (w.nn hp), w.two, fun a h => by
    by_cases ea : a = p
    · subst ea
      exact d a hp
    · rw [upd_ne ea] at h
      exact d a h, fun a h => by
    by_cases ea : a = p
    · subst ea
      exact .inl hp
    · rw [upd_ne ea] at h
      exact .inl h⟩
/-- a new object of one's own -/
theorem sw_new {W B H : Hp} {p : Addr} {o : HO} (e : Ex B H) (w : Ex W H) (d : Dj W B) (hp : H p = none) : Sw W B H (upd W p o) B (upd H p o) :=
  ⟨Gr.newM e hp, w.two, fun a h => by
    by_cases ea : a = p
    · subst ea
      exact e.none hp
    · rw [upd_ne ea] at h
      exact d a h, fun a h => by
    by_cases ea : a = p
    · subst ea
      exact .inr hp
    · rw [upd_ne ea] at h
      exact .inl h⟩
end Cf

set_option Elab.async false
set_option linter.all false
set_option maxRecDepth 100000
set_option maxHeartbeats 4000000
namespace Cf
open PySem L2
open Rp (rp)
open RpL (rpl)
open Enc (enc)
structure T6 (α β γ δ ε ζ : Type) where
  a : α
  b : β
  c : γ
  d : δ
  e : ε
  f : ζ
  deriving DecidableEq
instance {α β γ δ ε ζ : Type} [Rp α] [Rp β] [Rp γ] [Rp δ] [Rp ε] [Rp ζ] : Rp (T6 α β γ δ ε ζ) := ⟨fun K B v x => ∃ a u0 u1 u2 u3 u4 u5, v = .ref a ∧ SqT K B a [u0, u1, u2, u3, u4, u5] ∧ rp K B u0 x.a ∧ rp K B u1 x.b ∧ rp K B u2 x.c ∧ rp K B u3 x.d ∧ rp K B u4 x.e ∧ rp K B u5 x.f, fun e ⟨a, u0, u1, u2, u3, u4, u5, h, s, p0, p1, p2, p3, p4, p5⟩ => ⟨a, u0, u1, u2, u3, u4, u5, h, sqt_mono e s, Rp.mono e p0, Rp.mono e p1, Rp.mono e p2, Rp.mono e p3, Rp.mono e p4, Rp.mono e p5⟩⟩
instance {α β γ δ ε ζ : Type} [Enc α] [Enc β] [Enc γ] [Enc δ] [Enc ε] [Enc ζ] : Enc (T6 α β γ δ ε ζ) where
  enc := fun x => PyData.tuple [enc x.a, enc x.b, enc x.c, enc x.d, enc x.e, enc x.f]
  to := fun h => by
    obtain ⟨a, u0, u1, u2, u3, u4, u5, rfl, s, p0, p1, p2, p3, p4, p5⟩ := h
    exact .tup s (.cons (Enc.to p0) (.cons (Enc.to p1) (.cons (Enc.to p2) (.cons (Enc.to p3) (.cons (Enc.to p4) (.cons (Enc.to p5) .nil))))))
instance {α β γ δ ε : Type} [Rp α] [Rp β] [Rp γ] [Rp δ] [Rp ε] [Flat α] [Flat β] [Flat γ] [Flat δ] [Flat ε] : Flat (T5 α β γ δ ε) := ⟨fun e ⟨a, u0, u1, u2, u3, u4, h, s, p0, p1, p2, p3, p4⟩ => ⟨a, u0, u1, u2, u3, u4, h, sqt_flat e s, Flat.flat e p0, Flat.flat e p1, Flat.flat e p2, Flat.flat e p3, Flat.flat e p4⟩⟩
instance {α β γ δ ε : Type} [Rp α] [Rp β] [Rp γ] [Rp δ] [Rp ε] : Nn (T5 α β γ δ ε) := ⟨fun ⟨a, u0, u1, u2, u3, u4, h, _⟩ z => by rw [z] at h; exact nomatch h⟩
instance {α β γ δ ε : Type} [Eqv α] [Eqv β] [Eqv γ] [Eqv δ] [Eqv ε] : Eqn (T5 α β γ δ ε) where
  pl := fun x => by
    show ((enc x.a).plain && ((enc x.b).plain && ((enc x.c).plain && ((enc x.d).plain && ((enc x.e).plain && true))))) = true
    rw [Eqv.pl, Eqv.pl, Eqv.pl, Eqv.pl, Eqv.pl]
    rfl
  deep := max (Eqv.deep α) (max (Eqv.deep β) (max (Eqv.deep γ) (max (Eqv.deep δ) (Eqv.deep ε)))) + 1
  dep := fun x => Nat.succ_le_succ (by
    show max (enc x.a).depth (max (enc x.b).depth (max (enc x.c).depth (max (enc x.d).depth (max (enc x.e).depth (0))))) ≤ _
    have h0 := Eqv.dep x.a
    have h1 := Eqv.dep x.b
    have h2 := Eqv.dep x.c
    have h3 := Eqv.dep x.d
    have h4 := Eqv.dep x.e
    omega)
  dec := by
    have : DecidableEq α := Eqv.dec
    have : DecidableEq β := Eqv.dec
    have : DecidableEq γ := Eqv.dec
    have : DecidableEq δ := Eqv.dec
    have : DecidableEq ε := Eqv.dec
    infer_instance
  eqv := fun x y => by
    show (PyData.eqv (enc x.a) (enc y.a) && (PyData.eqv (enc x.b) (enc y.b) && (PyData.eqv (enc x.c) (enc y.c) && (PyData.eqv (enc x.d) (enc y.d) && (PyData.eqv (enc x.e) (enc y.e) && true))))) = true ↔ _
    rw [Bool.and_eq_true, Bool.and_eq_true, Bool.and_eq_true,  and3, Eqv.eqv, Eqv.eqv, Eqv.eqv, Eqv.eqv, Eqv.eqv]
    cases x
    cases y
    simp
  nn := fun _ => ⟨rfl, rfl⟩
instance {α β γ δ ε ζ : Type} [Rp α] [Rp β] [Rp γ] [Rp δ] [Rp ε] [Rp ζ] [Flat α] [Flat β] [Flat γ] [Flat δ] [Flat ε] [Flat ζ] : Flat (T6 α β γ δ ε ζ) := ⟨fun e ⟨a, u0, u1, u2, u3, u4, u5, h, s, p0, p1, p2, p3, p4, p5⟩ => ⟨a, u0, u1, u2, u3, u4, u5, h, sqt_flat e s, Flat.flat e p0, Flat.flat e p1, Flat.flat e p2, Flat.flat e p3, Flat.flat e p4, Flat.flat e p5⟩⟩
instance {α β γ δ ε ζ : Type} [Rp α] [Rp β] [Rp γ] [Rp δ] [Rp ε] [Rp ζ] : Nn (T6 α β γ δ ε ζ) := ⟨fun ⟨a, u0, u1, u2, u3, u4, u5, h, _⟩ z => by rw [z] at h; exact nomatch h⟩
instance {α β γ δ ε ζ : Type} [Eqv α] [Eqv β] [Eqv γ] [Eqv δ] [Eqv ε] [Eqv ζ] : Eqn (T6 α β γ δ ε ζ) where
  pl := fun x => by
    show ((enc x.a).plain && ((enc x.b).plain && ((enc x.c).plain && ((enc x.d).plain && ((enc x.e).plain && ((enc x.f).plain && true)))))) = true
    rw [Eqv.pl, Eqv.pl, Eqv.pl, Eqv.pl, Eqv.pl, Eqv.pl]
    rfl
  deep := max (Eqv.deep α) (max (Eqv.deep β) (max (Eqv.deep γ) (max (Eqv.deep δ) (max (Eqv.deep ε) (Eqv.deep ζ))))) + 1
  dep := fun x => Nat.succ_le_succ (by
    show max (enc x.a).depth (max (enc x.b).depth (max (enc x.c).depth (max (enc x.d).depth (max (enc x.e).depth (max (enc x.f).depth (0)))))) ≤ _
    have h0 := Eqv.dep x.a
    have h1 := Eqv.dep x.b
    have h2 := Eqv.dep x.c
    have h3 := Eqv.dep x.d
    have h4 := Eqv.dep x.e
    have h5 := Eqv.dep x.f
    omega)
  dec := by
    have : DecidableEq α := Eqv.dec
    have : DecidableEq β := Eqv.dec
    have : DecidableEq γ := Eqv.dec
    have : DecidableEq δ := Eqv.dec
    have : DecidableEq ε := Eqv.dec
    have : DecidableEq ζ := Eqv.dec
    infer_instance
  eqv := fun x y => by
    show (PyData.eqv (enc x.a) (enc y.a) && (PyData.eqv (enc x.b) (enc y.b) && (PyData.eqv (enc x.c) (enc y.c) && (PyData.eqv (enc x.d) (enc y.d) && (PyData.eqv (enc x.e) (enc y.e) && (PyData.eqv (enc x.f) (enc y.f) && true)))))) = true ↔ _
    rw [Bool.and_eq_true, Bool.and_eq_true, Bool.and_eq_true, Bool.and_eq_true,  and3, Eqv.eqv, Eqv.eqv, Eqv.eqv, Eqv.eqv, Eqv.eqv, Eqv.eqv]
    cases x
    cases y
    simp
  nn := fun _ => ⟨rfl, rfl⟩
section
variable {K : Fg} {σ : L2.St} {B H B' H' : Hp} {te ta tb tc : TE} {tt tu : TT} {tas : TA} {α β γ δ ε ζ τ ρ S : Type} {P : Ow S}
theorem cp_tup4 [Rp α] [Rp β] [Rp γ] [Rp δ] {m : Option (α × β × γ × δ × Unit)} (h : Ca K tas σ B m) : Cp K (tTup tas) σ B (m.bind fun t => some (T4.mk t.1 t.2.1 t.2.2.1 t.2.2.2.1)) := fun B1 H1 b e z em Q q => by
  obtain ⟨t, e1, em⟩ := bd_some em
  cases em
  refine h B1 H1 b e t e1 _ fun vs B2 H2 g2 hv => ?_
  obtain ⟨v0, _, rfl, h0, v1, _, rfl, h1, v2, _, rfl, h2, v3, _, rfl, h3, hz⟩ := hv
  cases hz
  exact ⟨by show 4 ≤ sizeLine; decide, fun p np => q _ (upd B2 p (.tup [v0, v1, v2, v3])) _ (g2.trans (Gr.new g2.e np)) ⟨p, v0, v1, v2, v3, rfl, .inl (.inl upd_same), Rp.mono (Ex.new (g2.e.none np)) h0, Rp.mono (Ex.new (g2.e.none np)) h1, Rp.mono (Ex.new (g2.e.none np)) h2, Rp.mono (Ex.new (g2.e.none np)) h3⟩⟩
theorem cs_tup4 [Rp α] [Rp β] [Rp γ] [Rp δ] [OwOk P] {m : S → Option ((α × β × γ × δ × Unit) × S)} (h : Csa K P tas σ B m) : Cs K P (tTup tas) σ B (fun s => (m s).bind fun t => some (T4.mk t.1.1 t.1.2.1 t.1.2.2.1 t.1.2.2.2.1, t.2)) := fun B1 H1 W s b e w d p z s' em Q q => by
  obtain ⟨⟨t, s1⟩, e1, em⟩ := bd_some em
  cases em
  refine h B1 H1 W s b e w d p t _ e1 _ fun vs B2 H2 W2 sw p2 hv => ?_
  obtain ⟨v0, _, rfl, h0, v1, _, rfl, h1, v2, _, rfl, h2, v3, _, rfl, h3, hz⟩ := hv
  cases hz
  exact ⟨by show 4 ≤ sizeLine; decide, fun c np => q _ (upd B2 c (.tup [v0, v1, v2, v3])) _ W2 (sw.trans (Sw.pure (Gr.new sw.g.e np) sw.w sw.d)) (OwOk.mono (Ex.new (sw.g.e.none np)) p2) ⟨c, v0, v1, v2, v3, rfl, .inl (.inl upd_same), Rp.mono (Ex.new (sw.g.e.none np)) h0, Rp.mono (Ex.new (sw.g.e.none np)) h1, Rp.mono (Ex.new (sw.g.e.none np)) h2, Rp.mono (Ex.new (sw.g.e.none np)) h3⟩⟩
theorem cp_tup5 [Rp α] [Rp β] [Rp γ] [Rp δ] [Rp ε] {m : Option (α × β × γ × δ × ε × Unit)} (h : Ca K tas σ B m) : Cp K (tTup tas) σ B (m.bind fun t => some (T5.mk t.1 t.2.1 t.2.2.1 t.2.2.2.1 t.2.2.2.2.1)) := fun B1 H1 b e z em Q q => by
  obtain ⟨t, e1, em⟩ := bd_some em
  cases em
  refine h B1 H1 b e t e1 _ fun vs B2 H2 g2 hv => ?_
  obtain ⟨v0, _, rfl, h0, v1, _, rfl, h1, v2, _, rfl, h2, v3, _, rfl, h3, v4, _, rfl, h4, hz⟩ := hv
  cases hz
  exact ⟨by show 5 ≤ sizeLine; decide, fun p np => q _ (upd B2 p (.tup [v0, v1, v2, v3, v4])) _ (g2.trans (Gr.new g2.e np)) ⟨p, v0, v1, v2, v3, v4, rfl, .inl (.inl upd_same), Rp.mono (Ex.new (g2.e.none np)) h0, Rp.mono (Ex.new (g2.e.none np)) h1, Rp.mono (Ex.new (g2.e.none np)) h2, Rp.mono (Ex.new (g2.e.none np)) h3, Rp.mono (Ex.new (g2.e.none np)) h4⟩⟩
theorem cs_tup5 [Rp α] [Rp β] [Rp γ] [Rp δ] [Rp ε] [OwOk P] {m : S → Option ((α × β × γ × δ × ε × Unit) × S)} (h : Csa K P tas σ B m) : Cs K P (tTup tas) σ B (fun s => (m s).bind fun t => some (T5.mk t.1.1 t.1.2.1 t.1.2.2.1 t.1.2.2.2.1 t.1.2.2.2.2.1, t.2)) := fun B1 H1 W s b e w d p z s' em Q q => by
  obtain ⟨⟨t, s1⟩, e1, em⟩ := bd_some em
  cases em
  refine h B1 H1 W s b e w d p t _ e1 _ fun vs B2 H2 W2 sw p2 hv => ?_
  obtain ⟨v0, _, rfl, h0, v1, _, rfl, h1, v2, _, rfl, h2, v3, _, rfl, h3, v4, _, rfl, h4, hz⟩ := hv
  cases hz
  exact ⟨by show 5 ≤ sizeLine; decide, fun c np => q _ (upd B2 c (.tup [v0, v1, v2, v3, v4])) _ W2 (sw.trans (Sw.pure (Gr.new sw.g.e np) sw.w sw.d)) (OwOk.mono (Ex.new (sw.g.e.none np)) p2) ⟨c, v0, v1, v2, v3, v4, rfl, .inl (.inl upd_same), Rp.mono (Ex.new (sw.g.e.none np)) h0, Rp.mono (Ex.new (sw.g.e.none np)) h1, Rp.mono (Ex.new (sw.g.e.none np)) h2, Rp.mono (Ex.new (sw.g.e.none np)) h3, Rp.mono (Ex.new (sw.g.e.none np)) h4⟩⟩
theorem cp_tup6 [Rp α] [Rp β] [Rp γ] [Rp δ] [Rp ε] [Rp ζ] {m : Option (α × β × γ × δ × ε × ζ × Unit)} (h : Ca K tas σ B m) : Cp K (tTup tas) σ B (m.bind fun t => some (T6.mk t.1 t.2.1 t.2.2.1 t.2.2.2.1 t.2.2.2.2.1 t.2.2.2.2.2.1)) := fun B1 H1 b e z em Q q => by
  obtain ⟨t, e1, em⟩ := bd_some em
  cases em
  refine h B1 H1 b e t e1 _ fun vs B2 H2 g2 hv => ?_
  obtain ⟨v0, _, rfl, h0, v1, _, rfl, h1, v2, _, rfl, h2, v3, _, rfl, h3, v4, _, rfl, h4, v5, _, rfl, h5, hz⟩ := hv
  cases hz
  exact ⟨by show 6 ≤ sizeLine; decide, fun p np => q _ (upd B2 p (.tup [v0, v1, v2, v3, v4, v5])) _ (g2.trans (Gr.new g2.e np)) ⟨p, v0, v1, v2, v3, v4, v5, rfl, .inl (.inl upd_same), Rp.mono (Ex.new (g2.e.none np)) h0, Rp.mono (Ex.new (g2.e.none np)) h1, Rp.mono (Ex.new (g2.e.none np)) h2, Rp.mono (Ex.new (g2.e.none np)) h3, Rp.mono (Ex.new (g2.e.none np)) h4, Rp.mono (Ex.new (g2.e.none np)) h5⟩⟩
theorem cs_tup6 [Rp α] [Rp β] [Rp γ] [Rp δ] [Rp ε] [Rp ζ] [OwOk P] {m : S → Option ((α × β × γ × δ × ε × ζ × Unit) × S)} (h : Csa K P tas σ B m) : Cs K P (tTup tas) σ B (fun s => (m s).bind fun t => some (T6.mk t.1.1 t.1.2.1 t.1.2.2.1 t.1.2.2.2.1 t.1.2.2.2.2.1 t.1.2.2.2.2.2.1, t.2)) := fun B1 H1 W s b e w d p z s' em Q q => by
  obtain ⟨⟨t, s1⟩, e1, em⟩ := bd_some em
  cases em
  refine h B1 H1 W s b e w d p t _ e1 _ fun vs B2 H2 W2 sw p2 hv => ?_
  obtain ⟨v0, _, rfl, h0, v1, _, rfl, h1, v2, _, rfl, h2, v3, _, rfl, h3, v4, _, rfl, h4, v5, _, rfl, h5, hz⟩ := hv
  cases hz
  exact ⟨by show 6 ≤ sizeLine; decide, fun c np => q _ (upd B2 c (.tup [v0, v1, v2, v3, v4, v5])) _ W2 (sw.trans (Sw.pure (Gr.new sw.g.e np) sw.w sw.d)) (OwOk.mono (Ex.new (sw.g.e.none np)) p2) ⟨c, v0, v1, v2, v3, v4, v5, rfl, .inl (.inl upd_same), Rp.mono (Ex.new (sw.g.e.none np)) h0, Rp.mono (Ex.new (sw.g.e.none np)) h1, Rp.mono (Ex.new (sw.g.e.none np)) h2, Rp.mono (Ex.new (sw.g.e.none np)) h3, Rp.mono (Ex.new (sw.g.e.none np)) h4, Rp.mono (Ex.new (sw.g.e.none np)) h5⟩⟩
theorem cp_item3_0 [Rp α] [Rp β] [Rp γ] {m : Option (T3 α β γ)} (h : Cp K ta σ B m) : Cp K (tOp (rIxT K) ta (tC (.int 0))) σ B (m.bind fun x => some x.a) := cp_ixT (fun h => by obtain ⟨a, u0, u1, u2, h, s, p0, p1, p2⟩ := h; exact ⟨a, _, u0, h, s, rfl, p0⟩) h
theorem cp_item3_1 [Rp α] [Rp β] [Rp γ] {m : Option (T3 α β γ)} (h : Cp K ta σ B m) : Cp K (tOp (rIxT K) ta (tC (.int 1))) σ B (m.bind fun x => some x.b) := cp_ixT (fun h => by obtain ⟨a, u0, u1, u2, h, s, p0, p1, p2⟩ := h; exact ⟨a, _, u1, h, s, rfl, p1⟩) h
theorem cp_item3_2 [Rp α] [Rp β] [Rp γ] {m : Option (T3 α β γ)} (h : Cp K ta σ B m) : Cp K (tOp (rIxT K) ta (tC (.int 2))) σ B (m.bind fun x => some x.c) := cp_ixT (fun h => by obtain ⟨a, u0, u1, u2, h, s, p0, p1, p2⟩ := h; exact ⟨a, _, u2, h, s, rfl, p2⟩) h
theorem isi_tuple3 [Rp α] [Rp β] [Rp γ] : Isi (T3 α β γ) K "tuple" (fun _ => true) := fun h => by
  obtain ⟨a, u0, u1, u2, rfl, s, _⟩ := h
  exact ⟨_, tyx_sqt s, kit_tuple_tuple⟩
theorem isi_otuple3 [Rp α] [Rp β] [Rp γ] : Isi (Option (T3 α β γ)) K "tuple" (fun x => x.isSome) := fun {B v x} h => by
  cases x with
  | none =>
    cases (show v = V.non from h)
    exact ⟨_, .base .non, kit_NoneType_tuple⟩
  | some y =>
    obtain ⟨a, u0, u1, u2, rfl, s, _⟩ := (show rp K B v y from h)
    exact ⟨_, tyx_sqt s, kit_tuple_tuple⟩
theorem cp_item4_0 [Rp α] [Rp β] [Rp γ] [Rp δ] {m : Option (T4 α β γ δ)} (h : Cp K ta σ B m) : Cp K (tOp (rIxT K) ta (tC (.int 0))) σ B (m.bind fun x => some x.a) := cp_ixT (fun h => by obtain ⟨a, u0, u1, u2, u3, h, s, p0, p1, p2, p3⟩ := h; exact ⟨a, _, u0, h, s, rfl, p0⟩) h
theorem cp_item4_1 [Rp α] [Rp β] [Rp γ] [Rp δ] {m : Option (T4 α β γ δ)} (h : Cp K ta σ B m) : Cp K (tOp (rIxT K) ta (tC (.int 1))) σ B (m.bind fun x => some x.b) := cp_ixT (fun h => by obtain ⟨a, u0, u1, u2, u3, h, s, p0, p1, p2, p3⟩ := h; exact ⟨a, _, u1, h, s, rfl, p1⟩) h
theorem cp_item4_2 [Rp α] [Rp β] [Rp γ] [Rp δ] {m : Option (T4 α β γ δ)} (h : Cp K ta σ B m) : Cp K (tOp (rIxT K) ta (tC (.int 2))) σ B (m.bind fun x => some x.c) := cp_ixT (fun h => by obtain ⟨a, u0, u1, u2, u3, h, s, p0, p1, p2, p3⟩ := h; exact ⟨a, _, u2, h, s, rfl, p2⟩) h
theorem cp_item4_3 [Rp α] [Rp β] [Rp γ] [Rp δ] {m : Option (T4 α β γ δ)} (h : Cp K ta σ B m) : Cp K (tOp (rIxT K) ta (tC (.int 3))) σ B (m.bind fun x => some x.d) := cp_ixT (fun h => by obtain ⟨a, u0, u1, u2, u3, h, s, p0, p1, p2, p3⟩ := h; exact ⟨a, _, u3, h, s, rfl, p3⟩) h
theorem isi_tuple4 [Rp α] [Rp β] [Rp γ] [Rp δ] : Isi (T4 α β γ δ) K "tuple" (fun _ => true) := fun h => by
  obtain ⟨a, u0, u1, u2, u3, rfl, s, _⟩ := h
  exact ⟨_, tyx_sqt s, kit_tuple_tuple⟩
theorem isi_otuple4 [Rp α] [Rp β] [Rp γ] [Rp δ] : Isi (Option (T4 α β γ δ)) K "tuple" (fun x => x.isSome) := fun {B v x} h => by
  cases x with
  | none =>
    cases (show v = V.non from h)
    exact ⟨_, .base .non, kit_NoneType_tuple⟩
  | some y =>
    obtain ⟨a, u0, u1, u2, u3, rfl, s, _⟩ := (show rp K B v y from h)
    exact ⟨_, tyx_sqt s, kit_tuple_tuple⟩
theorem cp_item5_0 [Rp α] [Rp β] [Rp γ] [Rp δ] [Rp ε] {m : Option (T5 α β γ δ ε)} (h : Cp K ta σ B m) : Cp K (tOp (rIxT K) ta (tC (.int 0))) σ B (m.bind fun x => some x.a) := cp_ixT (fun h => by obtain ⟨a, u0, u1, u2, u3, u4, h, s, p0, p1, p2, p3, p4⟩ := h; exact ⟨a, _, u0, h, s, rfl, p0⟩) h
theorem cp_item5_1 [Rp α] [Rp β] [Rp γ] [Rp δ] [Rp ε] {m : Option (T5 α β γ δ ε)} (h : Cp K ta σ B m) : Cp K (tOp (rIxT K) ta (tC (.int 1))) σ B (m.bind fun x => some x.b) := cp_ixT (fun h => by obtain ⟨a, u0, u1, u2, u3, u4, h, s, p0, p1, p2, p3, p4⟩ := h; exact ⟨a, _, u1, h, s, rfl, p1⟩) h
theorem cp_item5_2 [Rp α] [Rp β] [Rp γ] [Rp δ] [Rp ε] {m : Option (T5 α β γ δ ε)} (h : Cp K ta σ B m) : Cp K (tOp (rIxT K) ta (tC (.int 2))) σ B (m.bind fun x => some x.c) := cp_ixT (fun h => by obtain ⟨a, u0, u1, u2, u3, u4, h, s, p0, p1, p2, p3, p4⟩ := h; exact ⟨a, _, u2, h, s, rfl, p2⟩) h
theorem cp_item5_3 [Rp α] [Rp β] [Rp γ] [Rp δ] [Rp ε] {m : Option (T5 α β γ δ ε)} (h : Cp K ta σ B m) : Cp K (tOp (rIxT K) ta (tC (.int 3))) σ B (m.bind fun x => some x.d) := cp_ixT (fun h => by obtain ⟨a, u0, u1, u2, u3, u4, h, s, p0, p1, p2, p3, p4⟩ := h; exact ⟨a, _, u3, h, s, rfl, p3⟩) h
theorem cp_item5_4 [Rp α] [Rp β] [Rp γ] [Rp δ] [Rp ε] {m : Option (T5 α β γ δ ε)} (h : Cp K ta σ B m) : Cp K (tOp (rIxT K) ta (tC (.int 4))) σ B (m.bind fun x => some x.e) := cp_ixT (fun h => by obtain ⟨a, u0, u1, u2, u3, u4, h, s, p0, p1, p2, p3, p4⟩ := h; exact ⟨a, _, u4, h, s, rfl, p4⟩) h
theorem isi_tuple5 [Rp α] [Rp β] [Rp γ] [Rp δ] [Rp ε] : Isi (T5 α β γ δ ε) K "tuple" (fun _ => true) := fun h => by
  obtain ⟨a, u0, u1, u2, u3, u4, rfl, s, _⟩ := h
  exact ⟨_, tyx_sqt s, kit_tuple_tuple⟩
theorem isi_otuple5 [Rp α] [Rp β] [Rp γ] [Rp δ] [Rp ε] : Isi (Option (T5 α β γ δ ε)) K "tuple" (fun x => x.isSome) := fun {B v x} h => by
  cases x with
  | none =>
    cases (show v = V.non from h)
    exact ⟨_, .base .non, kit_NoneType_tuple⟩
  | some y =>
    obtain ⟨a, u0, u1, u2, u3, u4, rfl, s, _⟩ := (show rp K B v y from h)
    exact ⟨_, tyx_sqt s, kit_tuple_tuple⟩
theorem cp_item6_0 [Rp α] [Rp β] [Rp γ] [Rp δ] [Rp ε] [Rp ζ] {m : Option (T6 α β γ δ ε ζ)} (h : Cp K ta σ B m) : Cp K (tOp (rIxT K) ta (tC (.int 0))) σ B (m.bind fun x => some x.a) := cp_ixT (fun h => by obtain ⟨a, u0, u1, u2, u3, u4, u5, h, s, p0, p1, p2, p3, p4, p5⟩ := h; exact ⟨a, _, u0, h, s, rfl, p0⟩) h
theorem cp_item6_1 [Rp α] [Rp β] [Rp γ] [Rp δ] [Rp ε] [Rp ζ] {m : Option (T6 α β γ δ ε ζ)} (h : Cp K ta σ B m) : Cp K (tOp (rIxT K) ta (tC (.int 1))) σ B (m.bind fun x => some x.b) := cp_ixT (fun h => by obtain ⟨a, u0, u1, u2, u3, u4, u5, h, s, p0, p1, p2, p3, p4, p5⟩ := h; exact ⟨a, _, u1, h, s, rfl, p1⟩) h
theorem cp_item6_2 [Rp α] [Rp β] [Rp γ] [Rp δ] [Rp ε] [Rp ζ] {m : Option (T6 α β γ δ ε ζ)} (h : Cp K ta σ B m) : Cp K (tOp (rIxT K) ta (tC (.int 2))) σ B (m.bind fun x => some x.c) := cp_ixT (fun h => by obtain ⟨a, u0, u1, u2, u3, u4, u5, h, s, p0, p1, p2, p3, p4, p5⟩ := h; exact ⟨a, _, u2, h, s, rfl, p2⟩) h
theorem cp_item6_3 [Rp α] [Rp β] [Rp γ] [Rp δ] [Rp ε] [Rp ζ] {m : Option (T6 α β γ δ ε ζ)} (h : Cp K ta σ B m) : Cp K (tOp (rIxT K) ta (tC (.int 3))) σ B (m.bind fun x => some x.d) := cp_ixT (fun h => by obtain ⟨a, u0, u1, u2, u3, u4, u5, h, s, p0, p1, p2, p3, p4, p5⟩ := h; exact ⟨a, _, u3, h, s, rfl, p3⟩) h
theorem cp_item6_4 [Rp α] [Rp β] [Rp γ] [Rp δ] [Rp ε] [Rp ζ] {m : Option (T6 α β γ δ ε ζ)} (h : Cp K ta σ B m) : Cp K (tOp (rIxT K) ta (tC (.int 4))) σ B (m.bind fun x => some x.e) := cp_ixT (fun h => by obtain ⟨a, u0, u1, u2, u3, u4, u5, h, s, p0, p1, p2, p3, p4, p5⟩ := h; exact ⟨a, _, u4, h, s, rfl, p4⟩) h
theorem cp_item6_5 [Rp α] [Rp β] [Rp γ] [Rp δ] [Rp ε] [Rp ζ] {m : Option (T6 α β γ δ ε ζ)} (h : Cp K ta σ B m) : Cp K (tOp (rIxT K) ta (tC (.int 5))) σ B (m.bind fun x => some x.f) := cp_ixT (fun h => by obtain ⟨a, u0, u1, u2, u3, u4, u5, h, s, p0, p1, p2, p3, p4, p5⟩ := h; exact ⟨a, _, u5, h, s, rfl, p5⟩) h
theorem isi_tuple6 [Rp α] [Rp β] [Rp γ] [Rp δ] [Rp ε] [Rp ζ] : Isi (T6 α β γ δ ε ζ) K "tuple" (fun _ => true) := fun h => by
  obtain ⟨a, u0, u1, u2, u3, u4, u5, rfl, s, _⟩ := h
  exact ⟨_, tyx_sqt s, kit_tuple_tuple⟩
theorem isi_otuple6 [Rp α] [Rp β] [Rp γ] [Rp δ] [Rp ε] [Rp ζ] : Isi (Option (T6 α β γ δ ε ζ)) K "tuple" (fun x => x.isSome) := fun {B v x} h => by
  cases x with
  | none =>
    cases (show v = V.non from h)
    exact ⟨_, .base .non, kit_NoneType_tuple⟩
  | some y =>
    obtain ⟨a, u0, u1, u2, u3, u4, u5, rfl, s, _⟩ := (show rp K B v y from h)
    exact ⟨_, tyx_sqt s, kit_tuple_tuple⟩
end
end Cf

set_option Elab.async false
set_option linter.all false
set_option maxRecDepth 100000
set_option maxHeartbeats 4000000
namespace Cf
open PySem L2
open Rp (rp)
open RpL (rpl)
open Enc (enc)
/-! ### objects of one's own whose attributes are values -/
def OwRec {τ : Type} [RpL τ] (K : Fg) (C : Str) (nm : List Str) (a : Addr) : Ow τ := fun W B s => ∃ dx vs, W = sing a (.ins (He.ga K C) dx (nm.zip vs)) ∧ vs.length = nm.length ∧ rpl K B vs s
instance {τ : Type} [RpL τ] {K : Fg} {C : Str} {nm : List Str} {a : Addr} : OwOk (OwRec (τ := τ) K C nm a) := ⟨fun e ⟨dx, vs, h, n, r⟩ => ⟨dx, vs, h, n, RpL.mono e r⟩, fun {W B s b o} ⟨dx, vs, h, n, r⟩ e => by
  subst h
  have := sing_dom (nn e)
  subst this
  rw [sing_at] at e
  cases e
  rfl⟩
structure Fd {τ γ : Type} [RpL τ] [Rp γ] (nm : List Str) (f : Str) (get : τ → γ) (put : τ → γ → τ) : Prop where
  g : ∀ {K : Fg} {B : Hp} {vs : List V} {s : τ}, rpl K B vs s → ∃ u, (nm.zip vs).lookup f = some u ∧ rp K B u (get s)
  p : ∀ {K : Fg} {B : Hp} {vs : List V} {s : τ} {u : V} {x : γ}, rpl K B vs s → rp K B u x → ∃ ws, putF f u (nm.zip vs) = nm.zip ws ∧ ws.length = vs.length ∧ rpl K B ws (put s x)
theorem look_here {f : Str} {v : V} {r : List (Str × V)} : ((f, v) :: r).lookup f = some v := by
  show (match (f == f) with | true => some v | false => r.lookup f) = some v
  rw [beq_self_eq_true]
theorem look_there {f g : Str} {v : V} {r : List (Str × V)} (h : (f == g) = false) : ((g, v) :: r).lookup f = r.lookup f := by
  show (match (f == g) with | true => some v | false => r.lookup f) = _
  rw [h]
theorem put_here {f : Str} {u v : V} {r : List (Str × V)} : putF f u ((f, v) :: r) = (f, u) :: r := if_pos rfl
theorem put_there {f g : Str} {u v : V} {r : List (Str × V)} (h : (f == g) = false) : putF f u ((g, v) :: r) = (g, v) :: putF f u r := if_neg (fun z => by rw [z, beq_self_eq_true] at h; cases h)
theorem fd_here {γ τ : Type} [Rp γ] [RpL τ] {f : Str} {nm : List Str} : Fd (τ := γ × τ) (f :: nm) f (fun s => s.1) (fun s x => (x, s.2)) := ⟨fun ⟨v, us, h, p, q⟩ => by
  subst h
  exact ⟨v, look_here, p⟩, fun {K B vs s u x} ⟨v, us, h, p, q⟩ hu => by
  subst h
  exact ⟨u :: us, put_here, rfl, u, us, rfl, hu, q⟩⟩
theorem fd_there {γ τ δ : Type} [Rp γ] [RpL τ] [Rp δ] {f g : Str} {nm : List Str} {get : τ → γ} {put : τ → γ → τ} (h : Fd nm f get put) (ne : (f == g) = false := by decide) : Fd (τ := δ × τ) (g :: nm) f (fun s => get s.2) (fun s x => (s.1, put s.2 x)) := ⟨fun ⟨v, us, hv, p, q⟩ => by
  subst hv
  obtain ⟨u, h1, h2⟩ := h.g q
  exact ⟨u, (look_there ne).trans h1, h2⟩, fun {K B vs s u x} ⟨v, us, hv, p, q⟩ hu => by
  subst hv
  obtain ⟨ws, h1, h2, h3⟩ := h.p q hu
  exact ⟨v :: ws, (put_there ne).trans (congrArg _ h1), congrArg Nat.succ h2, v, ws, rfl, p, h3⟩⟩
/-- a new attribute -/
structure Ad {τ γ τ' : Type} [RpL τ] [Rp γ] [RpL τ'] (nm : List Str) (f : Str) (nm' : List Str) (add : τ → γ → τ') : Prop where
  a : ∀ {K : Fg} {B : Hp} {vs : List V} {s : τ} {u : V} {x : γ}, rpl K B vs s → vs.length = nm.length → rp K B u x → ∃ ws, putF f u (nm.zip vs) = nm'.zip ws ∧ ws.length = nm'.length ∧ rpl K B ws (add s x)
theorem ad_nil {γ : Type} [Rp γ] {f : Str} : Ad (τ := Unit) (τ' := γ × Unit) [] f [f] (fun _ x => (x, ())) := ⟨fun {K B vs s u x} h _ hu => by
  cases (show vs = [] from h)
  exact ⟨[u], rfl, rfl, u, [], rfl, hu, rfl⟩⟩
theorem ad_cons {γ τ τ' δ : Type} [Rp γ] [RpL τ] [RpL τ'] [Rp δ] {f g : Str} {nm nm' : List Str} {add : τ → γ → τ'} (h : Ad nm f nm' add) (ne : (f == g) = false := by decide) : Ad (τ := δ × τ) (τ' := δ × τ') (g :: nm) f (g :: nm') (fun s x => (s.1, add s.2 x)) := ⟨fun {K B vs s u x} ⟨v, us, hv, p, q⟩ hl hu => by
  subst hv
  obtain ⟨ws, h1, h2, h3⟩ := h.a q (Nat.succ.inj hl) hu
  exact ⟨v :: ws, (put_there ne).trans (congrArg _ h1), congrArg Nat.succ h2, v, ws, rfl, p, h3⟩⟩
section
variable {K : Fg} {M : Ms} {Bs Hs W : Hp} {σ : L2.St} {B H B' H' : Hp} {te ta tb tc : TE} {tt tu : TT} {tas : TA} {α β γ δ τ τ' ρ S S' S1 S2 Z R : Type} {P : Ow S} {s : S} {D : Ends} {t u ts : TS} {g : TG}
theorem zip_none {m : Str} : ∀ {nm : List Str} (vs : List V), m ∉ nm → (nm.zip vs).lookup m = none
  | [], _, _ => rfl
  | _ :: _, [], _ => rfl
  | g :: nm, v :: vs, h => by
    have hne : (m == g) = false := beq_eq_false_iff_ne.mpr fun z => h (by rw [z]; exact List.mem_cons_self)
    exact (look_there hne).trans (zip_none vs fun z => h (List.mem_cons_of_mem _ z))
theorem rec_obj [RpL τ] {C : Str} {nm : List Str} {m : Str} (h : m ∉ nm) : IsObj (OwRec (τ := τ) K C nm) K C m := fun {a W B s} ⟨dx, vs, hw, hl, r⟩ => by
  subst hw
  exact ⟨dx, _, sing_at, zip_none vs h⟩
/-- an attribute, read -/
theorem cp_recfld [RpL τ] [Rp γ] {C f : Str} {nm : List Str} {a : Addr} {i : Nat} {get : S → τ} {put : S → τ → S} {gf : τ → γ} {pf : τ → γ → τ} (l : Ln P (OwRec K C nm a) get put) (fd : Fd nm f gf pf) (hs : σ[i]? = some (some (.ref a))) (c : Cls K (He.ga K C)) (n : NoAttr K (He.ga K C) f) (p : P W B s) (d : Dj W B) :
    Cp K (tFld K (tVar i) f) σ (uni W B) (some (gf (get s))) := by
  obtain ⟨V1, V2, hV, dV, ⟨dx, vs, h1, h2, h3⟩, _⟩ := l.open_ W B s p
  subst hV h1
  obtain ⟨u, e1, e2⟩ := fd.g h3
  exact cp_ownfld hs (uni_l (uni_l sing_at)) c n e1 (Rp.mono (ex_uni_r d) e2)
theorem upd_uni {V1 V2 : Hp} {a : Addr} {o o' : HO} : upd (uni (sing a o) V2) a o' = uni (sing a o') V2 := by
  funext b
  by_cases eb : b = a
  · subst eb
    rw [upd_same, uni_l sing_at]
  · rw [upd_ne eb, uni_r (sing_ne eb), uni_r (sing_ne eb)]
/-- self.f = e -/
theorem st_setF [RpL τ] [Rp γ] {C f : Str} {nm : List Str} {a : Addr} {i : Nat} {get : S → τ} {put : S → τ → S} {gf : τ → γ} {pf : τ → γ → τ} (l : Ln P (OwRec K C nm a) get put) (fd : Fd nm f gf pf) (hl : nm.length < 1000) (hs : σ[i]? = some (some (.ref a))) (c : Cls K (He.ga K C)) (n : NoAttr K (He.ga K C) f)
    {m : S → Option (γ × S)} {m' : Option (γ × S)} {k : γ × S → Option ρ} {r : ρ} (hm : m'.bind k = some r) (N : Now M Bs Hs P W B H s) (hc : Cs K P te σ B m) (he : m s = m')
    (q : ∀ x s1 W1 B1 H1, k (x, s1) = some r → Now M Bs Hs P W1 B1 H1 (put s1 (pf (get s1) x)) → Ex B B1 → D.nx σ H1) : sFld K (tVar i) te f D σ H := by
  subst he
  obtain ⟨⟨x, s1⟩, e1, e2⟩ := bd_some hm
  refine hc B H W s (Ex.refl B) N.ex N.w N.d N.p x s1 e1 _ fun v B1 H1 W1 sw p1 hv => ?_
  obtain ⟨V1, V2, hV, dV, ⟨dx, vs, h1, h2, h3⟩, back⟩ := l.open_ W1 B1 s1 p1
  subst hV h1
  obtain ⟨ws, e3, e4, e5⟩ := fd.p h3 hv
  have hz : (nm.zip vs).length < 1000 := by rw [List.length_zip, h2, Nat.min_self]; exact hl
  refine ⟨.ref a, hs, a, _, dx, _, rfl, sw.w a _ (uni_l sing_at), c, n, hz, ?_⟩
  have N1 := N.step sw p1
  have hd : uni (sing a (.ins (He.ga K C) dx (nm.zip vs))) V2 a ≠ none := nn (uni_l sing_at)
  have y := sw_upd (o := .ins (He.ga K C) dx (putF f v (nm.zip vs))) sw.g.e sw.w sw.d hd
  rw [upd_uni (V1 := emp)] at y
  have dj : Dj (sing a (.ins (He.ga K C) dx (putF f v (nm.zip vs)))) V2 := fun b h => dV b (by rw [sing_dom h]; exact nn sing_at)
  exact q x s1 _ B1 _ e2 (N1.step y (back _ B1 _ (Ex.refl B1) dj ⟨dx, ws, by rw [e3], e4.trans h2, e5⟩)) sw.g.b
/-- self.f op= e -/
theorem st_augF [RpL τ] [Rp γ] [Rp β] {C f : Str} {nm : List Str} {a : Addr} {i : Nat} {get : S → τ} {put : S → τ → S} {gf : τ → γ} {pf : τ → γ → τ} {rd : R2} {f2 : γ → β → Option γ} (l : Ln P (OwRec K C nm a) get put) (fd : Fd nm f gf pf) (hl : nm.length < 1000) (hs : σ[i]? = some (some (.ref a))) (c : Cls K (He.ga K C)) (n : NoAttr K (He.ga K C) f) (hr : R2p K rd f2) [OwOk P]
    {m : S → Option (β × S)} {m' : Option (γ × S)} {k : γ × S → Option ρ} {r : ρ} (hm : m'.bind k = some r) (N : Now M Bs Hs P W B H s) (hc : Cs K P te σ B m) (he : ((m s).bind fun p => (f2 (gf (get s)) p.1).bind fun z => some (z, p.2)) = m')
    (q : ∀ x s1 W1 B1 H1, k (x, s1) = some r → Now M Bs Hs P W1 B1 H1 (put s1 (pf (get s1) x)) → Ex B B1 → D.nx σ H1) : sFldAug K (tVar i) te rd f D σ H := by
  subst he
  obtain ⟨⟨z0, s0⟩, e0, e2⟩ := bd_some hm
  obtain ⟨⟨x, s1⟩, e1, e0⟩ := bd_some e0
  obtain ⟨z, e3, e0⟩ := bd_some e0
  obtain ⟨rfl, rfl⟩ : z = z0 ∧ s1 = s0 := by
    cases e0
    exact ⟨rfl, rfl⟩
  obtain ⟨V1, V2, hV, dV, ⟨dx, vs, h1, h2, h3⟩, _⟩ := l.open_ W B s N.p
  obtain ⟨u, g1, g2⟩ := fd.g h3
  refine ⟨.ref a, hs, a, _, dx, _, u, rfl, N.w a _ (by rw [hV, h1]; exact uni_l sing_at), c, n, g1, ?_⟩
  refine hc B H W s (Ex.refl B) N.ex N.w N.d N.p x s1 e1 _ fun v B1 H1 W1 sw p1 hv => ?_
  refine hr B1 H1 (gf (get s)) x z u v sw.g.e (Rp.mono sw.g.b g2) hv e3 _ fun w B2 H2 g3 hw => ?_
  have N1 := (N.step sw p1).pure g3
  obtain ⟨V1, V2, hV, dV, ⟨dx, vs, h1, h2, h3⟩, back⟩ := l.open_ W1 B2 s1 N1.p
  subst hV h1
  obtain ⟨ws, e6, e4, e5⟩ := fd.p h3 hw
  have hz : (nm.zip vs).length < 1000 := by rw [List.length_zip, h2, Nat.min_self]; exact hl
  refine ⟨dx, _, N1.w a _ (uni_l sing_at), hz, ?_⟩
  have hd : uni (sing a (.ins (He.ga K C) dx (nm.zip vs))) V2 a ≠ none := nn (uni_l sing_at)
  have y := sw_upd (o := .ins (He.ga K C) dx (putF f w (nm.zip vs))) N1.ex N1.w N1.d hd
  rw [upd_uni (V1 := emp)] at y
  have dj : Dj (sing a (.ins (He.ga K C) dx (putF f w (nm.zip vs)))) V2 := fun b h => dV b (by rw [sing_dom h]; exact nn sing_at)
  exact q z s1 _ B2 _ e2 (N1.step y (back _ B2 _ (Ex.refl B2) dj ⟨dx, ws, by rw [e6], e4.trans h2, e5⟩)) (sw.g.b.trans g3.b)
/-- self.f = e, where f is new -/
theorem st_addF [RpL τ] [Rp γ] [RpL τ'] {C f : Str} {nm nm' : List Str} {a : Addr} {i : Nat} {s : τ} {add : τ → γ → τ'} (ad : Ad nm f nm' add) (hl : nm.length < 1000) (hs : σ[i]? = some (some (.ref a))) (c : Cls K (He.ga K C)) (n : NoAttr K (He.ga K C) f)
    {m m' : Option γ} {k : γ → Option ρ} {r : ρ} (hm : m'.bind k = some r) (N : Now M Bs Hs (OwRec K C nm a) W B H s) (hc : Cp K te σ B m) (he : m = m')
    (q : ∀ x W1 B1 H1, k x = some r → Now M Bs Hs (OwRec K C nm' a) W1 B1 H1 (add s x) → Ex B B1 → D.nx σ H1) : sFld K (tVar i) te f D σ H := by
  subst he
  obtain ⟨x, e1, e2⟩ := bd_some hm
  refine hc B H (Ex.refl B) N.ex x e1 _ fun v B1 H1 g hv => ?_
  have N1 := N.pure g
  obtain ⟨dx, vs, h1, h2, h3⟩ := N1.p
  subst h1
  obtain ⟨ws, e3, e4, e5⟩ := ad.a h3 h2 hv
  have hz : (nm.zip vs).length < 1000 := by rw [List.length_zip, h2, Nat.min_self]; exact hl
  refine ⟨.ref a, hs, a, _, dx, _, rfl, N1.w a _ sing_at, c, n, hz, ?_⟩
  have y := sw_upd (o := .ins (He.ga K C) dx (putF f v (nm.zip vs))) N1.ex N1.w N1.d (nn sing_at)
  rw [upd_sing] at y
  exact q x _ B1 _ e2 (N1.step y ⟨dx, ws, by rw [e3], e4, e5⟩) g.b
end
end Cf

set_option Elab.async false
set_option linter.all false
set_option maxRecDepth 100000
set_option maxHeartbeats 4000000
namespace Cf
open PySem L2
open Rp (rp)
open RpL (rpl)
open Enc (enc)
section
variable {K : Fg} {M : Ms} {Bs Hs W : Hp} {σ : L2.St} {B H B' H' : Hp} {te ta tb tc : TE} {tt tu : TT} {tas : TA} {α β γ δ τ τ' ρ S S' S1 S2 Z R : Type} {P : Ow S} {s : S} {D : Ends} {t u ts : TS} {g : TG}
/-! one kind of data as another -/
theorem cp_in [Rp α] [Rp β] {f : α → β} (hf : ∀ {K : Fg} {B : Hp} {v : V} {x : α}, rp K B v x → rp K B v (f x)) {m : Option α} (h : Cp K te σ B m) : Cp K te σ B (m.bind fun x => some (f x)) := fun B1 H1 b e z em Q q => by
  obtain ⟨x, e1, em⟩ := bd_some em
  cases em
  exact h B1 H1 b e x e1 Q fun v B2 H2 g2 hv => q v B2 H2 g2 (hf hv)
theorem cs_in [Rp α] [Rp β] {f : α → β} (hf : ∀ {K : Fg} {B : Hp} {v : V} {x : α}, rp K B v x → rp K B v (f x)) {m : S → Option (α × S)} (h : Cs K P te σ B m) : Cs K P te σ B (fun s => (m s).bind fun p => some (f p.1, p.2)) := fun B1 H1 W s b e w d p z s' em Q q => by
  obtain ⟨⟨x, s1⟩, e1, em⟩ := bd_some em
  cases em
  exact h B1 H1 W s b e w d p x _ e1 Q fun v B2 H2 W2 sw p2 hv => q v B2 H2 W2 sw p2 (hf hv)
/-- an item of a tuple of one of several kinds -/
theorem cp_ixTo [Rp α] [Rp γ] {i : Int} {f : α → Option γ} (hf : ∀ {K : Fg} {B : Hp} {v : V} {x : α} {y : γ}, rp K B v x → f x = some y → ∃ a vs u, v = .ref a ∧ SqT K B a vs ∧ atI vs i = some u ∧ rp K B u y) {m : Option α} (h : Cp K ta σ B m) : Cp K (tOp (rIxT K) ta (tC (.int i))) σ B (m.bind f) := fun B1 H1 b e z em Q q => by
  obtain ⟨x, e1, em⟩ := bd_some em
  refine h B1 H1 b e x e1 _ fun v B2 H2 g2 hv => ?_
  obtain ⟨a, vs, u, rfl, s, ha, hu⟩ := hf hv em
  exact ⟨a, vs, i, u, rfl, rfl, sqt_mono g2.e s, ha, q u B2 H2 g2 hu⟩
/-- where an __init__ begins -/
theorem now_init {C : Str} {a dx : Addr} (e : Ex B H) (ha : H a = some (.ins (He.ga K C) dx [])) (nb : B a = none) : Now (dom (sing a (.ins (He.ga K C) dx []))) B H (OwRec (τ := Unit) K C [] a) (sing a (.ins (He.ga K C) dx [])) B H () :=
  now0 e (fun b o h => by
    have := sing_dom (nn h)
    subst this
    rw [sing_at] at h
    cases h
    exact ha) (fun b h => by
    have := sing_dom h
    subst this
    exact nb) ⟨dx, [], rfl, rfl, rfl⟩
end
end Cf

set_option Elab.async false
set_option linter.all false
set_option maxRecDepth 100000
set_option maxHeartbeats 4000000
namespace Cf
open PySem L2
open Rp (rp)
open RpL (rpl)
open Enc (enc)
section
variable {K : Fg} {M : Ms} {Bs Hs W : Hp} {σ : L2.St} {B H B' H' : Hp} {te ta tb tc : TE} {tt tu : TT} {tas : TA} {α β γ δ τ τ' ρ S S' S1 S2 Z R : Type} {P : Ow S} {s : S} {D : Ends} {t u ts : TS} {g : TG}
/-! ### while -/
theorem st_whF {c : S → Option Bool} {b : S → Option (Fl S R)} {k : Fl S R → Option ρ} {r : ρ} {s0 : S} {n : Nat} (I : S → Hp → L2.St → Hp → Prop) (hm : (whF c b n s0).bind k = some r) (h0 : I s0 B σ H)
    (ht : ∀ s B σ H x (Q : Bool → Hp → Prop), I s B σ H → c s = some x → (∀ B2 H2, I s B2 σ H2 → Q x H2) → tt σ H Q)
    (hs : ∀ s B σ H fl (N : L2.St → Hp → Prop), I s B σ H → b s = some fl → (∀ s2 B2 σ2 H2, fl = .nx s2 → I s2 B2 σ2 H2 → N σ2 H2) → (∀ s2 B2 σ2 H2, fl = .bk s2 → I s2 B2 σ2 H2 → D.nx σ2 H2) →
      (∀ r', fl = .rt r' → k (.rt r') = some r) → ts { D with nx := N, ct := N, bk := D.nx } σ H)
    (hd : ∀ s B σ H, k (.nx s) = some r → I s B σ H → D.nx σ H) : tWhile tt ts D σ H := by
  refine ⟨fun m σ H => ∃ s B, I s B σ H ∧ (whF c b m s).bind k = some r, ⟨n, s0, B, h0, hm⟩, ?_⟩
  rintro m σ H ⟨s, B, hI, hk⟩
  obtain ⟨fl0, e0, e9⟩ := bd_some hk
  cases m with
  | zero => cases (show none = some fl0 from e0)
  | succ m =>
    obtain ⟨x, e1, e2⟩ := bd_some (show ((c s).bind fun t => if t = true then (b s).bind fun f => match f with
      | .nx s' => whF c b m s'
      | .bk s' => some (.nx s')
      | .rt r => some (.rt r) else some (.nx s)) = some fl0 from e0)
    refine ht s B σ H x _ hI e1 fun B2 H2 hI2 => ?_
    cases x with
    | false =>
      rw [if_neg Bool.false_ne_true]
      rw [if_neg Bool.false_ne_true] at e2
      cases e2
      exact hd s B2 σ H2 e9 hI2
    | true =>
      rw [if_pos rfl]
      rw [if_pos rfl] at e2
      obtain ⟨fl, e3, e4⟩ := bd_some e2
      refine ⟨fun σ' H' => ∃ s B, I s B σ' H' ∧ (whF c b m s).bind k = some r, fun σ' H' h => ⟨m, Nat.lt_succ_self m, h⟩, ?_⟩
      refine hs s B2 σ H2 fl _ hI2 e3 (fun s2 B3 σ3 H3 ef hI3 => ⟨s2, B3, hI3, ?_⟩) (fun s2 B3 σ3 H3 ef hI3 => ?_) (fun r' ef => ?_)
      · subst ef
        rw [show whF c b m s2 = some fl0 from e4]
        exact e9
      · subst ef
        have : (Fl.nx s2 : Fl S R) = fl0 := Option.some.inj e4
        subst this
        exact hd s2 B3 σ3 H3 e9 hI3
      · subst ef
        have : (Fl.rt r' : Fl S R) = fl0 := Option.some.inj e4
        subst this
        exact e9
theorem st_whN {c : S → Option Bool} {b : S → Option S} {k : S → Option ρ} {r : ρ} {s0 : S} {n : Nat} (I : S → Hp → L2.St → Hp → Prop) (hm : (whN c b n s0).bind k = some r) (h0 : I s0 B σ H)
    (ht : ∀ s B σ H x (Q : Bool → Hp → Prop), I s B σ H → c s = some x → (∀ B2 H2, I s B2 σ H2 → Q x H2) → tt σ H Q)
    (hs : ∀ s B σ H s' (N : L2.St → Hp → Prop), I s B σ H → b s = some s' → (∀ B2 σ2 H2, I s' B2 σ2 H2 → N σ2 H2) → ts { D with nx := N, ct := N, bk := D.nx } σ H)
    (hd : ∀ s B σ H, k s = some r → I s B σ H → D.nx σ H) : tWhile tt ts D σ H := by
  refine ⟨fun m σ H => ∃ s B, I s B σ H ∧ (whN c b m s).bind k = some r, ⟨n, s0, B, h0, hm⟩, ?_⟩
  rintro m σ H ⟨s, B, hI, hk⟩
  obtain ⟨s9, e0, e9⟩ := bd_some hk
  cases m with
  | zero => cases (show none = some s9 from e0)
  | succ m =>
    obtain ⟨x, e1, e2⟩ := bd_some (show ((c s).bind fun t => if t = true then (b s).bind fun s' => whN c b m s' else some s) = some s9 from e0)
    refine ht s B σ H x _ hI e1 fun B2 H2 hI2 => ?_
    cases x with
    | false =>
      rw [if_neg Bool.false_ne_true]
      rw [if_neg Bool.false_ne_true] at e2
      cases e2
      exact hd s B2 σ H2 e9 hI2
    | true =>
      rw [if_pos rfl]
      rw [if_pos rfl] at e2
      obtain ⟨s', e3, e4⟩ := bd_some e2
      refine ⟨fun σ' H' => ∃ s B, I s B σ' H' ∧ (whN c b m s).bind k = some r, fun σ' H' h => ⟨m, Nat.lt_succ_self m, h⟩, ?_⟩
      refine hs s B2 σ H2 s' _ hI2 e3 fun B3 σ3 H3 hI3 => ⟨s', B3, hI3, ?_⟩
      rw [show whN c b m s' = some s9 from e4]
      exact e9
/-- a test that changes nothing -/
theorem wh_testS [OwOk P] {m : S → Option (Bool × S)} {mc : Option Bool} {x : Bool} {Q : Bool → Hp → Prop} (hx : mc = some x) (N : Now M Bs Hs P W B H s) (hc : Cst P tt σ B m) (he : m s = mc.bind fun x => some (x, s)) (q : ∀ W1 B1 H1, Now M Bs Hs P W1 B1 H1 s → Ex B B1 → Q x H1) : tt σ H Q :=
  hc B H W s (Ex.refl B) N.ex N.w N.d N.p x s (by rw [he, hx]; rfl) Q fun B1 H1 W1 sw p => q W1 B1 H1 (N.step sw p) sw.g.b
theorem wh_testP [OwOk P] {m mc : Option Bool} {x : Bool} {Q : Bool → Hp → Prop} (hx : mc = some x) (N : Now M Bs Hs P W B H s) (hc : Ct tt σ B m) (he : m = mc) (q : ∀ W1 B1 H1, Now M Bs Hs P W1 B1 H1 s → Ex B B1 → Q x H1) : tt σ H Q := by
  subst he
  exact hc B H (Ex.refl B) N.ex x hx Q fun B1 H1 g => q W B1 H1 (N.pure g) g.b
/-! ### texts -/
def atS? (z : Str) (i : Int) : Option Str := (if z.length ≤ sizeLine then some z else none).bind fun z => (at? z.cps.toList i).bind fun c => some ⟨#[c]⟩
theorem at_atI {xs : List α} {i : Int} {x : α} (h : at? xs i = some x) : atI xs i = some x := by
  unfold at? at h
  unfold atI ixN
  by_cases h0 : 0 ≤ i
  · rw [if_pos h0] at h
    rw [if_pos h0, if_pos (by have := (List.getElem?_eq_some_iff.mp h).1; omega)]
    exact h
  · rw [if_neg h0] at h
    rw [if_neg h0]
    by_cases h1 : 0 ≤ i + (xs.length : Int)
    · rw [if_pos h1] at h
      rw [if_pos (by omega)]
      exact h
    · rw [if_neg h1] at h
      cases h
theorem r2_ixS : R2p K rIxS (fun (z : Str) (i : Int) => atS? z i) := fun B H z i y vx vy e hx hy ez Q q => by
  cases (show vx = .str z from hx)
  cases (show vy = .int i from hy)
  obtain ⟨z', e1, ez⟩ := bd_some ez
  obtain ⟨hl, e1⟩ := if_some e1
  subst e1
  obtain ⟨c, hc, ez⟩ := bd_some ez
  cases ez
  exact ⟨z, i, c, rfl, rfl, hl, at_atI hc, q _ B H (Gr.refl e) rfl⟩
def pcat (x y : Str) : Option Str := if x.length + y.length ≤ sizeLine then some (x ++ y) else none
theorem r2_addS : R2p K (fun x y H Q => ∃ i j, x = .str i ∧ y = .str j ∧ i.length + j.length ≤ sizeLine ∧ Q (.str (i ++ j)) H) (fun x y : Str => pcat x y) := fun B H x y z vx vy e hx hy ez Q q => by
  cases (show vx = .str x from hx)
  cases (show vy = .str y from hy)
  obtain ⟨hl, ez⟩ := if_some ez
  cases ez
  exact ⟨x, y, rfl, rfl, hl, q _ B H (Gr.refl e) rfl⟩
theorem r2_ipaddS : Ipp K (fun x y H Q => ∃ i j, x = .str i ∧ y = .str j ∧ i.length + j.length ≤ sizeLine ∧ Q (.str (i ++ j)) H) (fun x y : Str => pcat x y) := fun B H x y z vx vy e hx hy ez Q q => by
  cases (show vx = .str x from hx)
  cases (show vy = .str y from hy)
  obtain ⟨hl, ez⟩ := if_some ez
  cases ez
  exact ⟨x, y, rfl, rfl, hl, q _ rfl⟩
/-- one sign in a text -/
def inS (x z : Str) : Option Bool := match x.cps.toList with
  | [c] => some (decide (c ∈ z.cps.toList))
  | _ => none
theorem inS_some {x z : Str} {b : Bool} (h : inS x z = some b) : ∃ c, x = ⟨#[c]⟩ ∧ b = decide (c ∈ z.cps.toList) := by
  obtain ⟨⟨l⟩⟩ := x
  unfold inS at h
  match l, h with
  | [c], h => cases h; exact ⟨c, rfl, rfl⟩
theorem r2_inS : R2p K rInS (fun x z : Str => inS x z) := fun B H x z y vx vy e hx hy ez Q q => by
  obtain ⟨c, rfl, rfl⟩ := inS_some ez
  exact ⟨c, z, hx, hy, q _ B H (Gr.refl e) rfl⟩
theorem r2_ninS : R2p K rNotInS (fun x z : Str => (inS x z).bind fun b => some (!b)) := fun B H x z y vx vy e hx hy ez Q q => by
  obtain ⟨b, e1, ez⟩ := bd_some ez
  cases ez
  obtain ⟨c, rfl, rfl⟩ := inS_some e1
  exact ⟨c, z, hx, hy, q _ B H (Gr.refl e) rfl⟩
def sgns (z : Str) : List Str := z.cps.toList.map fun c => ⟨#[c]⟩
theorem sgns_len (z : Str) : (sgns z).length = z.cps.size := by
  unfold sgns
  rw [List.length_map, Array.length_toList]
theorem sgns_yld {z x : Str} {i : Nat} {H H' : Hp} {v : V} (h : (sgns z)[i]? = some x) (y : (Its z).yld i H v H') : H' = H ∧ v = .str x := by
  obtain ⟨e, c, hc, ev⟩ := y
  refine ⟨e, ?_⟩
  unfold sgns at h
  rw [List.getElem?_map, Array.getElem?_toList, hc] at h
  cases h
  exact ev
theorem st_forF_str {mi mi' : Option Str} {b : Str → S → Option (Fl S R)} {s0 : S} {k : Fl S R → Option ρ} {r : ρ} (I : Hp → S → Hp → L2.St → Hp → Prop) (hm : ((mi'.bind fun z => some (sgns z)).bind fun xs => (forF b xs s0).bind k) = some r) (e : Ex B H) (hc : Cp K te σ B mi) (he : mi = mi')
    (h0 : ∀ Be H1, Gr noM B H Be H1 → I Be s0 Be σ H1)
    (hs : ∀ Be x s B σ H v c (N : L2.St → Hp → Prop), I Be s B σ H → rp K B v x → b x s = some c → (∀ s2 B2 σ2 H2, c = .nx s2 → I Be s2 B2 σ2 H2 → N σ2 H2) → (∀ s2 B2 σ2 H2, c = .bk s2 → I Be s2 B2 σ2 H2 → D.nx σ2 H2) →
      (∀ r', c = .rt r' → k (.rt r') = some r) → g v σ H fun σ2 H2 => ts { D with nx := N, ct := N, bk := D.nx } σ2 H2)
    (hd : ∀ Be s B σ H, k (.nx s) = some r → I Be s B σ H → D.nx σ H) : tFor (iStr te) g ts D σ H := by
  subst he
  obtain ⟨xs, e1, e2⟩ := bd_some hm
  obtain ⟨z, e3, e4⟩ := bd_some e1
  cases e4
  refine hc B H (Ex.refl B) e z e3 _ fun v Be H1 g1 hv => ?_
  cases (show v = .str z from hv)
  have hl := sgns_len z
  refine ⟨z, rfl, forF_run (K := K) (xs := sgns z) (B := Be) (I Be) (fun i s B σ H hI hi => (by show i < z.cps.size; omega)) (fun i s B σ H hI hi => (by show z.cps.size ≤ i; omega)) (fun i x s B σ H v H' hI hxi y => ?_) e2 (h0 Be H1 g1) (fun x s B σ H v c N => hs Be x s B σ H v c N) (fun s B σ H => hd Be s B σ H)⟩
  obtain ⟨eH, ev⟩ := sgns_yld hxi y
  subst eH
  exact ⟨B, hI, ev⟩
theorem st_forN_str {mi mi' : Option Str} {b : Str → S → Option S} {s0 : S} {k : S → Option ρ} {r : ρ} (I : Hp → S → Hp → L2.St → Hp → Prop) (hm : ((mi'.bind fun z => some (sgns z)).bind fun xs => (forN b xs s0).bind k) = some r) (e : Ex B H) (hc : Cp K te σ B mi) (he : mi = mi')
    (h0 : ∀ Be H1, Gr noM B H Be H1 → I Be s0 Be σ H1)
    (hs : ∀ Be x s B σ H v s' (N : L2.St → Hp → Prop), I Be s B σ H → rp K B v x → b x s = some s' → (∀ B2 σ2 H2, I Be s' B2 σ2 H2 → N σ2 H2) → g v σ H fun σ2 H2 => ts { D with nx := N, ct := N, bk := D.nx } σ2 H2)
    (hd : ∀ Be s B σ H, k s = some r → I Be s B σ H → D.nx σ H) : tFor (iStr te) g ts D σ H := by
  subst he
  obtain ⟨xs, e1, e2⟩ := bd_some hm
  obtain ⟨z, e3, e4⟩ := bd_some e1
  cases e4
  refine hc B H (Ex.refl B) e z e3 _ fun v Be H1 g1 hv => ?_
  cases (show v = .str z from hv)
  have hl := sgns_len z
  refine ⟨z, rfl, forN_run (K := K) (xs := sgns z) (B := Be) (I Be) (fun i s B σ H hI hi => (by show i < z.cps.size; omega)) (fun i s B σ H hI hi => (by show z.cps.size ≤ i; omega)) (fun i x s B σ H v H' hI hxi y => ?_) e2 (h0 Be H1 g1) (fun x s B σ H v s' N => hs Be x s B σ H v s' N) (fun s B σ H => hd Be s B σ H)⟩
  obtain ⟨eH, ev⟩ := sgns_yld hxi y
  subst eH
  exact ⟨B, hI, ev⟩
def pcutS (z : Str) (lo hi : Option Int) : Option Str := if z.length ≤ sizeLine then some (cutS z lo hi) else none
theorem cp_sliceS {tl th : TO} {m : Option Str} {m1 m2 : Option (Option Int)} (h : Cp K te σ B m) (h1 : Cpo tl σ B m1) (h2 : Cpo th σ B m2) : Cp K (tSl rSlS te tl th) σ B (m.bind fun z => m1.bind fun lo => m2.bind fun hi => pcutS z lo hi) := fun B1 H1 b e y em Q q => by
  obtain ⟨z, e1, em⟩ := bd_some em
  obtain ⟨lo, e2, em⟩ := bd_some em
  obtain ⟨hi, e3, em⟩ := bd_some em
  obtain ⟨hl, em⟩ := if_some em
  cases em
  refine h B1 H1 b e z e1 _ fun v B2 H2 g2 hv => ?_
  refine h1 B2 H2 (b.trans g2.b) g2.e lo e2 _ fun B3 H3 g3 => ?_
  refine h2 B3 H3 (b.trans (g2.trans g3).b) g3.e hi e3 _ fun B4 H4 g4 => ?_
  cases (show v = .str z from hv)
  exact ⟨z, rfl, hl, q _ B4 H4 ((g2.trans g3).trans g4) rfl⟩
def ptruS (x : Str) : Option Bool := if x.length ≤ sizeLine then some ((x.length : Int) != 0) else none
theorem ct_truS {m : Option Str} (h : Cp K ta σ B m) : Ct (fun σ H Q => ta σ H fun x H' => ∃ k, TruV K x H' k ∧ Q k H') σ B (m.bind ptruS) := fun B1 H1 b e z em Q q => by
  obtain ⟨x, e1, em⟩ := bd_some em
  obtain ⟨hl, em⟩ := if_some em
  cases em
  refine h B1 H1 b e x e1 _ fun v B2 H2 g2 hv => ?_
  cases (show v = .str x from hv)
  exact ⟨_, ⟨hl, rfl⟩, q B2 H2 g2⟩
/-! ### ints -/
def pabs (i : Int) : Int := if i < 0 then -i else i
theorem rc_abs : Rcp K (fun xs H Q => ∃ i, xs = [.int i] ∧ Q (.int (if i < 0 then -i else i)) H) (fun t : Int × Unit => some (pabs t.1)) := fun B H t z vs e h ez Q q => by
  obtain ⟨v, us, rfl, h1, h2⟩ := h
  cases (show us = [] from h2)
  cases (show v = .int _ from h1)
  cases ez
  exact ⟨_, rfl, q _ B H (Gr.refl e) rfl⟩
theorem pr_ints_eq {B : Hp} : ∀ {vs : List V} {xs : List Int}, Paired (rp K B) vs xs → vs = xs.map V.int
  | _, _, .nil => rfl
  | _, _, .cons r t => by
    rw [List.map_cons, ← pr_ints_eq t]
    exact congrArg (· :: _) r
def pminL (xs : List Int) : Option Int := xs.min?
theorem rc_minL : Rcp K (rMin K) (fun t : List Int × Unit => pminL t.1) := fun B H t z vs e h ez Q q => by
  obtain ⟨v, us, rfl, h1, h2⟩ := h
  cases (show us = [] from h2)
  obtain ⟨a, ws, rfl, s, p⟩ := h1
  have hm := List.min?_eq_some_iff.mp (show t.1.min? = some z from ez)
  refine ⟨a, t.1, rfl, sq_lst (by rw [← pr_ints_eq p]; exact e _ _ s), ?_, fun m hm1 hm2 => ?_⟩
  · exact List.length_pos_of_mem hm.1
  · have : m = z := Int.le_antisymm (hm2 z hm.1) (hm.2 m hm1)
    subst this
    exact q _ B H (Gr.refl e) rfl
def psort (xs : List Int) : List Int := xs.mergeSort (fun a b => decide (a ≤ b))
theorem psort_perm (xs : List Int) : (psort xs).Perm xs := List.mergeSort_perm xs _
theorem psort_rises (xs : List Int) : (psort xs).Pairwise (· ≤ ·) := (List.pairwise_mergeSort (le := fun a b => decide (a ≤ b)) (fun a b c h1 h2 => decide_eq_true (Int.le_trans (of_decide_eq_true h1) (of_decide_eq_true h2))) (fun a b => by
  rw [Bool.or_eq_true, decide_eq_true_eq, decide_eq_true_eq]
  exact Int.le_total a b) xs).imp fun h => of_decide_eq_true h
theorem psort_uniq {xs ys : List Int} (p : ys.Perm xs) (h : ys.Pairwise (· ≤ ·)) : ys = psort xs := List.Perm.eq_of_pairwise (fun _ _ _ _ a b => Int.le_antisymm a b) h (psort_rises xs) (p.trans (psort_perm xs).symm)
theorem co_sorted {m : Option (List Int)} (h : Cp K ta σ B m) : Co K (tCB (rSortedI K) (tCons ta tNil)) σ B (m.bind fun xs => some (psort xs)) := fun B1 H1 b e ys em Q q => by
  obtain ⟨xs, e1, em⟩ := bd_some em
  cases em
  refine h B1 H1 b e xs e1 _ fun v B2 H2 g2 hv => ?_
  obtain ⟨a, vs, rfl, s, p⟩ := hv
  refine ⟨a, xs, rfl, sq_lst (by rw [← pr_ints_eq p]; exact g2.e _ _ s), fun ns c hp hr nc => ?_⟩
  have := psort_uniq hp hr
  subst this
  exact q c _ B2 _ (g2.trans (Gr.newM g2.e nc)) (g2.fresh nc) (g2.e.none nc) upd_same (ints_pr _)
/-! ### one's own list: xs[i] = e -/
def pset (xs : List α) (i : Int) (x : α) : Option (List α) := (ixN xs.length i).bind fun j => some (xs.set j x)
theorem st_setL [Rp α] {a : Addr} {get : S → List α} {put : S → List α → S} {i : Nat} {m : S → Option ((α × Int) × S)} {m1 : S → Option (α × S)} {m2 : S → Option (Int × S)} {ti : TE} {m' : Option (List α × S)} {k : List α × S → Option ρ} {r : ρ} (l : Ln P (OwL K a) get put) (hs : σ[i]? = some (some (.ref a)))
    (hm : m'.bind k = some r) (N : Now M Bs Hs P W B H s) (hc : Cs K P te σ B m1) (hi : Cs K P ti σ B m2) (he : ((m1 s).bind fun p => (m2 p.2).bind fun q => (pset (get q.2) q.1 p.1).bind fun z => some (z, q.2)) = m')
    (q : ∀ xs s1 W1 B1 H1, k (xs, s1) = some r → Now M Bs Hs P W1 B1 H1 (put s1 xs) → Ex B B1 → D.nx σ H1) : tAsg te (gSub (tVar i) ti rSetL) D σ H := by
  subst he
  obtain ⟨⟨z0, s0⟩, e0, e2⟩ := bd_some hm
  obtain ⟨⟨x, s1⟩, e1, e0⟩ := bd_some e0
  obtain ⟨⟨j, s2⟩, e3, e0⟩ := bd_some e0
  obtain ⟨z, e4, e0⟩ := bd_some e0
  obtain ⟨n, e5, e6⟩ := bd_some e4
  obtain ⟨rfl, rfl⟩ : z = z0 ∧ s2 = s0 := by
    cases e0
    exact ⟨rfl, rfl⟩
  have e6 : (get s2).set n x = z := Option.some.inj e6
  refine hc B H W s (Ex.refl B) N.ex N.w N.d N.p x s1 e1 _ fun v B1 H1 W1 sw p1 hv => ?_
  refine ⟨.ref a, hs, ?_⟩
  refine hi B1 H1 W1 s1 sw.g.b sw.g.e sw.w sw.d p1 j s2 e3 _ fun w B2 H2 W2 sw2 p2 hw => ?_
  cases (show w = .int j from hw)
  obtain ⟨V1, V2, hV, dV, ⟨vs, h1, h3⟩, back⟩ := l.open_ W2 B2 s2 p2
  subst hV h1
  refine ⟨a, vs, j, n, rfl, rfl, sw2.w a _ (uni_l sing_at), (by rw [pr_len h3]; exact e5), ?_⟩
  have N1 := (N.step sw p1).step sw2 p2
  have hd : uni (sing a (.lst vs)) V2 a ≠ none := nn (uni_l sing_at)
  have y := sw_upd (o := .lst (vs.set n v)) sw2.g.e sw2.w sw2.d hd
  rw [upd_uni (V1 := emp)] at y
  have dj : Dj (sing a (.lst (vs.set n v))) V2 := fun b h => dV b (by rw [sing_dom h]; exact nn sing_at)
  exact q z s2 _ B2 _ e2 (N1.step y (back _ B2 _ (Ex.refl B2) dj ⟨vs.set n v, rfl, by rw [← e6]; exact pr_set (Rp.mono sw2.g.b hv) n h3⟩)) (sw.g.b.trans sw2.g.b)
/-- the last but one of one's own -/
theorem Now.swap {S3 : Type} {A : Ow S1} {C : Ow S2} {E : Ow S3} [OwOk A] [OwOk C] [OwOk E] {x : (S1 × S2) × S3} (N : Now M Bs Hs (star (star A C) E) W B H x) : Now M Bs Hs (star (star A E) C) W B H ((x.1.1, x.2), x.1.2) := by
  obtain ⟨W1, W2, h, d, ⟨V1, V2, h', d', pa, pc⟩, pe⟩ := N.p
  subst h'
  have d12 : Dj V2 W2 := dj_r d' d
  have d1 : Dj V1 W2 := dj_l d
  refine ⟨N.g, N.w, N.d, ⟨uni V1 W2, V2, ?_, ?_, ⟨V1, W2, rfl, d1, pa, pe⟩, pc⟩, N.f⟩
  · rw [h, uni_assoc, uni_assoc, uni_comm d12]
  · exact dj_uni d' d12.symm
end
end Cf

set_option Elab.async false
set_option linter.all false
set_option maxRecDepth 100000
set_option maxHeartbeats 4000000
namespace Cf
open PySem L2
open Rp (rp)
open RpL (rpl)
open Enc (enc)
/-! ### objects that are known -/
structure KR (C : Str) (nm : List Str) (τ : Type) where
  v : τ
instance {C : Str} {nm : List Str} {τ : Type} [RpL τ] : Rp (KR C nm τ) := ⟨fun K B v x => ∃ a dx vs, v = .ref a ∧ B a = some (.ins (He.ga K C) dx (nm.zip vs)) ∧ vs.length = nm.length ∧ rpl K B vs x.v, fun e ⟨a, dx, vs, h, o, n, r⟩ => ⟨a, dx, vs, h, e _ _ o, n, RpL.mono e r⟩⟩
section
variable {K : Fg} {M : Ms} {Bs Hs W : Hp} {σ : L2.St} {B H B' H' : Hp} {te ta tb tc : TE} {tt tu : TT} {tas : TA} {α β γ δ τ τ' ρ S S' S1 S2 Z R : Type} {P : Ow S} {s : S} {D : Ends} {t u ts : TS} {g : TG}
theorem cp_kfld [RpL τ] [Rp γ] {C f : Str} {nm : List Str} {gf : τ → γ} {pf : τ → γ → τ} (fd : Fd nm f gf pf) (c : Cls K (He.ga K C)) (n : NoAttr K (He.ga K C) f) {m : Option (KR C nm τ)} (h : Cp K ta σ B m) :
    Cp K (tFld K ta f) σ B (m.bind fun x => some (gf x.v)) := cp_fld (g := fun x : KR C nm τ => gf x.v) (fun {B v x} h => by
  obtain ⟨a, dx, vs, hv, o, hn, r⟩ := h
  obtain ⟨u, e1, e2⟩ := fd.g r
  exact ⟨a, dx, _, u, hv, o, e1, e2⟩) c n h
/-- a new object, known from now on -/
theorem cp_mk [RpL τ] [RpL τ'] {C : Str} {nm : List Str} {f : τ → Option τ'} {m : Option τ} {E : XK} (ha : Ca K tas σ B m) : Cp K (tMake (He.ga K C) (spI K C (OwRec K C nm) f) [] E tas) σ B (m.bind fun t => (f t).bind fun x => some (KR.mk (C := C) (nm := nm) x)) := fun B1 H1 b e z em Q q => by
  obtain ⟨t, e1, em⟩ := bd_some em
  obtain ⟨x, e2, em⟩ := bd_some em
  cases em
  refine ha B1 H1 b e t e1 _ fun vs B2 H2 g1 hv => fun p dx np ndx ne => ?_
  have g2 : Gr noM B2 H2 B2 (upd H2 dx (.own p)) := Gr.newM g1.e ndx
  have np2 : (upd H2 dx (.own p)) p = none := by rw [upd_ne ne.symm]; exact np
  have g3 : Gr noM B2 (upd H2 dx (.own p)) B2 (upd (upd H2 dx (.own p)) p (.ins (He.ga K C) dx [])) := Gr.newM g2.e np2
  refine ⟨p, vs, dx, B2, t, x, (by rw [List.append_nil]), upd_same, (by rw [upd_ne ne, upd_same]), ne, g3.e, g1.e.none np, g1.e.none ndx, hv, e2, fun W' B' H' sw pp => ⟨rfl, ?_⟩⟩
  obtain ⟨dx', ws, hw, hl, hr⟩ := pp
  subst hw
  have hp : H' p = some (.ins (He.ga K C) dx' (nm.zip ws)) := sw.w p _ sing_at
  have nb : B' p = none := sw.d p (nn sing_at)
  have N : Now noM B1 H1 oE emp B2 (upd (upd H2 dx (.own p)) p (.ins (He.ga K C) dx [])) () := ⟨(g1.trans g2).trans g3, ex_emp, Dj.emp, rfl, fun a h => absurd rfl h⟩
  have fp : H1 p = none := g1.fresh np
  have G : Gr noM B1 H1 B' H' := ⟨N.g.s, N.g.b.trans sw.g.b, fun a o m h => sw.g.h a o (fun z => by
    have := sing_dom z
    subst this
    rw [fp] at h
    cases h) (N.g.h a o m h), sw.g.e, fun a h n => sw.g.n a (N.g.k a h) (N.g.n a h n), fun a h => sw.g.k a (N.g.k a h)⟩
  exact q (.ref p) (upd B' p (.ins (He.ga K C) dx' (nm.zip ws))) H' (G.freeze hp fp nb) ⟨p, dx', ws, rfl, upd_same, hl, RpL.mono (Ex.new nb) hr⟩
/-- a method of an object that is known -/
theorem cp_methK [RpL τ] [RpL τ'] [Rp γ] {C mt : Str} {nm : List Str} {f : KR C nm τ × τ' → Option γ} {m : Option (KR C nm τ)} {m2 : Option τ'} {E : XK} (hno : mt ∉ nm) (h : Cp K ta σ B m) (ha : Ca K tas σ B m2) :
    Cp K (tMeth (He.ga K C) mt (spP K f) [] E ta tas) σ B (m.bind fun x => m2.bind fun t => f (x, t)) := fun B1 H1 b e z em Q q => by
  obtain ⟨x, e1, em⟩ := bd_some em
  obtain ⟨t, e2, em⟩ := bd_some em
  refine h B1 H1 b e x e1 _ fun v B2 H2 g2 hv => ?_
  obtain ⟨a, dx, vs, rfl, o, hn, r⟩ := hv
  refine ⟨a, dx, _, rfl, g2.e _ _ o, zip_none vs hno, ?_⟩
  refine ha B2 H2 (b.trans g2.b) g2.e t e2 _ fun us B3 H3 g3 hu => ?_
  rw [List.append_nil]
  exact ⟨B3, (x, t), z, g3.e, ⟨.ref a, us, rfl, ⟨a, dx, vs, rfl, g3.b _ _ o, hn, RpL.mono g3.b r⟩, hu⟩, em, fun t2 B4 H4 g4 ht => q t2 B4 H4 ((g2.trans g3).trans g4) ht⟩
end
/-! ### a list of three kinds of items -/
structure H2 (α β : Type) where
  a : α
  b : β
structure H3 (α β γ : Type) where
  a : α
  b : β
  c : γ
instance {α β γ : Type} [Rp α] [Rp β] [Rp γ] : Rp (H3 α β γ) := ⟨fun K B v x => ∃ a u1 u2 u3, v = .ref a ∧ B a = some (.lst [u1, u2, u3]) ∧ rp K B u1 x.a ∧ rp K B u2 x.b ∧ rp K B u3 x.c, fun e ⟨a, u1, u2, u3, h, s, p1, p2, p3⟩ => ⟨a, u1, u2, u3, h, e _ _ s, Rp.mono e p1, Rp.mono e p2, Rp.mono e p3⟩⟩
section
variable {K : Fg} {M : Ms} {Bs Hs W : Hp} {σ : L2.St} {B H B' H' : Hp} {te ta tb tc : TE} {tt tu : TT} {tas : TA} {α β γ δ τ τ' ρ S S' S1 S2 Z R : Type} {P : Ow S} {s : S} {D : Ends} {t u ts : TS} {g : TG}
theorem cp_h3 [Rp α] [Rp β] [Rp γ] {m : Option (α × β × γ × Unit)} (h : Ca K tas σ B m) : Cp K (tLst tas) σ B (m.bind fun t => some (H3.mk t.1 t.2.1 t.2.2.1)) := fun B1 H1 b e z em Q q => by
  obtain ⟨t, e1, em⟩ := bd_some em
  cases em
  refine h B1 H1 b e t e1 _ fun vs B2 H2 g2 hv => ?_
  obtain ⟨v1, _, rfl, h1, v2, _, rfl, h2, v3, _, rfl, h3, h4⟩ := hv
  cases h4
  refine ⟨by show 3 ≤ sizeLine; decide, fun p np => q _ (upd B2 p (.lst [v1, v2, v3])) _ (g2.trans (Gr.new g2.e np)) ⟨p, v1, v2, v3, rfl, upd_same, Rp.mono (Ex.new (g2.e.none np)) h1, Rp.mono (Ex.new (g2.e.none np)) h2, Rp.mono (Ex.new (g2.e.none np)) h3⟩⟩
theorem cp_ixH [Rp α] [Rp γ] {i : Int} {f : α → γ} (hf : ∀ {B : Hp} {v : V} {x : α}, rp K B v x → ∃ a vs u, v = .ref a ∧ B a = some (.lst vs) ∧ atI vs i = some u ∧ rp K B u (f x)) {m : Option α} (h : Cp K ta σ B m) : Cp K (tOp (rIxL K) ta (tC (.int i))) σ B (m.bind fun x => some (f x)) := fun B1 H1 b e z em Q q => by
  obtain ⟨x, e1, em⟩ := bd_some em
  cases em
  refine h B1 H1 b e x e1 _ fun v B2 H2 g2 hv => ?_
  obtain ⟨a, vs, u, rfl, s, ha, hu⟩ := hf hv
  exact ⟨a, vs, i, u, rfl, rfl, sq_lst (g2.e _ _ s), ha, q u B2 H2 g2 hu⟩
theorem cp_ih3_0 [Rp α] [Rp β] [Rp γ] {m : Option (H3 α β γ)} (h : Cp K ta σ B m) : Cp K (tOp (rIxL K) ta (tC (.int 0))) σ B (m.bind fun x => some x.a) := cp_ixH (fun h => by obtain ⟨a, u1, u2, u3, h, s, p1, p2, p3⟩ := h; exact ⟨a, _, u1, h, s, rfl, p1⟩) h
theorem cp_ih3_1 [Rp α] [Rp β] [Rp γ] {m : Option (H3 α β γ)} (h : Cp K ta σ B m) : Cp K (tOp (rIxL K) ta (tC (.int 1))) σ B (m.bind fun x => some x.b) := cp_ixH (fun h => by obtain ⟨a, u1, u2, u3, h, s, p1, p2, p3⟩ := h; exact ⟨a, _, u2, h, s, rfl, p2⟩) h
theorem cp_ih3_2 [Rp α] [Rp β] [Rp γ] {m : Option (H3 α β γ)} (h : Cp K ta σ B m) : Cp K (tOp (rIxL K) ta (tC (.int 2))) σ B (m.bind fun x => some x.c) := cp_ixH (fun h => by obtain ⟨a, u1, u2, u3, h, s, p1, p2, p3⟩ := h; exact ⟨a, _, u3, h, s, rfl, p3⟩) h
/-! an int or None -/
theorem kit_None_int : PySem.W.kitOne K (.type "NoneType") (.type "int") = some false := kit_ty (by decide +kernel)
theorem kit_None_bool : PySem.W.kitOne K (.type "NoneType") (.type "bool") = some false := kit_ty (by decide +kernel)
theorem isi_oint : Isi (Option Int) K "int" (fun x => x.isSome) := fun {B v x} h => by
  cases x with
  | none =>
    cases (show v = V.non from h)
    exact ⟨_, .base .non, kit_None_int⟩
  | some y =>
    cases (show v = V.int y from h)
    exact isi_int (K := K) (B := B) (v := .int y) (x := y) rfl
theorem isi_oint_bool : Isi (Option Int) K "bool" (fun _ => false) := fun {B v x} h => by
  cases x with
  | none =>
    cases (show v = V.non from h)
    exact ⟨_, .base .non, kit_None_bool⟩
  | some y =>
    cases (show v = V.int y from h)
    exact isi_int_bool (K := K) (B := B) (v := .int y) (x := y) rfl
end
end Cf

set_option Elab.async false
set_option linter.all false
set_option maxRecDepth 100000
set_option maxHeartbeats 4000000
namespace Cf
open PySem L2
open Rp (rp)
open RpL (rpl)
open Enc (enc)
theorem ip_addS {X : Cx} : PIp X .Add (fun x y H Q => ∃ i j, x = .str i ∧ y = .str j ∧ i.length + j.length ≤ sizeLine ∧ Q (.str (i ++ j)) H) := fun pins s σ H x y v u Q I rx ry h => iop_add_str pins s σ H x y v u Q I rx ry h
section
variable {K : Fg} {M : Ms} {Bs Hs W : Hp} {σ : L2.St} {B H B' H' : Hp} {te ta tb tc : TE} {tt tu : TT} {tas : TA} {α β γ δ τ τ' ρ S S' S1 S2 Z R : Type} {P : Ow S} {s : S} {D : Ends} {t u ts : TS} {g : TG}
/-- for i, j in .. -/
theorem gtup2 [Rp α] [Rp β] {v : V} {x : α × β} {i j : Nat} {Q : L2.St → Hp → Prop} (hv : rp K B v x) (e : Ex B H) (q : ∀ u w, rp K B u x.1 → rp K B w x.2 → Q ((σ.set i (some u)).set j (some w)) H) : gTup K 2 (gCons (gName i) (gCons (gName j) gNil)) v σ H Q := by
  obtain ⟨a, u, w, rfl, s, h1, h2⟩ := hv
  exact ⟨a, [u, w], rfl, sqt_mono e s, rfl, u, [w], rfl, w, [], rfl, rfl, q u w h1 h2⟩
/-- i, j = .. -/
theorem st_asg2 [Rp α] [Rp β] {m m' : Option (α × β)} {k : α × β → Option ρ} {r : ρ} {i j : Nat} (hm : m'.bind k = some r) (e : Ex B H) (hc : Cp K te σ B m) (he : m = m') (q : ∀ x u w B1 H1, k x = some r → Gr noM B H B1 H1 → rp K B1 u x.1 → rp K B1 w x.2 → D.nx ((σ.set i (some u)).set j (some w)) H1) :
    tAsg te (gTup K 2 (gCons (gName i) (gCons (gName j) gNil))) D σ H := by
  subst he
  obtain ⟨x, e1, e2⟩ := bd_some hm
  refine hc B H (Ex.refl B) e x e1 _ fun v B1 H1 g hv => ?_
  exact gtup2 hv g.e fun u w h1 h2 => q x u w B1 H1 e2 g h1 h2
/-- a new attribute of an object that is being made, its value by what is there already -/
theorem st_addFS [RpL τ] [Rp γ] [RpL τ'] {C f : Str} {nm nm' : List Str} {a : Addr} {i : Nat} {s : τ} {add : τ → γ → τ'} (ad : Ad nm f nm' add) (hl : nm.length < 1000) (hs : σ[i]? = some (some (.ref a))) (c : Cls K (He.ga K C)) (n : NoAttr K (He.ga K C) f)
    {m : τ → Option (γ × τ)} {m' : Option (γ × τ)} {k : γ × τ → Option ρ} {r : ρ} (hm : m'.bind k = some r) (N : Now M Bs Hs (OwRec K C nm a) W B H s) (hc : Cs K (OwRec K C nm a) te σ B m) (he : m s = m')
    (q : ∀ x s1 W1 B1 H1, k (x, s1) = some r → Now M Bs Hs (OwRec K C nm' a) W1 B1 H1 (add s1 x) → Ex B B1 → D.nx σ H1) : sFld K (tVar i) te f D σ H := by
  subst he
  obtain ⟨⟨x, s1⟩, e1, e2⟩ := bd_some hm
  refine hc B H W s (Ex.refl B) N.ex N.w N.d N.p x s1 e1 _ fun v B1 H1 W1 sw p1 hv => ?_
  have N1 := N.step sw p1
  obtain ⟨dx, vs, h1, h2, h3⟩ := N1.p
  subst h1
  obtain ⟨ws, e3, e4, e5⟩ := ad.a h3 h2 hv
  have hz : (nm.zip vs).length < 1000 := by rw [List.length_zip, h2, Nat.min_self]; exact hl
  refine ⟨.ref a, hs, a, _, dx, _, rfl, N1.w a _ sing_at, c, n, hz, ?_⟩
  have y := sw_upd (o := .ins (He.ga K C) dx (putF f v (nm.zip vs))) N1.ex N1.w N1.d (nn sing_at)
  rw [upd_sing] at y
  exact q x s1 _ B1 _ e2 (N1.step y ⟨dx, ws, by rw [e3], e4, e5⟩) sw.g.b
/-! ### a walk over a list, told by what is one's own -/
theorem st_forF_listS [Rp α] [OwOk P] {m : S → Option (List α × S)} {m' : Option (List α × S)} {b : α → Z → Option (Fl Z R)} {z0 : List α × S → Z} {k : Fl Z R → Option ρ} {r : ρ} (I : Hp → Z → Hp → L2.St → Hp → Prop)
    (hm : (m'.bind fun p => (some p.1).bind fun xs => (forF b xs (z0 p)).bind k) = some r) (N : Now M Bs Hs P W B H s) (hc : Cs K P ta σ B m) (he : m s = m')
    (hx : ∀ Be z B σ H, I Be z B σ H → Ex Be B ∧ Ex B H)
    (h0 : ∀ Be H1 W1 x s1, Now M Bs Hs P W1 Be H1 s1 → Ex B Be → I Be (z0 (x, s1)) Be σ H1)
    (hs : ∀ Be x z B σ H v c (N : L2.St → Hp → Prop), I Be z B σ H → rp K B v x → b x z = some c → (∀ s2 B2 σ2 H2, c = .nx s2 → I Be s2 B2 σ2 H2 → N σ2 H2) → (∀ s2 B2 σ2 H2, c = .bk s2 → I Be s2 B2 σ2 H2 → D.nx σ2 H2) →
      (∀ r', c = .rt r' → k (.rt r') = some r) → g v σ H fun σ2 H2 => ts { D with nx := N, ct := N, bk := D.nx } σ2 H2)
    (hd : ∀ Be z B σ H, k (.nx z) = some r → I Be z B σ H → D.nx σ H) : tFor (iList K ta) g ts D σ H := by
  subst he
  obtain ⟨⟨xs, s1⟩, e1, hm⟩ := bd_some hm
  refine hc B H W s (Ex.refl B) N.ex N.w N.d N.p xs s1 e1 _ fun v Be H1 W1 sw p1 hv => ?_
  obtain ⟨a, vs, rfl, hS, hp⟩ := hv
  have hl := pr_len hp
  refine ⟨a, rfl, ⟨vs, sq_lst (sw.g.e _ _ hS)⟩, forF_run (K := K) (xs := xs) (B := Be) (I Be) (fun i s B σ H hI hi => ?_) (fun i s B σ H hI hi => ?_) (fun i x s B σ H v H' hI hxi y => ?_) hm (h0 Be H1 W1 xs s1 (N.step sw p1) sw.g.b) (fun x s B σ H v c N => hs Be x s B σ H v c N) (fun s B σ H => hd Be s B σ H)⟩
  · obtain ⟨x1, x2⟩ := hx _ _ _ _ _ hI
    exact itl_go (sq_lst ((x1.trans x2) _ _ hS)) (by omega)
  · obtain ⟨x1, x2⟩ := hx _ _ _ _ _ hI
    exact itl_stop (sq_lst ((x1.trans x2) _ _ hS)) (by omega)
  · obtain ⟨x1, x2⟩ := hx _ _ _ _ _ hI
    obtain ⟨eH, y⟩ := y
    subst eH
    obtain ⟨w, hw, hr⟩ := pr_get hp hxi
    have ew := y vs (sq_lst ((x1.trans x2) _ _ hS))
    rw [hw] at ew
    cases ew
    exact ⟨B, hI, Rp.mono x1 hr⟩
theorem st_forN_listS [Rp α] [OwOk P] {m : S → Option (List α × S)} {m' : Option (List α × S)} {b : α → Z → Option Z} {z0 : List α × S → Z} {k : Z → Option ρ} {r : ρ} (I : Hp → Z → Hp → L2.St → Hp → Prop)
    (hm : (m'.bind fun p => (some p.1).bind fun xs => (forN b xs (z0 p)).bind k) = some r) (N : Now M Bs Hs P W B H s) (hc : Cs K P ta σ B m) (he : m s = m')
    (hx : ∀ Be z B σ H, I Be z B σ H → Ex Be B ∧ Ex B H)
    (h0 : ∀ Be H1 W1 x s1, Now M Bs Hs P W1 Be H1 s1 → Ex B Be → I Be (z0 (x, s1)) Be σ H1)
    (hs : ∀ Be x z B σ H v z' (N : L2.St → Hp → Prop), I Be z B σ H → rp K B v x → b x z = some z' → (∀ B2 σ2 H2, I Be z' B2 σ2 H2 → N σ2 H2) → g v σ H fun σ2 H2 => ts { D with nx := N, ct := N, bk := D.nx } σ2 H2)
    (hd : ∀ Be z B σ H, k z = some r → I Be z B σ H → D.nx σ H) : tFor (iList K ta) g ts D σ H := by
  subst he
  obtain ⟨⟨xs, s1⟩, e1, hm⟩ := bd_some hm
  refine hc B H W s (Ex.refl B) N.ex N.w N.d N.p xs s1 e1 _ fun v Be H1 W1 sw p1 hv => ?_
  obtain ⟨a, vs, rfl, hS, hp⟩ := hv
  have hl := pr_len hp
  refine ⟨a, rfl, ⟨vs, sq_lst (sw.g.e _ _ hS)⟩, forN_run (K := K) (xs := xs) (B := Be) (I Be) (fun i s B σ H hI hi => ?_) (fun i s B σ H hI hi => ?_) (fun i x s B σ H v H' hI hxi y => ?_) hm (h0 Be H1 W1 xs s1 (N.step sw p1) sw.g.b) (fun x s B σ H v z' N => hs Be x s B σ H v z' N) (fun s B σ H => hd Be s B σ H)⟩
  · obtain ⟨x1, x2⟩ := hx _ _ _ _ _ hI
    exact itl_go (sq_lst ((x1.trans x2) _ _ hS)) (by omega)
  · obtain ⟨x1, x2⟩ := hx _ _ _ _ _ hI
    exact itl_stop (sq_lst ((x1.trans x2) _ _ hS)) (by omega)
  · obtain ⟨x1, x2⟩ := hx _ _ _ _ _ hI
    obtain ⟨eH, y⟩ := y
    subst eH
    obtain ⟨w, hw, hr⟩ := pr_get hp hxi
    have ew := y vs (sq_lst ((x1.trans x2) _ _ hS))
    rw [hw] at ew
    cases ew
    exact ⟨B, hI, Rp.mono x1 hr⟩
end
end Cf
namespace Cf
open PySem L2
section
variable {X : Cx} {K : Fg} {a b e f : Expr} {ta te : TE}
theorem ix_listK (h : X.K = K) : IxR X (rIxL K) := by subst h; exact ix_list
theorem ix_tupK (h : X.K = K) : IxR X (rIxT K) := by subst h; exact ix_tup
theorem sl_listK (h : X.K = K) : SlR X (rSlL K) := by subst h; exact sl_list
theorem op_in_seqK (h : X.K = K) : OpR X (compareOp .In) (rIn K false) := by subst h; exact op_in_seq
theorem op_notIn_seqK (h : X.K = K) : OpR X (compareOp .NotIn) (rIn K true) := by subst h; exact op_notIn_seq
theorem op_eqPK (h : X.K = K) (hu : X.A.units + 64 < cLine) : OpR X (compareOp .Eq) (rEqP K) := by subst h; exact op_eqP hu
theorem op_nePK (h : X.K = K) (hu : X.A.units + 64 < cLine) : OpR X (compareOp .NotEq) (rNeP K) := by subst h; exact op_neP hu
theorem op_inPK (h : X.K = K) (hu : X.A.units + 64 < cLine) : OpR X (compareOp .In) (rInP K) := by subst h; exact op_inP hu
theorem op_ninPK (h : X.K = K) (hu : X.A.units + 64 < cLine) : OpR X (compareOp .NotIn) (rNinP K) := by subst h; exact op_ninP hu
theorem call_list_ofK (h : X.K = K) : CallR X (.type "list") (RListOf K) := by subst h; exact call_list_of
theorem call_len_K (h : X.K = K) : CallR X (.builtin "len") (RLen K) := by subst h; exact call_len_
theorem cr_minK_ (h : X.K = K) (hc : X.calm = true) : CallR X (.builtin "min") (rMin K) := by subst h; exact cr_min hc
theorem cr_sortedIK (h : X.K = K) : CallR X (.builtin "sorted") (rSortedI K) := by subst h; exact cr_sortedI
theorem call_isiK_ (h : X.K = K) : CallR X (.builtin "isinstance") (rIsi K) := by subst h; exact call_isi
theorem pe_fldK {pos : Pos} {f : Str} (h : X.K = K) (he : PE X e ta) (hb : attributeBase e f X.env (eval e X.env) = eval e X.env) : PE X (.Attribute e f pos) (tFld K ta f) := by subst h; exact pe_fld he hb
theorem pt_truthK (h : X.K = K) (ha : PE X a ta) (he : ∀ whole, isTrue a X.env whole = (do let v ← whole; standAt a.pos; holding [v] (truthy v))) : PT X a (fun σ H Q => ta σ H fun x H' => ∃ k, TruV K x H' k ∧ Q k H') := by subst h; exact pt_truth ha he
end
end Cf

set_option Elab.async false
set_option linter.all false
set_option maxRecDepth 100000
set_option maxHeartbeats 4000000
namespace Cf
open PySem L2
open Rp (rp)
open RpL (rpl)
open Enc (enc)
section
variable {K : Fg} {σ : L2.St} {B H B' H' : Hp} {te ta tb tc : TE} {tas : TA} {α β γ δ τ τ' ρ S : Type}
/-! ### calls whose arguments cannot fail -/
theorem ca_nil0 : Ca K tNil σ B (some ()) := ca_nil
theorem ca_cons0 [Rp α] [RpL τ] {x : α} {t : τ} (h : Cp K ta σ B (some x)) (h2 : Ca K tas σ B (some t)) : Ca K (tCons ta tas) σ B (some (x, t)) := ca_cons h h2
theorem cp_call0 [RpL τ] [Rp γ] {f : τ → Option γ} {t : τ} {E : XK} (h : Ca K tas σ B (some t)) : Cp K (tCall (spP K f) [] E tas) σ B (f t) := cp_call h
theorem cp_cb0 [RpL τ] [Rp γ] {r : List V → Hp → VK → Prop} {f : τ → Option γ} {t : τ} (hr : Rcp K r f) (h : Ca K tas σ B (some t)) : Cp K (tCB r tas) σ B (f t) := cp_cb hr h
theorem cp_mk0 [RpL τ] [RpL τ'] {C : Str} {nm : List Str} {f : τ → Option τ'} {t : τ} {E : XK} (ha : Ca K tas σ B (some t)) : Cp K (tMake (He.ga K C) (spI K C (OwRec K C nm) f) [] E tas) σ B ((f t).bind fun x => some (KR.mk (C := C) (nm := nm) x)) := cp_mk ha
theorem cp_methK0 [RpL τ] [RpL τ'] [Rp γ] {C mt : Str} {nm : List Str} {f : KR C nm τ × τ' → Option γ} {x : KR C nm τ} {t : τ'} {E : XK} (hno : mt ∉ nm) (h : Cp K ta σ B (some x)) (ha : Ca K tas σ B (some t)) : Cp K (tMeth (He.ga K C) mt (spP K f) [] E ta tas) σ B (f (x, t)) := cp_methK hno h ha
end
end Cf

set_option Elab.async false
set_option linter.all false
set_option maxRecDepth 100000
set_option maxHeartbeats 4000000
namespace Cf
open PySem L2
open Rp (rp)
open RpL (rpl)
open Enc (enc)
section
variable {K : Fg} {σ : L2.St} {B H B' H' : Hp} {te ta tb tc : TE} {tas : TA} {α β γ δ τ τ' ρ S : Type} {P : Ow S}
theorem r2_cat [Rp α] : R2p K rCat (fun x y : List α => plst (x ++ y)) := fun B H xs ys zs vx vy e hx hy ez Q q => by
  obtain ⟨hl, ez⟩ := if_some ez
  subst ez
  obtain ⟨a, vs, rfl, ha, pa⟩ := hx
  obtain ⟨c, us, rfl, hc, pc⟩ := hy
  have l1 := pr_len pa
  have l2 := pr_len pc
  rw [List.length_append] at hl
  refine ⟨a, c, vs, us, rfl, rfl, e _ _ ha, e _ _ hc, Nat.le_trans (show vs.length + us.length ≤ 1000000 by omega) (by decide), fun p np => ?_⟩
  exact q (.ref p) (upd B p (.lst (vs ++ us))) _ (Gr.new e np) ⟨p, _, rfl, upd_same, pr_app (pr_mono (Ex.new (e.none np)) pa) (pr_mono (Ex.new (e.none np)) pc)⟩
/-- items of one kind that may change one's own -/
inductive Csl {α : Type} [Rp α] {S : Type} (K : Fg) (P : Ow S) (σ : L2.St) (B : Hp) : TA → (S → Option (List α × S)) → Prop where
  | nil : Csl K P σ B tNil (fun s => some ([], s))
  | cons {ta : TE} {tas : TA} {m1 : S → Option (α × S)} {m2 : S → Option (List α × S)} : Cs K P ta σ B m1 → Csl K P σ B tas m2 → Csl K P σ B (tCons ta tas) (fun s => (m1 s).bind fun p => (m2 p.2).bind fun q => some (p.1 :: q.1, q.2))
theorem Csl.run [Rp α] {ta : TA} {m : S → Option (List α × S)} (h : Csl K P σ B ta m) : ∀ B1 H1 W s, Ex B B1 → Ex B1 H1 → Ex W H1 → Dj W B1 → P W B1 s → ∀ xs s', m s = some (xs, s') → ∀ Q : List V → Hp → Prop, (∀ vs B2 H2 W2, Sw W B1 H1 W2 B2 H2 → P W2 B2 s' → Paired (rp K B2) vs xs → Q vs H2) → ta σ H1 Q := by
  induction h with
  | nil =>
    intro B1 H1 W s b e w d p xs s' em Q q
    cases em
    exact q [] B1 H1 W (Sw.refl e w d) p .nil
  | cons h1 h2 ih =>
    intro B1 H1 W s b e w d p xs s' em Q q
    obtain ⟨⟨x, s1⟩, e1, em⟩ := bd_some em
    obtain ⟨⟨ys, s2⟩, e2, em⟩ := bd_some em
    cases em
    refine h1 B1 H1 W s b e w d p x s1 e1 _ fun v B2 H2 W2 sw p2 hv => ?_
    refine ih B2 H2 W2 s1 (b.trans sw.g.b) sw.g.e sw.w sw.d p2 ys _ e2 _ fun vs B3 H3 W3 sw3 p3 hp => ?_
    exact q (v :: vs) B3 H3 W3 (sw.trans sw3) p3 (.cons (Rp.mono sw3.g.b hv) hp)
theorem cs_lst [Rp α] [OwOk P] {ta : TA} {m : S → Option (List α × S)} (h : Csl K P σ B ta m) : Cs K P (tLst ta) σ B (fun s => (m s).bind fun p => (plst p.1).bind fun z => some (z, p.2)) := fun B1 H1 W s b e w d p xs s' em Q q => by
  obtain ⟨⟨ys, s1⟩, e1, em⟩ := bd_some em
  obtain ⟨z, e2, em⟩ := bd_some em
  cases em
  obtain ⟨hl, e2⟩ := if_some e2
  subst e2
  refine h.run B1 H1 W s b e w d p ys _ e1 _ fun vs B2 H2 W2 sw p2 hp => ⟨?_, fun c np => ?_⟩
  · have := pr_len hp
    have hl : ys.length < 1000000 := hl
    exact Nat.le_trans (show vs.length ≤ 1000000 by omega) (by decide)
  · exact q (.ref c) (upd B2 c (.lst vs)) _ W2 (sw.trans (Sw.pure (Gr.new sw.g.e np) sw.w sw.d)) (OwOk.mono (Ex.new (sw.g.e.none np)) p2) ⟨c, vs, rfl, upd_same, pr_mono (Ex.new (sw.g.e.none np)) hp⟩
end
end Cf

set_option Elab.async false
set_option linter.all false
set_option maxRecDepth 100000
set_option maxHeartbeats 4000000
/-! sets of tuples of ints and truth values: what one int or truth value is as a key -/
namespace Sx
open PySem PySem.Spec PyProof.Rows L2
def num : Value → Option Int
  | .int i _ => some i
  | .bool b => some (PpSet.b2 b)
  | _ => none
def isN (k : Int) (v : Value) : Bool := num v == some k
theorem isN_shape {k : Int} {v : Value} (h : isN k v = true) : (∃ t, v = .int k t) ∨ ∃ b, v = .bool b ∧ PpSet.b2 b = k := by
  have e : num v = some k := eq_of_beq h
  cases v with
  | int i t =>
    cases e
    exact .inl ⟨t, rfl⟩
  | bool b => exact .inr ⟨b, rfl, Option.some.inj e⟩
  | _ => cases e
theorem beqD (a b : Int) : (a == b) = decide (a = b) := by
  rw [Bool.eq_iff_iff]
  simp
/-- ints and truth values as keys: True is 1 -/
def numK (P : Program) (w : World) : KeyKind P w Int where
  is := isN
  hash := hashInt
  inj := fun v a b ha hb => by
    have e1 : num v = some a := eq_of_beq ha
    have e2 : num v = some b := eq_of_beq hb
    rw [e1] at e2
    exact Option.some.inj e2
  byValue := fun k v h => by
    rcases isN_shape h with ⟨t, rfl⟩ | ⟨b, rfl, _⟩ <;> rfl
  pyHash := fun hv h => by
    rcases isN_shape hv with ⟨t, rfl⟩ | ⟨b, rfl, rfl⟩
    · exact wpAny_pyHash_int h
    · exact PpSet.pyHash_bool h
  eqBool := fun {A E s a b u v Q} hu hv h => by
    rcases isN_shape hu with ⟨t, rfl⟩ | ⟨x, rfl, rfl⟩ <;> rcases isN_shape hv with ⟨t', rfl⟩ | ⟨y, rfl, rfl⟩
    · exact SeqAt.EqAt.int_int a t b t' _ _ _ _ (by rw [beqD]; exact h)
    · exact SeqAt.EqAt.int_bool a t y _ _ _ _ (by rw [beqD]; exact h)
    · exact SeqAt.EqAt.bool_int x b t' _ _ _ _ (by rw [beqD]; exact h)
    · exact SeqAt.EqAt.bool_bool x y _ _ _ _ (by
        have : (x == y) = decide (PpSet.b2 x = PpSet.b2 y) := by cases x <;> cases y <;> decide
        rw [this]
        exact h)
  «strs» := fun k x t v h => by cases h
end Sx

set_option Elab.async false
set_option linter.all false
set_option maxRecDepth 100000
set_option maxHeartbeats 4000000
namespace Sx
open PySem PySem.Spec PyProof.Rows L2
/-! what the model asks of a tuple of ints and truth values before it goes into a set -/
section
variable {P : Program} {w : World} {A : Around} {E : Value → Shared → Prop} {s : Shared}
abbrev IsU (P : Program) (w : World) (h : Heap) (k : List Int) (a : Addr) : Prop := IsTupleKey (numK P w) h k a
abbrev uh (P : Program) (w : World) (k : List Int) : Int := tupleKeyHash (numK P w) k
def Num (v : Value) : Prop := (∃ i t, v = .int i t) ∨ ∃ b, v = .bool b
theorem items_num {k : List Int} {vs : List Value} (h : ItemsAre (numK P w) k vs) : ∀ v ∈ vs, Num v := by
  induction h with
  | nil => exact fun v hv => nomatch hv
  | cons h1 _ ih =>
    intro v hv
    rcases List.mem_cons.mp hv with e | hv
    · subst e
      rcases isN_shape h1 with ⟨t, e⟩ | ⟨b, e, _⟩
      · exact .inl ⟨_, t, e⟩
      · exact .inr ⟨b, e⟩
    · exact ih v hv
theorem ofA_num {n : Nat} {v : Value} (h : Num v) : ofAClassStatement n v = pure false := by
  rcases h with ⟨i, t, rfl⟩ | ⟨b, rfl⟩ <;> cases n <;> rfl
theorem hashBy_num {n : Nat} {v : Value} (h : Num v) : hashByValue n v = pure true := by
  rcases h with ⟨i, t, rfl⟩ | ⟨b, rfl⟩ <;> cases n <;> rfl
/-- a walk over numbers that asks each the same pure thing and goes on -/
theorem walk_num {items : Array Value} {f : Value → (Option Bool × PUnit) → Sem (ForInStep (Option Bool × PUnit))} {r0 : Option Bool × PUnit} {Q : (Option Bool × PUnit) → Shared → Prop} (h0 : r0.1 = none) (hn : ∀ v ∈ items.toList, Num v)
    (hf : ∀ v r (Q' : ForInStep (Option Bool × PUnit) → Shared → Prop), Num v → r.1 = none → (∀ r', r'.1 = none → Q' (.yield r') s) → wpAny (model P w) A (f v r) Q' E s) (hq : ∀ r, r.1 = none → Q r s) : wpAny (model P w) A (forIn items r0 f) Q E s := by
  rw [← Array.forIn_toList]
  refine wpAny_forIn_list _ (fun rest r s' => r.1 = none ∧ s' = s ∧ ∀ v ∈ rest, Num v) _ ?_ ?_ _ _ ⟨h0, rfl, hn⟩
  · rintro v rest r s' ⟨hr, rfl, hall⟩
    exact hf v r _ (hall v List.mem_cons_self) hr fun r' hr' => ⟨hr', rfl, fun u hu => hall u (List.mem_cons_of_mem _ hu)⟩
  · rintro r s' ⟨hr, rfl, _⟩
    exact hq r hr
theorem ofA_tup {k : List Int} {b : Addr} {Q : Bool → Shared → Prop} (hk : IsU P w s.heap k b) (h : Q false s) : wpAny (model P w) A (ofAClassStatement 8 (.ref b)) Q E s := by
  have hT := hk.typeIs
  obtain ⟨o, items, n, ho, _, hd, hi⟩ := hk
  unfold ofAClassStatement
  refine wpAny_bind (wpAny_typeOf hT ?_)
  dsimp only
  have e : (("tuple" : String) == "tuple") = true := by decide
  simp only [e, if_true, Bool.not_true, Bool.false_eq_true, if_false]
  try refine wpAny_bind (wpAny_pure ?_)
  try simp only [Bool.not_true, Bool.false_eq_true, if_false]
  show wpAny _ _ (seqItems? (.ref b) >>= _) _ _ s
  refine wpAny_bind (wpAny_seqItems ho hd ?_)
  dsimp only
  refine wpAny_bind (walk_num rfl (items_num hi) (fun v r Q' hv hr hy => ?_) fun r hr => ?_)
  · rw [ofA_num hv]
    refine wpAny_bind (wpAny_pure ?_)
    simp only [Bool.false_eq_true, if_false]
    exact wpAny_pure (hy _ rfl)
  · obtain ⟨r1, r2⟩ := r
    cases (show r1 = none from hr)
    exact wpAny_pure h
theorem hashBy_tup {k : List Int} {b : Addr} {Q : Bool → Shared → Prop} (hk : IsU P w s.heap k b) (h : Q true s) : wpAny (model P w) A (hashByValue 8 (.ref b)) Q E s := by
  have hT := hk.typeIs
  obtain ⟨o, items, n, ho, _, hd, hi⟩ := hk
  unfold hashByValue
  refine wpAny_bind (wpAny_specialOf hT F.slot_tuple_hash.lookup ?_)
  show wpAny _ _ (seqItems? (.ref b) >>= _) _ _ s
  refine wpAny_bind (wpAny_seqItems ho hd ?_)
  refine wpAny_bind (walk_num rfl (items_num hi) (fun v r Q' hv hr hy => ?_) fun r hr => ?_)
  · rw [hashBy_num hv]
    refine wpAny_bind (wpAny_pure ?_)
    simp only [Bool.not_true, Bool.false_eq_true, if_false]
    exact wpAny_pure (hy _ rfl)
  · obtain ⟨r1, r2⟩ := r
    cases (show r1 = none from hr)
    exact wpAny_pure h
end
end Sx

set_option Elab.async false
set_option linter.all false
set_option maxRecDepth 100000
set_option maxHeartbeats 4000000
namespace Sx
open PySem PySem.Spec PyProof.Rows L2
section
variable {P : Program} {w : World} {A : Around} {E : Value → Shared → Prop} {s : Shared}
/-- looking among tuples for a tuple shows nothing of the table -/
theorem seen_no {k : List Int} {b : Addr} {Q : Bool → Shared → Prop} (hk : IsU P w s.heap k b) {ys : List Value} (hy : ∀ y ∈ ys, ∃ k' c, y = Value.ref c ∧ IsU P w s.heap k' c) (h : Q false s) :
    wpAny (model P w) A (searchCouldBeSeen (.ref b) ys) Q E s := by
  unfold searchCouldBeSeen
  refine wpAny_bind (wpAny_forIn_list _ (fun rest r s' => r.1 = none ∧ s' = s ∧ ∀ y ∈ rest, ∃ k' c, y = Value.ref c ∧ IsU P w s.heap k' c) _ ?_ ?_ _ _ ⟨rfl, rfl, hy⟩)
  · rintro v rest r s' ⟨hr, rfl, hall⟩
    obtain ⟨k', c, rfl, hc⟩ := hall v List.mem_cons_self
    have next : ∀ y ∈ rest, ∃ k' c, y = Value.ref c ∧ IsU P w s'.heap k' c := fun u hu' => hall u (List.mem_cons_of_mem _ hu')
    dsimp only
    by_cases hv : (b == c || (carriedByValue (.ref b) && carriedByValue (.ref c))) = true
    · exact wp_if_pos hv (wpAny_pure ⟨rfl, rfl, next⟩)
    · refine wp_if_neg hv (wpAny_bind (wpAny_eqIsQuiet_tuple hk ?_))
      simp only [Bool.not_true, Bool.false_eq_true, if_false]
      refine wpAny_bind (wpAny_eqIsQuiet_tuple hc ?_)
      simp only [Bool.not_true, Bool.false_eq_true, if_false]
      refine wpAny_bind (ofA_tup hk ?_)
      simp only [Bool.false_eq_true, if_false]
      refine wpAny_bind (ofA_tup hc ?_)
      simp only [Bool.false_eq_true, if_false]
      exact wpAny_pure ⟨rfl, rfl, next⟩
  · rintro ⟨r1, r2⟩ s' ⟨hr, rfl, _⟩
    cases (show r1 = none from hr)
    exact wpAny_pure h
/-! the set at a: its tuples L, each with its key -/
def rws (P : Program) (w : World) (L : List (Addr × List Int)) : List (Int × Value) := L.map fun p => (uh P w p.2, Value.ref p.1)
structure US (P : Program) (w : World) (h : Heap) (a : Addr) (L : List (Addr × List Int)) (es : Array (Int × Value)) (ep : Nat) (t : SetTable) : Prop where
  ob : ∃ o, h.get? a = some o ∧ o.ExactSet ∧ o.data = .set es ep t
  rows : es.toList = rws P w L
  tab : TabOk t (L.map fun p => uh P w p.2)
  nd : (L.map (·.2)).Nodup
  tup : ∀ p ∈ L, IsU P w h p.2 p.1
  plain : t.plain = true
  led : w.params.followText "set-order" = true ∨ t.led = true
  room : L.length * 5 < t.mask * 3
variable {a : Addr} {L : List (Addr × List Int)} {es : Array (Int × Value)} {ep : Nat} {t : SetTable}
theorem rws_len {es : Array (Int × Value)} (h : es.toList = rws P w L) : es.size = L.length := by
  rw [← Array.length_toList, h]
  exact List.length_map ..
theorem US.size (R : US P w s.heap a L es ep t) : es.size = L.length := rws_len R.rows
theorem US.psz (R : US P w s.heap a L es ep t) : t.place.size = L.length := by
  rw [R.tab.sz]
  exact List.length_map ..
theorem US.fits (R : US P w s.heap a L es ep t) : t.fits es.size = true := by
  have h1 := R.psz
  have h2 := R.size
  have h3 := R.room
  unfold SetTable.fits SetTable.fill
  rw [R.tab.dm, Bool.and_eq_true, beq_iff_eq, decide_eq_true_eq]
  show t.place.size = es.size ∧ t.place.size + 0 ≤ t.mask
  omega
theorem US.entry (R : US P w s.heap a L es ep t) {i : Nat} {p : Addr × List Int} (h : L[i]? = some p) : es[i]? = some (uh P w p.2, Value.ref p.1) := by
  rw [← Array.getElem?_toList, R.rows, rws, List.getElem?_map, h]
  rfl
theorem US.gw (R : US P w s.heap a L es ep t) : ¬ t.gaveWay = true := by
  unfold SetTable.gaveWay
  rw [mask_odd R.tab.mok]
  decide
theorem nth_dummy (m : Nat) : ∀ (n : Nat) (p : SetTable.Probe), p.dummy = none → (nth m p n).dummy = none
  | 0, _, h => h
  | n + 1, p, h => nth_dummy m n (adv m p) (by
    unfold adv
    split <;> exact h)
/-- the key's run through the table -/
abbrev run0 (m : Nat) (h : Int) (c : Nat) : SetTable.Probe := nth m (runAt m (SetTable.bits h % (m + 1)) (SetTable.bits h)) c
theorem run0_add (m : Nat) (h : Int) (c q : Nat) : nth m (run0 m h c) q = run0 m h (c + q) := (nth_add m c _ q).symm
theorem look_from (R : US P w s.heap a L es ep t) {x : Addr} {k : List Int} (hx : IsU P w s.heap k x) (hu : A.units < cLine) (adding : Bool) {K : Nat} (hKf : K < 10 * SetTable.turns t.mask)
    (hK : way t.mask (uh P w k) K ∉ t.place.toList) (hKb : ∀ c, c < K → way t.mask (uh P w k) c ∈ t.place.toList) {Q : SetFound → Shared → Prop}
    (hin : ∀ z, k ∈ L.map (·.2) → (adding = false → z.isSome = true) → Q (.there z) s) (hout : k ∉ L.map (·.2) → Q (.free (way t.mask (uh P w k) K) false) s) :
    ∀ (f c : Nat) (stand : Option SetTable.Probe), stand.getD (t.probeStart (uh P w k)) = run0 t.mask (uh P w k) c → c ≤ K → K - c < f →
      (∀ (i : Nat) p, L[i]? = some p → p.2 = k → ∃ c', c ≤ c' ∧ c' < K ∧ t.place.toList[i]? = some (way t.mask (uh P w k) c')) →
      wpAny (model P w) A (setSearchFrom a (.ref x) (uh P w k) adding f stand) Q E s
  | 0, c, stand, _, _, hf, _ => absurd hf (Nat.not_lt_zero _)
  | f + 1, c, stand, hst, hc, hf, hre => by
    obtain ⟨o, ho, hex, hd⟩ := R.ob
    rw [setSearchFrom_succ]
    refine wpAny_bind (wpAny_setState_of ho hd R.fits ?_)
    dsimp only
    refine wp_if_neg R.gw ?_
    try refine wpAny_bind (wpAny_pure ?_)
    have e1 : ∀ q, (nth t.mask (run0 t.mask (uh P w k) c) q).j = way t.mask (uh P w k) (c + q) := fun q => congrArg SetTable.Probe.j (run0_add t.mask (uh P w k) c q)
    have eK : c + (K - c) = K := by omega
    have spec := go_spec t R.tab.ris R.tab.dm (fun i => (es[i]?.map (·.1)).getD 0) (uh P w k) (10 * SetTable.turns t.mask) (K - c) _ (nth_dummy t.mask c _ rfl) (by omega)
      (fun q hq => by rw [e1]; exact hKb (c + q) (by omega)) (by rw [e1, eK]; exact hK)
    have hashAt : ∀ {i : Nat} {p : Addr × List Int}, L[i]? = some p → (es[i]?.map (·.1)).getD 0 = uh P w p.2 := fun {i p} hp => by
      rw [R.entry hp]
      rfl
    rcases spec with ⟨q, i, hq, hi, hh, hno, hpr⟩ | ⟨hno, hpr⟩
    · have hpr2 : t.probe (fun i => (es[i]?.map (·.1)).getD 0) (uh P w k) (stand.getD (t.probeStart (uh P w k))) = some (.candidate (way t.mask (uh P w k) (c + q)) i (run0 t.mask (uh P w k) (c + (q + 1)))) := by
        rw [hst, ← e1, ← run0_add]
        exact hpr
      rw [hpr2]
      dsimp only
      rw [e1] at hi
      have hil : i < L.length := by
        have h1 := (List.getElem?_eq_some_iff.mp hi).1
        rw [Array.length_toList, R.psz] at h1
        exact h1
      obtain ⟨p, hp⟩ : ∃ p, L[i]? = some p := ⟨_, List.getElem?_eq_getElem hil⟩
      have hmem : p ∈ L := List.mem_of_getElem? hp
      have rest : wpAny (model P w) A (searchRest a (.ref x) (uh P w k) adding f es t (way t.mask (uh P w k) (c + q)) i (run0 t.mask (uh P w k) (c + (q + 1)))) Q E s := by
        unfold searchRest
        rw [R.entry hp]
        dsimp only
        refine wpAny_bind (wpAny_holding (wpAny_eqBool_tuple hu (R.tup p hmem) hx ?_))
        refine wpAny_bind (wpAny_setState_of ho hd R.fits ?_)
        dsimp only
        have hsl : t.slot (way t.mask (uh P w k) (c + q)) = .live i := slot_live R.tab.ris hi
        by_cases hkk : p.2 = k
        · have hin2 : k ∈ L.map (·.2) := List.mem_map.mpr ⟨p, hmem, hkk⟩
          cases adding with
          | true => exact wp_if_pos (by simp [hkk]) (wpAny_pure (hin none hin2 fun z => nomatch z))
          | false =>
            refine wp_if_neg (by simp) ?_
            try refine wpAny_bind (wpAny_pure ?_)
            rw [sameMem]
            dsimp only
            simp only [if_true, hsl, R.entry hp]
            refine wpAny_bind (wpAny_isSame_ref_self (wpAny_bind (wpAny_pure ?_)))
            simp only [if_true]
            exact wp_if_pos (by simp [hkk]) (wpAny_pure (hin (some i) hin2 fun _ => rfl))
        · refine wp_if_neg (by simp [hkk]) ?_
          try refine wpAny_bind (wpAny_pure ?_)
          rw [sameMem]
          dsimp only
          simp only [if_true, hsl, R.entry hp]
          refine wpAny_bind (wpAny_isSame_ref_self (wpAny_bind (wpAny_pure ?_)))
          simp only [if_true]
          refine wp_if_neg (by simp [hkk]) ?_
          refine look_from R hx hu adding hKf hK hKb hin hout f (c + (q + 1)) _ rfl (by omega) (by omega) fun i0 p0 h0 hk0 => ?_
          obtain ⟨c', a1, a2, a3⟩ := hre i0 p0 h0 hk0
          refine ⟨c', ?_, a2, a3⟩
          have hlt : ¬ c' < c + q := fun z => hno (c' - c) i0 (by omega) (by rw [e1, show c + (c' - c) = c' by omega]; exact a3) ((hashAt h0).trans (congrArg (uh P w) hk0))
          have hne : c' ≠ c + q := fun ec => by
            rw [ec] at a3
            have s0 := slot_live R.tab.ris a3
            rw [hsl] at s0
            injection s0 with s0
            rw [← s0, hp] at h0
            exact hkk ((congrArg Prod.snd (Option.some.inj h0)).trans hk0)
          omega
      by_cases hl : t.led = true
      · refine wp_if_neg (by simp [hl]) ?_
        try refine wpAny_bind (wpAny_pure ?_)
        exact rest
      · refine wp_if_pos (by simp [hl]) (wpAny_bind (seen_no hx (fun y hy => ?_) ?_))
        · obtain ⟨e, he, ee⟩ := List.mem_map.mp hy
          have he1 : e ∈ es ∧ e.1 = uh P w k := by simpa using he
          have he2 : e ∈ es.toList := by simpa using he1.1
          rw [R.rows] at he2
          obtain ⟨p2, hp2, e2⟩ := List.mem_map.mp he2
          exact ⟨p2.2, p2.1, by rw [← ee, ← e2], R.tup p2 hp2⟩
        · refine wp_if_neg (by decide) ?_
          try refine wpAny_bind (wpAny_pure ?_)
          exact rest
    · have hpr2 : t.probe (fun i => (es[i]?.map (·.1)).getD 0) (uh P w k) (stand.getD (t.probeStart (uh P w k))) = some (.empty (way t.mask (uh P w k) K) none) := by
        have e2 : way t.mask (uh P w k) K = (nth t.mask (run0 t.mask (uh P w k) c) (K - c)).j := by rw [e1, eK]
        rw [hst, e2]
        exact hpr
      rw [hpr2]
      dsimp only
      refine wpAny_pure (hout fun hm => ?_)
      obtain ⟨p0, h0, hk0⟩ := List.mem_map.mp hm
      obtain ⟨i0, hi0⟩ := List.getElem?_of_mem h0
      obtain ⟨c', a1, a2, a3⟩ := hre i0 p0 hi0 hk0
      exact hno (c' - c) i0 (by omega) (by rw [e1, show c + (c' - c) = c' by omega]; exact a3) ((hashAt hi0).trans (congrArg (uh P w) hk0))
/-- the search from its beginning -/
theorem look_at (R : US P w s.heap a L es ep t) {x : Addr} {k : List Int} (hx : IsU P w s.heap k x) (hu : A.units < cLine) (adding : Bool) {Q : SetFound → Shared → Prop}
    (hin : ∀ z, k ∈ L.map (·.2) → (adding = false → z.isSome = true) → Q (.there z) s)
    (hout : ∀ K, k ∉ L.map (·.2) → way t.mask (uh P w k) K ∉ t.place.toList → (∀ c, c < K → way t.mask (uh P w k) c ∈ t.place.toList) → Q (.free (way t.mask (uh P w k) K) false) s) :
    wpAny (model P w) A (setSearch a (.ref x) (uh P w k) adding) Q E s := by
  have hroom := R.room
  obtain ⟨K, hKf, hK, hKb⟩ := R.tab.first (by rw [List.length_map]; omega) (uh P w k)
  have hbig : K < 100000 := by
    have : 10 * SetTable.turns t.mask ≤ 1420 := by
      unfold SetTable.turns
      rcases R.tab.mok with e | e | e <;> omega
    omega
  unfold setSearch
  refine look_from R hx hu adding hKf hK hKb hin (fun hn => hout K hn hK hKb) 100000 0 none rfl (Nat.zero_le _) (by omega) fun i p hp hk => ?_
  have hi : (L.map fun p => uh P w p.2)[i]? = some (uh P w k) := by rw [List.getElem?_map, hp, ← hk]; rfl
  have hil : i < t.place.toList.length := by
    rw [Array.length_toList, R.psz]
    exact (List.getElem?_eq_some_iff.mp hp).1
  have hj := List.getElem?_eq_getElem hil
  obtain ⟨c, hc, e⟩ := R.tab.before hK hi hj
  exact ⟨c, Nat.zero_le _, hc, by rw [hj, e]⟩
end
end Sx

set_option Elab.async false
set_option linter.all false
set_option maxRecDepth 100000
set_option maxHeartbeats 4000000
namespace Sx
open PySem PySem.Spec PyProof.Rows L2
section
variable {P : Program} {w : World} {A : Around} {E : Value → Shared → Prop} {s : Shared}
theorem isU_same {h h' : Heap} {k : List Int} {a b : Addr} {o : Obj} {es : Array (Int × Value)} {ep : Nat} {t : SetTable} (hb : IsU P w h k b) (ho : h.get? a = some o) (hd : o.data = .set es ep t) (hs : Heap.SameBut a h h') : IsU P w h' k b := by
  obtain ⟨o', items, n, ho', hc, hd', hi⟩ := hb
  have hne : b ≠ a := fun z => by
    subst z
    cases ho'.symm.trans ho
    rw [hd] at hd'
    cases hd'
  exact ⟨o', items, n, (hs.2 b hne).trans ho', hc, hd', hi⟩
theorem at_list {α : Type} (L : List α) : (List.range L.length).filterMap (fun i => L[i]?) = L := by
  induction L with
  | nil => rfl
  | cons x L ih =>
    rw [List.length_cons, List.range_succ_eq_map, List.filterMap_cons_some (show (fun i => (x :: L)[i]?) 0 = some x from rfl), List.filterMap_map]
    congr 1
/-- the rows in another order -/
theorem rws_order {L : List (Addr × List Int)} {es : Array (Int × Value)} {order : Array Nat} (hr : es.toList = rws P w L) (hp : order.toList.Perm (List.range L.length)) :
    ∃ L2, (order.filterMap (es[·]?)).toList = rws P w L2 ∧ L2.Perm L ∧ (L2.map fun p => uh P w p.2) = order.toList.map fun i => (es.map (·.1)).getD i 0 := by
  have ent : ∀ i : Nat, es[i]? = (L[i]?).map fun p : Addr × List Int => (uh P w p.2, Value.ref p.1) := fun i => by
    rw [← Array.getElem?_toList, hr, rws, List.getElem?_map]
  refine ⟨order.toList.filterMap (fun i => L[i]?), ?_, ?_, ?_⟩
  · rw [Array.toList_filterMap, rws, List.map_filterMap]
    congr 1
    funext i
    exact ent i
  · have := hp.filterMap (fun i => L[i]?)
    rwa [at_list] at this
  · have hin : ∀ i ∈ order.toList, i < L.length := fun i hi => List.mem_range.mp (hp.mem_iff.mp hi)
    generalize order.toList = l at hin
    induction l with
    | nil => rfl
    | cons i l ih =>
      have hi := hin i List.mem_cons_self
      have e2 : (es.map (·.1)).getD i 0 = uh P w (L[i]).2 := by
        have : (es.map (·.1))[i]? = some (uh P w (L[i]).2) := by
          rw [Array.getElem?_map, ent, List.getElem?_eq_getElem hi]
          rfl
        simp [Array.getD_eq_getD_getElem?, this]
      rw [List.filterMap_cons_some (List.getElem?_eq_getElem hi), List.map_cons, List.map_cons, ih fun j hj => hin j (List.mem_cons_of_mem _ hj), e2]
variable {a : Addr} {L : List (Addr × List Int)} {es : Array (Int × Value)} {ep : Nat} {t : SetTable}
/-- a larger table -/
theorem grow_at {o : Obj} (ho : s.heap.get? a = some o) (hex : o.ExactSet) (hd : o.data = .set es ep t) (hrows : es.toList = rws P w L) (hsz : t.place.size = es.size) (hdm : t.dummies = #[]) (hfl : es.size ≤ t.mask)
    (nd : (L.map (·.2)).Nodup) (tup : ∀ p ∈ L, IsU P w s.heap p.2 p.1) (pl : t.plain = true) (ld : w.params.followText "set-order" = true ∨ t.led = true) {wanted M : Nat}
    (hw : SetTable.sizeAbove wanted - 1 = M) (hM : MaskOk M) (hw2 : SetTable.sizeAbove wanted ≤ 128) (hn : L.length * 5 < M * 3) {Q : Unit → Shared → Prop}
    (hQ : ∀ h' L' es' ep' t', Heap.SameBut a s.heap h' → US P w h' a L' es' ep' t' → L'.Perm L → Q () { s with heap := h' }) : wpAny (model P w) A (setRelay a wanted) Q E s := by
  have hsl := rws_len hrows
  have hM2 : L.length ≤ M := by omega
  have hM3 : M ≤ 127 := by rcases hM with e | e | e <;> omega
  have hfits : t.fits es.size = true := by
    unfold SetTable.fits SetTable.fill
    rw [hdm, Bool.and_eq_true, beq_iff_eq, decide_eq_true_eq]
    show t.place.size = es.size ∧ t.place.size + 0 ≤ t.mask
    omega
  obtain ⟨t', order, e, hp, T, em, el, ep', ed⟩ := relaid_ok t (hs := es.map (·.1)) (wanted := wanted) hw hM (by rw [Array.size_map, hsl]; exact hM2)
  rw [Array.size_map, hsl] at hp
  obtain ⟨L2, r1, r2, r3⟩ := rws_order hrows hp
  rw [← r3] at T
  have hs2 : (order.filterMap (es[·]?)).size = es.size := by rw [rws_len r1, hsl, r2.length_eq]
  rw [setRelay_eq]
  refine wpAny_bind (wpAny_setState_of ho hd hfits ?_)
  dsimp only
  refine wp_if_neg (by rw [sizeLine_eq]; omega) ?_
  try refine wpAny_bind (wpAny_pure ?_)
  rw [e]
  dsimp only
  refine wpAny_bind ?_
  refine wp_if_neg (by rw [hs2]; simp) ?_
  try refine wpAny_bind (wpAny_pure ?_)
  refine wpAny_pure ?_
  dsimp only
  refine wpAny_storeSet_of ho hd ?_ (by rw [hs2, hsl, sizeLine_eq]; omega)
  have sb : Heap.SameBut a s.heap (s.heap.update a (Obj.putSet (order.filterMap (es[·]?)) t')) := Heap.SameBut.update ..
  refine hQ _ L2 (order.filterMap (es[·]?)) (ep + 1) t' sb ⟨⟨_, store_at ho hd, ⟨hex.1, hex.2.1, hex.2.2⟩, rfl⟩, r1, T, (r2.map (·.2)).nodup_iff.mpr nd, fun p hpm => isU_same (tup p (r2.mem_iff.mp hpm)) ho hd sb, by rw [ep']; exact pl, by rw [el]; exact ld, by rw [r2.length_eq, em]; exact hn⟩ r2
/-- a tuple goes in, whose hash is known -/
theorem put_at (R : US P w s.heap a L es ep t) {x : Addr} {k : List Int} (hx : IsU P w s.heap k x) (hu : A.units < cLine) (hfew : L.length + 1 < 76) {Q : Bool → Shared → Prop}
    (hQ : ∀ b h' L' es' ep' t', Heap.SameBut a s.heap h' → US P w h' a L' es' ep' t' → (k ∈ L.map (·.2) → L' = L) → (k ∉ L.map (·.2) → L'.Perm ((x, k) :: L)) → Q b { s with heap := h' }) :
    wpAny (model P w) A (setAddHashed a (.ref x) (uh P w k)) Q E s := by
  obtain ⟨o, ho, hex, hd⟩ := R.ob
  have hsl := R.size
  have hroom := R.room
  unfold setAddHashed
  refine wpAny_holding ?_
  rw [show (100000 : Nat) = 99999 + 1 from rfl, setAddHashedIn_succ]
  refine wpAny_bind (wpAny_setState_of ho hd R.fits ?_)
  dsimp only
  refine wp_if_neg (by simp [byScan, Value.scannable]) ?_
  try refine wpAny_bind (wpAny_pure ?_)
  refine wpAny_bind (look_at R hx hu true (fun z hm _ => ?_) fun K hm hK hb => ?_)
  · dsimp only
    exact wpAny_pure (hQ false s.heap L es ep t (Heap.SameBut.refl a s.heap) R (fun _ => rfl) fun z => absurd hm z)
  · dsimp only
    refine wpAny_bind (wpAny_setState_of ho hd R.fits ?_)
    dsimp only
    obtain ⟨q1, q2, q3, q4, q5, q6, q7, q8, q9⟩ := R.tab.put hK hb
    have hp1 : (t.put (way t.mask (uh P w k) K)).1.plain = true := by rw [q6]; exact R.plain
    generalize hpt : t.put (way t.mask (uh P w k) K) = pt at q1 q3 q4 q5 q6 q7 q8 q9 hp1 ⊢
    obtain ⟨t1, p⟩ := pt
    dsimp only at q1 q3 q4 q5 q6 q7 q8 q9 hp1 ⊢
    subst q1
    first
      | (refine wpAny_bind ?_; refine wp_if_pos hp1 ?_; refine hashBy_tup hx ?_)
      | refine wp_if_pos hp1 (wpAny_bind (hashBy_tup hx ?_))
    simp only [if_true]
    generalize hpp : SetTable.below t.place (way t.mask (uh P w k) K) = p at q2 q3 ⊢
    have pm : (L.take p ++ (x, k) :: L.drop p).Perm ((x, k) :: L) := by
      have := List.perm_middle (a := (x, k)) (l₁ := L.take p) (l₂ := L.drop p)
      rwa [List.take_append_drop] at this
    have hin : (SetTable.insertAt es p (uh P w k, Value.ref x)).toList = rws P w (L.take p ++ (x, k) :: L.drop p) := by
      rw [SetTable.toList_insertAt, R.rows, rws, rws, List.map_append, List.map_cons, List.map_take, List.map_drop]
    have hhs : (L.take p ++ (x, k) :: L.drop p).map (fun p => uh P w p.2) = (L.map fun p => uh P w p.2).take p ++ uh P w k :: (L.map fun p => uh P w p.2).drop p := by
      rw [List.map_append, List.map_cons, List.map_take, List.map_drop]
    rw [← hhs] at q3
    generalize SetTable.insertAt es p (uh P w k, Value.ref x) = es1 at hin ⊢
    generalize L.take p ++ (x, k) :: L.drop p = L1 at pm q3 hin
    have hlen : L1.length = L.length + 1 := pm.length_eq
    have nd1 : (L1.map (·.2)).Nodup := (pm.map (·.2)).nodup_iff.mpr (List.nodup_cons.mpr ⟨hm, R.nd⟩)
    have hes : es1.size = L.length + 1 := by rw [rws_len hin, hlen]
    refine wpAny_bind (wpAny_storeSet_of ho hd ?_ (by rw [hes, sizeLine_eq]; omega))
    have sb : Heap.SameBut a s.heap (s.heap.update a (Obj.putSet es1 t1)) := Heap.SameBut.update ..
    have ho1 := store_at (es' := es1) (t' := t1) ho hd
    generalize s.heap.update a (Obj.putSet es1 t1) = h1 at sb ho1 ⊢
    have tup1 : ∀ p ∈ L1, IsU P w h1 p.2 p.1 := fun p hp => by
      rcases List.mem_cons.mp (pm.mem_iff.mp hp) with e | hp
      · rw [e]
        exact isU_same hx ho hd sb
      · exact isU_same (R.tup p hp) ho hd sb
    have ld1 : w.params.followText "set-order" = true ∨ t1.led = true := by rw [q5]; exact R.led
    have full : t1.tooFull = decide ((L.length + 1) * 5 ≥ t1.mask * 3) := by
      unfold SetTable.tooFull
      rw [q9, List.length_map]
    by_cases hf : t1.tooFull = true
    · first
        | (refine wpAny_bind ?_; refine wp_if_pos (by simp [hf]) ?_)
        | (refine wp_if_pos (by simp [hf]) ?_; refine wpAny_bind ?_)
      have hfull : (L.length + 1) * 5 ≥ t1.mask * 3 := by
        rw [full] at hf
        exact of_decide_eq_true hf
      rw [hsl]
      have hsz1 : t1.place.size = es1.size := by rw [q3.sz, List.length_map, hlen, hes]
      have two : (t.mask = 7 ∧ L.length = 4) ∨ (t.mask = 31 ∧ L.length = 18) := by
        rw [q4] at hfull
        rcases R.tab.mok with e | e | e <;> rw [e] at hfull hroom
        · exact .inl ⟨e, by omega⟩
        · exact .inr ⟨e, by omega⟩
        · omega
      have go : ∀ M, SetTable.sizeAbove (SetTable.grown (L.length + 1)) - 1 = M → MaskOk M → SetTable.sizeAbove (SetTable.grown (L.length + 1)) ≤ 128 → (L.length + 1) * 5 < M * 3 →
          wpAny (model P w) A (setRelay a (SetTable.grown (L.length + 1))) (fun _ s' => wpAny (model P w) A (pure true) Q E s') E { s with heap := h1 } := fun M z1 z2 z3 z4 => by
        refine grow_at (s := { s with heap := h1 }) ho1 ⟨hex.1, hex.2.1, hex.2.2⟩ rfl hin hsz1 q3.dm (by rw [hes, q4]; rcases two with ⟨e, e2⟩ | ⟨e, e2⟩ <;> omega) nd1 tup1 hp1 ld1 z1 z2 z3 (by rw [hlen]; exact z4) ?_
        intro h2 L2 es2 ep2 t2 sb2 R2 pm2
        exact wpAny_pure (hQ true h2 L2 es2 ep2 t2 (sb.trans sb2) R2 (fun z => absurd z hm) fun _ => pm2.trans pm)
      rcases two with ⟨_, e2⟩ | ⟨_, e2⟩
      · exact go 31 (by rw [e2, size_20]) (.inr (.inl rfl)) (by rw [e2, size_20]; decide) (by omega)
      · exact go 127 (by rw [e2, size_76]) (.inr (.inr rfl)) (by rw [e2, size_76]; decide) (by omega)
    · first
        | refine wp_if_neg (by simp [hf]) ?_
        | (refine wpAny_bind ?_; refine wp_if_neg (by simp [hf]) ?_; refine wpAny_pure ?_)
      refine wpAny_pure (hQ true h1 L1 es1 (ep + 1) t1 sb ⟨⟨_, ho1, ⟨hex.1, hex.2.1, hex.2.2⟩, rfl⟩, hin, q3, nd1, tup1, hp1, ld1, ?_⟩ (fun z => absurd z hm) fun _ => pm)
      have : ¬ (L.length + 1) * 5 ≥ t1.mask * 3 := fun z => hf (by rw [full]; exact decide_eq_true z)
      rw [hlen]
      omega
/-- is it there -/
theorem has_at (R : US P w s.heap a L es ep t) {x : Addr} {k : List Int} (hx : IsU P w s.heap k x) (hu : A.units < cLine) {Q : Bool → Shared → Prop}
    (hQ : ∀ n, Q (decide (k ∈ L.map (·.2))) { s with toks := n }) : wpAny (model P w) A (setContains a (.ref x)) Q E s := by
  unfold setContains
  refine wpAny_holding (wpAny_bind (wpAny_pyHash_tuple hu hx ?_))
  have R' : US P w ({ s with toks := s.toks + (k.length + 1) } : Shared).heap a L es ep t := R
  obtain ⟨o, ho, hex, hd⟩ := R.ob
  refine wpAny_bind ?_
  unfold setFind
  rw [show (100000 : Nat) = 99999 + 1 from rfl]
  unfold setFindIn
  refine wpAny_bind (wpAny_setState_of (s := { s with toks := s.toks + (k.length + 1) }) ho hd R.fits ?_)
  dsimp only
  refine wp_if_neg (by simp [byScan, Value.scannable]) ?_
  try refine wpAny_bind (wpAny_pure ?_)
  refine wpAny_bind (look_at R' hx hu false (fun z hm hz => ?_) fun K hm hK hb => ?_)
  · dsimp only
    refine wpAny_pure ?_
    have := hQ (s.toks + (k.length + 1))
    rw [decide_eq_true hm] at this
    rw [hz rfl]
    exact wpAny_pure this
  · dsimp only
    refine wpAny_pure ?_
    have := hQ (s.toks + (k.length + 1))
    rw [decide_eq_false hm] at this
    exact wpAny_pure this
end
end Sx

set_option Elab.async false
set_option linter.all false
set_option maxRecDepth 100000
set_option maxHeartbeats 4000000
namespace Sx
open PySem PySem.Spec PyProof.Rows L2
section
variable {P : Program} {w : World} {A : Around} {E : Value → Shared → Prop} {s : Shared} {a : Addr} {L : List (Addr × List Int)} {es : Array (Int × Value)} {ep : Nat} {t : SetTable}
theorem US.typeIs (R : US P w s.heap a L es ep t) : s.TypeIs (.ref a) "set" := by
  obtain ⟨o, ho, hex, _⟩ := R.ob
  exact ⟨o, ho, hex.1⟩
/-- found.add(x) -/
theorem call_add (R : US P w s.heap a L es ep t) {x : Addr} {k : List Int} (hx : IsU P w s.heap k x) (hu : A.in1.units < cLine) (hfew : L.length + 1 < 76) {Q : Value → Shared → Prop}
    (hQ : ∀ n h' L' es' ep' t', Heap.SameBut a s.heap h' → US P w h' a L' es' ep' t' → (k ∈ L.map (·.2) → L' = L) → (k ∉ L.map (·.2) → L'.Perm ((x, k) :: L)) → Q .none { s with heap := h', toks := n }) :
    wpAny (model P w) A (call (.builtin "set.add") [.ref a, .ref x]) Q E s := by
  refine wpAny_call_entry F.slot_set_add R.typeIs F.entry_set_add ?_ (F.args_set_add_2 _ _)
  unfold Builtin.«set.add» Builtin.Frozenset.oneOther
  simp only [List.isEmpty_nil, bind_assoc]
  unfold Builtin.Frozenset.addrOf setAdd
  refine wpAny_bind (wpAny_pure ?_)
  try dsimp only
  refine wpAny_bind (wpAny_pure ?_)
  try dsimp only
  refine wpAny_bind ?_
  refine wpAny_holding ?_
  refine wpAny_bind (wpAny_pyHash_tuple (by first | exact hu | (have := hu; omega)) hx ?_)
  refine put_at (s := { s with toks := s.toks + (k.length + 1) }) R hx (by first | exact hu | (have := hu; omega)) hfew fun b h' L' es' ep' t' sb R' h1 h2 => ?_
  show wpAny _ _ (ret Value.none) _ _ _
  exact wpAny_pure ⟨_, rfl, hQ _ h' L' es' ep' t' sb R' h1 h2⟩
/-- x in found -/
theorem in_U (R : US P w s.heap a L es ep t) {x : Addr} {k : List Int} (hx : IsU P w s.heap k x) (hu : A.in1.units < cLine) (hu2 : A.units < cLine) {Q : Value → Shared → Prop}
    (hQ : ∀ n, Q (.bool (decide (k ∈ L.map (·.2)))) { s with toks := n }) : wpAny (model P w) A (compareOp .In (.ref x) (.ref a)) Q E s := by
  show wpAny _ _ (do return .bool (← contains (.ref a) (.ref x))) Q E s
  refine wpAny_bind ?_
  unfold contains
  try with_reducible refine wpAny_holding ?_
  refine wpAny_bind (wpAny_specialOf R.typeIs F.slot_set_contains.lookup ?_)
  show wpAny _ _ (if (some (Value.builtin "set.__contains__") == some Value.none) = true then _ else _) _ E s
  rw [if_neg (by rw [beq_builtin_none]; exact Bool.false_ne_true)]
  refine wpAny_bind (wpAny_callSpecialUnlessNone?_slot (name := Str.ofString "__contains__") R.typeIs F.slot_set_contains
    (wpAny_call_entry F.slot_set_contains R.typeIs entry_set_contains ?_ (F.args_set_contains_2 _ _)))
  unfold Builtin.«frozenset.__contains__» Builtin.Frozenset.oneOther
  simp only [List.isEmpty_nil, bind_assoc]
  unfold Builtin.Frozenset.addrOf Builtin.Frozenset.withSetAsKey
  refine wpAny_bind (wpAny_pure ?_)
  try dsimp only
  refine wpAny_bind (wpAny_pure ?_)
  try dsimp only
  refine wpAny_bind (wpAny_tryCatch ?_)
  refine has_at R hx (by first | exact hu | exact hu2 | (have := hu; omega)) fun n => ?_
  show wpAny _ _ (ret (Value.bool _)) _ _ _
  exact wpAny_pure ⟨_, rfl, wpAny_truthy_bool (wpAny_pure (hQ n))⟩
end
end Sx

set_option Elab.async false
set_option linter.all false
set_option maxRecDepth 100000
set_option maxHeartbeats 4000000
namespace Sx
open PySem PySem.Spec PyProof.Rows L2
section
variable {P : Program} {w : World} {A : Around} {E : Value → Shared → Prop} {s : Shared} {a : Addr} {L : List (Addr × List Int)} {es : Array (Int × Value)} {ep : Nat} {t : SetTable}
/-- x not in found -/
theorem notin_U (R : US P w s.heap a L es ep t) {x : Addr} {k : List Int} (hx : IsU P w s.heap k x) (hu : A.in1.units < cLine) (hu2 : A.units < cLine) {Q : Value → Shared → Prop}
    (hQ : ∀ n, Q (.bool (!decide (k ∈ L.map (·.2)))) { s with toks := n }) : wpAny (model P w) A (compareOp .NotIn (.ref x) (.ref a)) Q E s := by
  show wpAny _ _ (do return .bool !(← contains (.ref a) (.ref x))) Q E s
  refine wpAny_bind ?_
  unfold contains
  try with_reducible refine wpAny_holding ?_
  refine wpAny_bind (wpAny_specialOf R.typeIs F.slot_set_contains.lookup ?_)
  show wpAny _ _ (if (some (Value.builtin "set.__contains__") == some Value.none) = true then _ else _) _ E s
  rw [if_neg (by rw [beq_builtin_none]; exact Bool.false_ne_true)]
  refine wpAny_bind (wpAny_callSpecialUnlessNone?_slot (name := Str.ofString "__contains__") R.typeIs F.slot_set_contains
    (wpAny_call_entry F.slot_set_contains R.typeIs entry_set_contains ?_ (F.args_set_contains_2 _ _)))
  unfold Builtin.«frozenset.__contains__» Builtin.Frozenset.oneOther
  simp only [List.isEmpty_nil, bind_assoc]
  unfold Builtin.Frozenset.addrOf Builtin.Frozenset.withSetAsKey
  refine wpAny_bind (wpAny_pure ?_)
  try dsimp only
  refine wpAny_bind (wpAny_pure ?_)
  try dsimp only
  refine wpAny_bind (wpAny_tryCatch ?_)
  refine has_at R hx (by first | exact hu | exact hu2 | (have := hu; omega)) fun n => ?_
  show wpAny _ _ (ret (Value.bool _)) _ _ _
  exact wpAny_pure ⟨_, rfl, wpAny_truthy_bool (wpAny_pure (hQ n))⟩
/-! ### over the hand layer -/
/-- the set at a, without the tuples themselves -/
def U0 (P : Program) (w : World) (h : Heap) (a : Addr) (L : List (Addr × List Int)) : Prop := ∃ (es : Array (Int × Value)) (ep : Nat) (t : SetTable), (∃ o, h.get? a = some o ∧ o.ExactSet ∧ o.data = .set es ep t) ∧ es.toList = rws P w L ∧ TabOk t (L.map fun p => uh P w p.2) ∧ (L.map (·.2)).Nodup ∧ t.plain = true ∧
  (w.params.followText "set-order" = true ∨ t.led = true) ∧ L.length * 5 < t.mask * 3
def UO (P : Program) (w : World) (a : Addr) (L : List (Addr × List Int)) : HO := .ext fun h => U0 P w h a L
theorem US.u0 {h : Heap} (R : US P w h a L es ep t) : U0 P w h a L := ⟨es, ep, t, R.ob, R.rows, R.tab, R.nd, R.plain, R.led, R.room⟩
theorem U0.full {h : Heap} (R : U0 P w h a L) (ht : ∀ p ∈ L, IsU P w h p.2 p.1) : ∃ es ep t, US P w h a L es ep t := by
  obtain ⟨es, ep, t, h1, h2, h3, h4, h5, h6, h7⟩ := R
  exact ⟨es, ep, t, h1, h2, h3, h4, ht, h5, h6, h7⟩
theorem uo_new {H : Hp} {h : Heap} (R : U0 P w h a L) : ObjOk P w H h a (UO P w a L) := by
  have ⟨es, ep, t, ⟨o, ho, r⟩, q⟩ := R
  refine ⟨R, ⟨o, ho⟩, fun h1 h2 p k => ?_⟩
  obtain ⟨es', ep', t', ⟨o', ho', r'⟩, q'⟩ := p
  exact ⟨es', ep', t', ⟨o', k o' ho', r'⟩, q'⟩
/-- a number as a key -/
def keyV : V → Option Int
  | .int i => some i
  | .bl b => some (PpSet.b2 b)
  | _ => none
inductive Keys : List V → List Int → Prop where
  | nil : Keys [] []
  | cons {v : V} {k : Int} {vs : List V} {ks : List Int} : keyV v = some k → Keys vs ks → Keys (v :: vs) (k :: ks)
theorem keys_items : ∀ {vs : List V} {ks : List Int} {us : List Value}, Keys vs ks → Vals vs us → ItemsAre (numK P w) ks us
  | _, _, _, .nil, .nil => .nil
  | v :: _, k :: _, _, .cons h r, .cons e t => by
    refine .cons ?_ (keys_items r t)
    cases v with
    | int i =>
      obtain ⟨tk, rfl⟩ := e
      cases h
      show isN _ _ = true
      exact beq_self_eq_true _
    | bl b =>
      cases (show _ = Value.bool b from e)
      cases h
      show isN _ _ = true
      exact beq_self_eq_true _
    | _ => cases h
end
section
variable {X : Cx}
theorem inv_isU {pins : List (Addr × Obj)} {σ : L2.St} {H : Hp} {s : Shared} {b : Addr} {vs : List V} {k : List Int} (I : L2.Inv X pins σ H s) (h : SqT X.K H b vs) (hk : Keys vs k) : IsU X.prog X.w s.heap k b := by
  obtain ⟨its, r, ⟨o, ho, hc, n, hd⟩, _⟩ := I.tuple h
  exact ⟨o, its.toArray, n, ho, hc, hd, by simpa using keys_items hk r⟩
theorem uo_get {pins : List (Addr × Obj)} {σ : L2.St} {H : Hp} {s : Shared} {a : Addr} {L : List (Addr × List Int)} (I : L2.Inv X pins σ H s) (ha : H a = some (UO X.prog X.w a L)) : U0 X.prog X.w s.heap a L := (I.hok a _ ha).1
/-- the tuples of a set stand in the heap -/
def Stand (K : PySem.W.Frag) (H : Hp) (L : List (Addr × List Int)) : Prop := ∀ p ∈ L, ∃ vs, SqT K H p.1 vs ∧ Keys vs p.2
theorem us_get {pins : List (Addr × Obj)} {σ : L2.St} {H : Hp} {s : Shared} {a : Addr} {L : List (Addr × List Int)} (I : L2.Inv X pins σ H s) (ha : H a = some (UO X.prog X.w a L)) (hs : Stand X.K H L) : ∃ es ep t, US X.prog X.w s.heap a L es ep t :=
  (uo_get I ha).full fun p hp => by
    obtain ⟨vs, h1, h2⟩ := hs p hp
    exact inv_isU I h1 h2
/-- set() -/
def rU0 (P : Program) (w : World) : List V → Hp → VK → Prop := fun xs H Q => xs = [] ∧ ∀ p, H p = none → Q (.ref p) (upd H p (UO P w p []))
theorem u0_fresh (P : Program) (w : World) {h : Heap} : U0 P w (h.push { cls := .type "set", dict := none, data := .set #[] 0 (.fresh 0 0 (!w.params.followText "set-order")) }) h.objs.size [] := by
  refine ⟨#[], 0, _, ⟨_, Heap.get?_push_size _ rfl, ⟨rfl, rfl, rfl⟩, rfl⟩, rfl, ⟨List.Pairwise.nil, rfl, rfl, .inl rfl, fun x hx => (by cases hx), fun i h j hi => (by simp at hi)⟩, List.nodup_nil, rfl, ?_, (by show 0 * 5 < 7 * 3; decide)⟩
  show _ ∨ (!w.params.followText "set-order") = true
  cases w.params.followText "set-order"
  · exact .inr rfl
  · exact .inl rfl
theorem cr_u0 : CallR X (.type "set") (rU0 X.prog X.w) := by
  intro pins s σ H xs us Q I r h
  obtain ⟨rfl, q⟩ := h
  cases r
  refine setR_new fun _ => ?_
  exact ⟨.ref _, upd H s.heap.objs.size (UO X.prog X.w s.heap.objs.size []), I.laid (t' := s.toks) (fun b u e => Heap.get?_push_of_some _ e) (Nat.le_refl _) (uo_new (u0_fresh X.prog X.w)), rfl, q _ (I.hok.fresh (Nat.le_refl _))⟩
theorem in1_ok {A : Around} (hu : A.units + 64 < cLine) : A.in1.units < cLine := by
  show A.units + 1 < cLine
  omega
/-- x in found, x not in found -/
def rUIn (K : PySem.W.Frag) (P : Program) (w : World) : V → V → Hp → VK → Prop := fun x y H Q => ∃ b a vs k L, x = V.ref b ∧ y = V.ref a ∧ H a = some (UO P w a L) ∧ Stand K H L ∧ SqT K H b vs ∧ Keys vs k ∧ Q (.bl (decide (k ∈ L.map (·.2)))) H
def rUNin (K : PySem.W.Frag) (P : Program) (w : World) : V → V → Hp → VK → Prop := fun x y H Q => ∃ b a vs k L, x = V.ref b ∧ y = V.ref a ∧ H a = some (UO P w a L) ∧ Stand K H L ∧ SqT K H b vs ∧ Keys vs k ∧ Q (.bl (!decide (k ∈ L.map (·.2)))) H
theorem op_uin (hu : X.A.units + 64 < cLine) : OpR X (compareOp .In) (rUIn X.K X.prog X.w) := by
  intro pins s σ H x y v u Q I rx ry h
  obtain ⟨b, a, vs, k, L, rfl, rfl, ha, hs, hb, hk, q⟩ := h
  cases rx
  cases ry
  obtain ⟨es, ep, t, R⟩ := us_get I ha hs
  exact in_U R (inv_isU I hb hk) (in1_ok hu) (by omega) fun n => ⟨.bl _, H, I.tok _, rfl, q⟩
theorem op_unin (hu : X.A.units + 64 < cLine) : OpR X (compareOp .NotIn) (rUNin X.K X.prog X.w) := by
  intro pins s σ H x y v u Q I rx ry h
  obtain ⟨b, a, vs, k, L, rfl, rfl, ha, hs, hb, hk, q⟩ := h
  cases rx
  cases ry
  obtain ⟨es, ep, t, R⟩ := us_get I ha hs
  exact notin_U R (inv_isU I hb hk) (in1_ok hu) (by omega) fun n => ⟨.bl _, H, I.tok _, rfl, q⟩
end
end Sx

set_option Elab.async false
set_option linter.all false
set_option maxRecDepth 100000
set_option maxHeartbeats 4000000
namespace Sx
open PySem PySem.Spec PyProof.Rows L2
section
variable {X : Cx}
/-- found.add(x), x a tuple -/
def rUAdd (K : PySem.W.Frag) (P : Program) (w : World) : V → List V → Hp → VK → Prop := fun x xs H Q => ∃ a b vs k L, x = V.ref a ∧ xs = [V.ref b] ∧ H a = some (UO P w a L) ∧ Stand K H L ∧ SqT K H b vs ∧ Keys vs k ∧ L.length + 1 < 76 ∧
  ∀ L', (k ∈ L.map (·.2) → L' = L) → (k ∉ L.map (·.2) → L'.Perm ((b, k) :: L)) → Q .non (upd H a (UO P w a L'))
theorem mt_uadd (hu : X.A.units + 64 < cLine) : MtR X "set.add" (rUAdd X.K X.prog X.w) := by
  intro pins s σ H x xs v us Q I rx rxs h
  obtain ⟨a, b, vs, k, L, rfl, rfl, ha, hs, hb, hk, hn, q⟩ := h
  cases rx
  cases rxs with
  | cons ry rt =>
    cases rt
    cases ry
    obtain ⟨es, ep, t, R⟩ := us_get I ha hs
    refine call_add R (inv_isU I hb hk) (in1_ok hu) hn fun n h' L' es' ep' t' sb R' h1 h2 => ?_
    have he : ∃ u, h'.get? a = some u := by
      obtain ⟨o, ho, _⟩ := R'.ob
      exact ⟨o, ho⟩
    exact ⟨.non, upd H a (UO X.prog X.w a L'), I.write (e := a) (t' := n) (by rw [ha]; trivial) (.inl rfl) (fun b u hb hu => (sb.2 b hb).trans hu) he (uo_new R'.u0), rfl, q L' h1 h2⟩
def tUAdd (K : PySem.W.Frag) (P : Program) (w : World) (to : TE) (t : TA) : TE := fun σ H Q => to σ H fun x H1 => (∃ a L, x = V.ref a ∧ H1 a = some (UO P w a L)) ∧ t σ H1 fun xs H2 => rUAdd K P w x xs H2 Q
variable {o e : Expr} {es : List Expr} {to : TE} {t : TA} {apos cpos : Pos}
theorem pe_uadd (hu : X.A.units + 64 < cLine) (ho : PE X o to) (ha : PA X (e :: es) t)
    (hbase : attributeBase o "add" X.env (eval o X.env) = eval o X.env := by rfl)
    (hfew : ((backTo cpos (starEach (e :: es) X.env)).all (fun x => !x.1) && (backToKw cpos (keywordEach [] X.env)).all (fun x => x.1.isSome)
      && decide ((e :: es).length + ([] : List Keyword).length + (if ([] : List Keyword).isEmpty then 0 else 1) < 30)) = true := by rfl)
    (hline : (apos.endLine == cpos.line) = true := by rfl) (hs : starEach (e :: es) X.env = (false, eval e X.env) :: starEach es X.env := by rfl) (hplain : (backTo cpos (starEach es X.env)).any (·.1) = false := by rfl) :
    PE X (.Call (.Attribute o "add" apos) (e :: es) [] cpos) (tUAdd X.K X.prog X.w to t) := by
  refine ⟨fun pins s σ H Q I h => ?_⟩
  refine wpAny_Call_method_late hbase hfew hline rfl (thn (ho.run pins s σ H _ I h) fun v s1 ⟨x, H1, I1, r1, ty, q1⟩ => ?_)
  obtain ⟨a, L, rfl, hka⟩ := ty
  cases r1
  obtain ⟨es0, ep0, t0, ⟨ob, hob, hex, hda⟩, _⟩ := uo_get I1 hka
  have hT : s1.TypeIs (.ref a) "set" := ⟨ob, hob, hex.1⟩
  refine ⟨"set", "set.add", F.plainAttrs_set, F.slot_set_add, F.type_set_add, hT, (fun b e => by injection e with e; subst e; exact ⟨ob, hob, hex.2.1⟩), ?_⟩
  have hA := ha.run cpos pins s1 σ H1 _ I1 q1
  rw [hs] at hA ⊢
  refine Calls.callWith_builtin (by show (false || (backTo cpos (starEach es X.env)).any (·.1)) = false; rw [hplain] <;> rfl) (Calls.evalArgs_plain ?_)
  exact thn hA fun us s2 ⟨vs, H2, I2, r2, q2⟩ => mt_uadd hu pins s2 σ H2 (.ref a) vs (.ref a) us Q I2 rfl r2 q2
end
end Sx

set_option Elab.async false
set_option linter.all false
set_option maxRecDepth 100000
set_option maxHeartbeats 4000000
namespace Cf
open PySem L2
open Rp (rp)
open RpL (rpl)
open Sx (UO Keys Stand)
/-- what can stand in a set of tuples -/
class Ky (α : Type) extends Rp α where
  key : α → List Int
  inj : ∀ x y : α, key x = key y → x = y
  to : ∀ {K : Fg} {B : Hp} {v : V} {x : α}, rp K B v x → ∃ a vs, v = .ref a ∧ SqT K B a vs ∧ Keys vs (key x)
instance : Ky (Int × Bool) where
  key := fun x => [x.1, PpSet.b2 x.2]
  inj := fun ⟨i, b⟩ ⟨j, c⟩ h => by
    injection h with h1 h2
    injection h2 with h2 _
    have h1 : i = j := h1
    have h2 : PpSet.b2 b = PpSet.b2 c := h2
    have : b = c := by
      revert h2
      cases b <;> cases c <;> decide
    rw [h1, this]
  to := fun {K B v x} ⟨a, u, w, h, s, p, q⟩ => by
    cases (show u = .int x.1 from p)
    cases (show w = .bl x.2 from q)
    exact ⟨a, _, h, s, .cons rfl (.cons rfl .nil)⟩
/-- a set of tuples of one's own -/
def OwU {α : Type} [Ky α] (K : Fg) (P : Program) (w : World) (a : Addr) : Ow (List α) := fun W B xs => ∃ L, W = sing a (UO P w a L) ∧ Stand K B L ∧ (L.map (·.2)).Perm (xs.map Ky.key)
theorem stand_mono {K : Fg} {B B' : Hp} {L : List (Addr × List Int)} (e : Ex B B') (h : Stand K B L) : Stand K B' L := fun p hp => by
  obtain ⟨vs, h1, h2⟩ := h p hp
  exact ⟨vs, sqt_mono e h1, h2⟩
instance {α : Type} [Ky α] {K : Fg} {P : Program} {w : World} {a : Addr} : OwOk (OwU (α := α) K P w a) := ⟨fun e ⟨L, h, s, r⟩ => ⟨L, h, stand_mono e s, r⟩, fun {W B s b o} ⟨L, h, _, _⟩ e => by
  subst h
  have := sing_dom (nn e)
  subst this
  rw [sing_at] at e
  cases e
  rfl⟩
theorem ky_mem {α : Type} [Ky α] {L : List (Addr × List Int)} {xs : List α} {x : α} (h : (L.map (·.2)).Perm (xs.map Ky.key)) : Ky.key x ∈ L.map (·.2) ↔ x ∈ xs := by
  rw [h.mem_iff, List.mem_map]
  exact ⟨fun ⟨y, hy, e⟩ => (Ky.inj y x e) ▸ hy, fun h => ⟨x, h, rfl⟩⟩
def padd {α : Type} [DecidableEq α] (xs : List α) (x : α) : Option (List α) := if xs.length < 75 then some (if x ∈ xs then xs else xs ++ [x]) else none
section
variable {K : Fg} {Pg : Program} {w : World} {M : Ms} {Bs Hs W : Hp} {σ : L2.St} {B H B' H' : Hp} {te ta tb : TE} {α β ρ S S' : Type} {P : Ow S} {s : S} {D : Ends}
theorem cs_uin [Ky α] [DecidableEq α] {a : Addr} {get : S → List α} {put : S → List α → S} {i : Nat} {m : S → Option (α × S)} (l : Ln P (OwU K Pg w a) get put) (hs : σ[i]? = some (some (.ref a))) (hc : Cs K P ta σ B m) :
    Cs K P (tOp (Sx.rUIn K Pg w) ta (tVar i)) σ B (fun s => (m s).bind fun p => some (umem p.1 (get p.2), p.2)) := fun B1 H1 W s b e wx d p z s' em Q q => by
  obtain ⟨⟨x, s1⟩, e1, em⟩ := bd_some em
  cases em
  refine hc B1 H1 W s b e wx d p x _ e1 _ fun v B2 H2 W2 sw p2 hv => ⟨.ref a, hs, ?_⟩
  obtain ⟨V1, V2, hV, dV, ⟨L, h1, h2, h3⟩, _⟩ := l.open_ W2 B2 _ p2
  subst hV h1
  obtain ⟨c, vs, rfl, hq, hk⟩ := Ky.to hv
  refine ⟨c, a, vs, _, L, rfl, rfl, sw.w a _ (uni_l sing_at), stand_mono sw.g.e h2, sqt_mono sw.g.e hq, hk, ?_⟩
  refine q _ B2 H2 _ sw p2 ?_
  show V.bl _ = V.bl _
  congr 1
  exact decide_eq_decide.mpr (ky_mem h3)
theorem cs_unin [Ky α] [DecidableEq α] {a : Addr} {get : S → List α} {put : S → List α → S} {i : Nat} {m : S → Option (α × S)} (l : Ln P (OwU K Pg w a) get put) (hs : σ[i]? = some (some (.ref a))) (hc : Cs K P ta σ B m) :
    Cs K P (tOp (Sx.rUNin K Pg w) ta (tVar i)) σ B (fun s => (m s).bind fun p => some (!umem p.1 (get p.2), p.2)) := fun B1 H1 W s b e wx d p z s' em Q q => by
  obtain ⟨⟨x, s1⟩, e1, em⟩ := bd_some em
  cases em
  refine hc B1 H1 W s b e wx d p x _ e1 _ fun v B2 H2 W2 sw p2 hv => ⟨.ref a, hs, ?_⟩
  obtain ⟨V1, V2, hV, dV, ⟨L, h1, h2, h3⟩, _⟩ := l.open_ W2 B2 _ p2
  subst hV h1
  obtain ⟨c, vs, rfl, hq, hk⟩ := Ky.to hv
  refine ⟨c, a, vs, _, L, rfl, rfl, sw.w a _ (uni_l sing_at), stand_mono sw.g.e h2, sqt_mono sw.g.e hq, hk, ?_⟩
  refine q _ B2 H2 _ sw p2 ?_
  show V.bl _ = V.bl _
  congr 2
  exact decide_eq_decide.mpr (ky_mem h3)
theorem cs_uadd [Ky α] [DecidableEq α] {a : Addr} {get : S → List α} {put : S → List α → S} {i : Nat} {m : S → Option (α × S)} (l : Ln P (OwU K Pg w a) get put) (hs : σ[i]? = some (some (.ref a))) (hc : Cs K P te σ B m) :
    Cs K P (Sx.tUAdd K Pg w (tVar i) (tCons te tNil)) σ B (fun s => (m s).bind fun p => (padd (get p.2) p.1).bind fun q => some ((), put p.2 q)) := fun B1 H1 W s b e wx d p z s' em Q q => by
  obtain ⟨⟨x, s1⟩, e1, em⟩ := bd_some em
  obtain ⟨ys, e2, em⟩ := bd_some em
  cases em
  obtain ⟨hl, e2⟩ := if_some e2
  refine ⟨.ref a, hs, ?_, ?_⟩
  · obtain ⟨V1, V2, hV, dV, ⟨L, h1, h2, h3⟩, _⟩ := l.open_ W B1 _ p
    subst hV h1
    exact ⟨a, L, rfl, wx a _ (uni_l sing_at)⟩
  refine hc B1 H1 W s b e wx d p x _ e1 _ fun v B2 H2 W2 sw p2 hv => ?_
  obtain ⟨V1, V2, hV, dV, ⟨L, h1, h2, h3⟩, back⟩ := l.open_ W2 B2 _ p2
  subst hV h1
  obtain ⟨c, vs, rfl, hq, hk⟩ := Ky.to hv
  have hlen : L.length = (get s1).length := by
    have := h3.length_eq
    rwa [List.length_map, List.length_map] at this
  have hl : (get s1).length < 75 := hl
  refine ⟨a, c, vs, _, L, rfl, rfl, sw.w a _ (uni_l sing_at), stand_mono sw.g.e h2, sqt_mono sw.g.e hq, hk, by omega, fun L' f1 f2 => ?_⟩
  have hd : uni (sing a (UO Pg w a L)) V2 a ≠ none := nn (uni_l sing_at)
  have y := sw_upd (o := UO Pg w a L') sw.g.e sw.w sw.d hd
  rw [upd_uni (V1 := emp)] at y
  have dj : Dj (sing a (UO Pg w a L')) V2 := fun b h => dV b (by rw [sing_dom h]; exact nn sing_at)
  refine q .non B2 _ _ (sw.trans y) (back _ B2 _ (Ex.refl B2) dj ⟨L', rfl, ?_⟩) rfl
  rw [← e2]
  by_cases hx : x ∈ get s1
  · rw [if_pos hx, f1 ((ky_mem h3).mpr hx)]
    exact ⟨h2, h3⟩
  · rw [if_neg hx]
    have pm := f2 (fun z => hx ((ky_mem h3).mp z))
    refine ⟨fun r hr => ?_, ?_⟩
    · rcases List.mem_cons.mp (pm.mem_iff.mp hr) with z | z
      · rw [z]
        exact ⟨vs, hq, hk⟩
      · exact h2 r z
    · refine (pm.map (·.2)).trans ?_
      rw [List.map_append, List.map_cons]
      exact ((List.Perm.cons _ h3).trans (List.perm_append_comm (l₁ := [Ky.key x]) (l₂ := (get s1).map Ky.key)))
/-- seen = set() -/
theorem st_mkU [Ky α] [OwOk P] {k : List α × S → Option ρ} {r : ρ} {i : Nat} (hm : (some (([] : List α), s)).bind k = some r) (N : Now M Bs Hs P W B H s)
    (q : ∀ p W1 H1, k ([], s) = some r → Now M Bs Hs (star P (OwU (α := α) K Pg w p)) W1 B H1 (s, []) → Hs p = none → D.nx (σ.set i (some (.ref p))) H1) : tAsg (tCB (Sx.rU0 Pg w) tNil) (gName i) D σ H := by
  refine ⟨rfl, fun p np => ?_⟩
  have fp : Hs p = none := N.g.fresh np
  have nW : W p = none := by
    cases hh : W p with
    | none => rfl
    | some o =>
      rw [N.w p o hh] at np
      cases np
  have dj : Dj W (sing p (UO Pg w p [])) := fun a h => by
    by_cases ea : a = p
    · subst ea
      exact absurd nW h
    · exact sing_ne ea
  have g : Gr M B H B (upd H p (UO Pg w p [])) := Gr.newM N.ex np
  refine q p (uni W (sing p (UO Pg w p []))) _ hm ⟨N.g.trans g, fun a o h => ?_, fun a h => ?_, ⟨W, _, rfl, dj, N.p, ⟨[], rfl, (fun z hz => by cases hz), .nil⟩⟩, fun a h => ?_⟩ fp
  · by_cases ea : a = p
    · subst ea
      rw [uni_r nW, sing_at] at h
      rw [upd_same]
      exact h
    · rw [upd_ne ea]
      cases hh : W a with
      | some o' =>
        rw [uni_l hh] at h
        cases h
        exact N.w a _ hh
      | none =>
        rw [uni_r hh, sing_ne ea] at h
        cases h
  · rcases uni_dom h with z | z
    · exact N.d a z
    · have := sing_dom z
      subst this
      exact N.ex.none np
  · rcases uni_dom h with z | z
    · exact N.f a z
    · have := sing_dom z
      subst this
      exact .inr fp
end
end Cf

set_option Elab.async false
set_option linter.all false
set_option maxRecDepth 100000
set_option maxHeartbeats 4000000
namespace Cf
open PySem L2
open Rp (rp)
open RpL (rpl)
open Enc (enc)
/-! ### dicts whose keys are ints -/
structure Dct (α : Type) where
  l : List (Int × α)
inductive DP {α : Type} [Rp α] (K : Fg) (B : Hp) : List (L2.Key × V) → List (Int × α) → Prop where
  | nil : DP K B [] []
  | cons {k : Int} {v : V} {x : α} {kvs : List (L2.Key × V)} {xs : List (Int × α)} : rp K B v x → DP K B kvs xs → DP K B ((.inl k, v) :: kvs) ((k, x) :: xs)
theorem dp2_mono {α : Type} [Rp α] {K : Fg} {B B' : Hp} (e : Ex B B') : ∀ {kvs : List (L2.Key × V)} {xs : List (Int × α)}, DP K B kvs xs → DP K B' kvs xs
  | _, _, .nil => .nil
  | _, _, .cons r t => .cons (Rp.mono e r) (dp2_mono e t)
instance {α : Type} [Rp α] : Rp (Dct α) := ⟨fun K B v x => ∃ a kvs, v = .ref a ∧ B a = some (.dK kvs) ∧ DP K B kvs x.l, fun e ⟨a, kvs, h, o, r⟩ => ⟨a, kvs, h, e _ _ o, dp2_mono e r⟩⟩
def dget {α : Type} (xs : List (Int × α)) (k : Int) : Option α := (xs.find? fun p => decide (p.1 = k)).map (·.2)
def dput {α : Type} (xs : List (Int × α)) (k : Int) (x : α) : List (Int × α) := if (xs.any fun p => decide (p.1 = k)) = true then xs.map (fun p => if p.1 = k then (p.1, x) else p) else xs ++ [(k, x)]
def pdput {α : Type} (xs : List (Int × α)) (k : Int) (x : α) : Option (List (Int × α)) := if xs.length < 1000000 then some (dput xs k x) else none
theorem inl_dec (a b : Int) : decide ((Sum.inl a : L2.Key) = .inl b) = decide (a = b) := decide_eq_decide.mpr ⟨fun h => Sum.inl.inj h, fun h => by rw [h]⟩
section
variable {α : Type} [Rp α] {K : Fg} {B : Hp}
theorem dp_len : ∀ {kvs : List (L2.Key × V)} {xs : List (Int × α)}, DP K B kvs xs → kvs.length = xs.length
  | _, _, .nil => rfl
  | _, _, .cons _ t => congrArg Nat.succ (dp_len t)
theorem dp_get {k : Int} : ∀ {kvs : List (L2.Key × V)} {xs : List (Int × α)}, DP K B kvs xs → (dget xs k = none → valV kvs (.inl k) = none) ∧ ∀ x, dget xs k = some x → ∃ v, valV kvs (.inl k) = some v ∧ rp K B v x
  | _, _, .nil => ⟨fun _ => rfl, fun x h => by cases h⟩
  | _, _, .cons (k := j) (v := v) (x := x) (kvs := kvs) (xs := xs) r t => by
    have ih := dp_get (k := k) t
    unfold dget valV at ih ⊢
    rw [List.find?_cons, List.find?_cons]
    dsimp only
    rw [inl_dec]
    by_cases h : j = k
    · rw [decide_eq_true h]
      exact ⟨fun z => (by cases z), fun y e => by cases e; exact ⟨v, rfl, r⟩⟩
    · rw [decide_eq_false h]
      exact ih
theorem dp_any {k : Int} : ∀ {kvs : List (L2.Key × V)} {xs : List (Int × α)}, DP K B kvs xs → (kvs.any fun kv => decide (kv.1 = .inl k)) = (xs.any fun p => decide (p.1 = k))
  | _, _, .nil => rfl
  | _, _, .cons r t => by rw [List.any_cons, List.any_cons, dp_any t, inl_dec]
theorem dp_map {k : Int} {v : V} {x : α} (hv : rp K B v x) : ∀ {kvs : List (L2.Key × V)} {xs : List (Int × α)}, DP K B kvs xs → DP K B (kvs.map fun kv => if kv.1 = .inl k then (kv.1, v) else kv) (xs.map fun p => if p.1 = k then (p.1, x) else p)
  | _, _, .nil => .nil
  | _, _, .cons (k := j) r t => by
    rw [List.map_cons, List.map_cons]
    by_cases h : j = k
    · rw [if_pos (show (Sum.inl j : L2.Key) = .inl k by rw [h]), if_pos h]
      exact .cons hv (dp_map hv t)
    · rw [if_neg (show ¬ (Sum.inl j : L2.Key) = .inl k from fun z => h (Sum.inl.inj z)), if_neg h]
      exact .cons r (dp_map hv t)
theorem dp_app {k : Int} {v : V} {x : α} (hv : rp K B v x) : ∀ {kvs : List (L2.Key × V)} {xs : List (Int × α)}, DP K B kvs xs → DP K B (kvs ++ [(.inl k, v)]) (xs ++ [(k, x)])
  | _, _, .nil => .cons hv .nil
  | _, _, .cons r t => .cons r (dp_app hv t)
theorem dp_put {k : Int} {v : V} {x : α} (hv : rp K B v x) {kvs : List (L2.Key × V)} {xs : List (Int × α)} (h : DP K B kvs xs) : DP K B (putK kvs (.inl k) v) (dput xs k x) := by
  unfold putK dput
  rw [dp_any h]
  split
  · exact dp_map hv h
  · exact dp_app hv h
end
def OwD {α : Type} [Rp α] (K : Fg) (a : Addr) : Ow (List (Int × α)) := fun W B xs => ∃ kvs, W = sing a (.dK kvs) ∧ DP K B kvs xs
instance {α : Type} [Rp α] {K : Fg} {a : Addr} : OwOk (OwD (α := α) K a) := ⟨fun e ⟨kvs, h, r⟩ => ⟨kvs, h, dp2_mono e r⟩, fun {W B s b o} ⟨kvs, h, r⟩ e => by
  subst h
  have := sing_dom (nn e)
  subst this
  rw [sing_at] at e
  cases e
  rfl⟩
section
variable {K : Fg} {M : Ms} {Bs Hs W : Hp} {σ : L2.St} {B H B' H' : Hp} {te ta tb td ty : TE} {α β ρ S S' : Type} {P : Ow S} {s : S} {D : Ends}
theorem od_rp [Rp α] {a : Addr} {get : S → List (Int × α)} {put : S → List (Int × α) → S} {W : Hp} {s : S} (l : Ln P (OwD K a) get put) (p : P W B s) (d : Dj W B) : rp K (uni W B) (.ref a) (Dct.mk (get s)) := by
  obtain ⟨V1, V2, hV, dV, ⟨kvs, hv, pr⟩, _⟩ := l.open_ W B s p
  subst hV hv
  exact ⟨a, kvs, rfl, uni_l (uni_l sing_at), dp2_mono (ex_uni_r d) pr⟩
theorem cp_dget [Rp α] {m1 : Option (Dct α)} {m2 : Option Int} (h1 : Cp K td σ B m1) (h2 : Cp K ty σ B m2) : Cp K (tDGet td ty) σ B (o2 m1 m2 fun d k => dget d.l k) := fun B1 H1 b e z em Q q => by
  obtain ⟨d, k, e1, e2, e3⟩ := o2_some em
  refine h1 B1 H1 b e d e1 _ fun v B2 H2 g2 hv => ?_
  refine h2 B2 H2 (b.trans g2.b) g2.e k e2 _ fun u B3 H3 g3 hu => ?_
  cases (show u = .int k from hu)
  obtain ⟨a, kvs, rfl, ho, hp⟩ := hv
  obtain ⟨w, hw, rw⟩ := (dp_get (k := k) hp).2 z e3
  exact ⟨a, w, rfl, .inl ⟨kvs, .inl k, .inl (g3.e _ _ (g3.b _ _ ho)), rfl, hw.symm⟩, q w B3 H3 (g2.trans g3) (Rp.mono g3.b rw)⟩
theorem cp_din [Rp α] {m1 : Option Int} {m2 : Option (Dct α)} (h1 : Cp K ty σ B m1) (h2 : Cp K td σ B m2) : Cp K (tDIn ty td) σ B (o2 m1 m2 fun k d => some (dget d.l k).isSome) := fun B1 H1 b e z em Q q => by
  obtain ⟨k, d, e1, e2, e3⟩ := o2_some em
  cases e3
  refine h1 B1 H1 b e k e1 _ fun u B2 H2 g2 hu => ?_
  refine h2 B2 H2 (b.trans g2.b) g2.e d e2 _ fun v B3 H3 g3 hv => ?_
  cases (show u = .int k from hu)
  obtain ⟨a, kvs, rfl, ho, hp⟩ := hv
  refine ⟨a, valV kvs (.inl k), rfl, .inl ⟨kvs, .inl k, .inl (g3.e _ _ ho), rfl, rfl⟩, q _ B3 H3 (g2.trans g3) ?_⟩
  show V.bl _ = V.bl _
  congr 1
  cases hg : dget d.l k with
  | none => rw [(dp_get (k := k) hp).1 hg]; rfl
  | some x =>
    obtain ⟨w, hw, _⟩ := (dp_get (k := k) hp).2 x hg
    rw [hw]
    rfl
theorem cp_dnin [Rp α] {m1 : Option Int} {m2 : Option (Dct α)} (h1 : Cp K ty σ B m1) (h2 : Cp K td σ B m2) : Cp K (tDNotIn ty td) σ B (o2 m1 m2 fun k d => some (!(dget d.l k).isSome)) := fun B1 H1 b e z em Q q => by
  obtain ⟨k, d, e1, e2, e3⟩ := o2_some em
  cases e3
  refine h1 B1 H1 b e k e1 _ fun u B2 H2 g2 hu => ?_
  refine h2 B2 H2 (b.trans g2.b) g2.e d e2 _ fun v B3 H3 g3 hv => ?_
  cases (show u = .int k from hu)
  obtain ⟨a, kvs, rfl, ho, hp⟩ := hv
  refine ⟨a, valV kvs (.inl k), rfl, .inl ⟨kvs, .inl k, .inl (g3.e _ _ ho), rfl, rfl⟩, q _ B3 H3 (g2.trans g3) ?_⟩
  show V.bl _ = V.bl _
  congr 2
  cases hg : dget d.l k with
  | none => rw [(dp_get (k := k) hp).1 hg]; rfl
  | some x =>
    obtain ⟨w, hw, _⟩ := (dp_get (k := k) hp).2 x hg
    rw [hw]
    rfl
end
end Cf

set_option Elab.async false
set_option linter.all false
set_option maxRecDepth 100000
set_option maxHeartbeats 4000000
namespace Cf
open PySem L2
open Rp (rp)
open RpL (rpl)
open Enc (enc)
section
variable {K : Fg} {M : Ms} {Bs Hs W : Hp} {σ : L2.St} {B H B' H' : Hp} {te ta tb td ty : TE} {α β ρ S S' : Type} {P : Ow S} {s : S} {D : Ends}
/-- a new object of one's own, beside what there is -/
theorem Now.make {S2 : Type} {Q : Ow S2} {x : S2} {p : Addr} {o : HO} (N : Now M Bs Hs P W B H s) (np : H p = none) (hq : Q (sing p o) B x) : ∃ W1, Now M Bs Hs (star P Q) W1 B (upd H p o) (s, x) := by
  have nW : W p = none := by
    cases hh : W p with
    | none => rfl
    | some o =>
      rw [N.w p o hh] at np
      cases np
  have fp : Hs p = none := N.g.fresh np
  have dj : Dj W (sing p o) := fun a h => by
    by_cases ea : a = p
    · subst ea
      exact absurd nW h
    · exact sing_ne ea
  refine ⟨uni W (sing p o), N.g.trans (Gr.newM N.ex np), fun a o' h => ?_, fun a h => ?_, ⟨W, _, rfl, dj, N.p, hq⟩, fun a h => ?_⟩
  · by_cases ea : a = p
    · subst ea
      rw [uni_r nW, sing_at] at h
      rw [upd_same]
      exact h
    · rw [upd_ne ea]
      cases hh : W a with
      | some o2 =>
        rw [uni_l hh] at h
        cases h
        exact N.w a _ hh
      | none =>
        rw [uni_r hh, sing_ne ea] at h
        cases h
  · rcases uni_dom h with z | z
    · exact N.d a z
    · have := sing_dom z
      subst this
      exact N.ex.none np
  · rcases uni_dom h with z | z
    · exact N.f a z
    · have := sing_dom z
      subst this
      exact .inr fp
/-- table = {} -/
theorem st_mkD [Rp α] {k : List (Int × α) × S → Option ρ} {r : ρ} {i : Nat} (hm : (some (([] : List (Int × α)), s)).bind k = some r) (N : Now M Bs Hs P W B H s)
    (q : ∀ p W1 H1, k ([], s) = some r → Now M Bs Hs (star P (OwD (α := α) K p)) W1 B H1 (s, []) → Hs p = none → D.nx (σ.set i (some (.ref p))) H1) : tAsg tDNewK (gName i) D σ H := by
  intro p np
  obtain ⟨W1, N1⟩ := N.make (Q := OwD (α := α) K p) (x := []) (o := .dK []) np ⟨[], rfl, .nil⟩
  exact q p W1 _ hm N1 (N.g.fresh np)
/-- table[k] = e -/
theorem st_dput [Rp α] {a : Addr} {get : S → List (Int × α)} {put : S → List (Int × α) → S} {i : Nat} {m1 : S → Option (α × S)} {m2 : S → Option (Int × S)} {m' : Option (List (Int × α) × S)} {k : List (Int × α) × S → Option ρ} {r : ρ} (l : Ln P (OwD K a) get put) (hs : σ[i]? = some (some (.ref a)))
    (hm : m'.bind k = some r) (N : Now M Bs Hs P W B H s) (hc : Cs K P te σ B m1) (hi : Cs K P ty σ B m2) (he : ((m1 s).bind fun p => (m2 p.2).bind fun q => (pdput (get q.2) q.1 p.1).bind fun z => some (z, q.2)) = m')
    (q : ∀ xs s1 W1 B1 H1, k (xs, s1) = some r → Now M Bs Hs P W1 B1 H1 (put s1 xs) → Ex B B1 → D.nx σ H1) : sDPut (tVar i) ty te D σ H := by
  subst he
  obtain ⟨⟨z0, s0⟩, e0, e2⟩ := bd_some hm
  obtain ⟨⟨x, s1⟩, e1, e0⟩ := bd_some e0
  obtain ⟨⟨j, s2⟩, e3, e0⟩ := bd_some e0
  obtain ⟨z, e4, e0⟩ := bd_some e0
  obtain ⟨rfl, rfl⟩ : z = z0 ∧ s2 = s0 := by
    cases e0
    exact ⟨rfl, rfl⟩
  obtain ⟨hl, e6⟩ := if_some e4
  refine hc B H W s (Ex.refl B) N.ex N.w N.d N.p x s1 e1 _ fun v B1 H1 W1 sw p1 hv => ?_
  refine ⟨.ref a, hs, ?_⟩
  refine hi B1 H1 W1 s1 sw.g.b sw.g.e sw.w sw.d p1 j s2 e3 _ fun w B2 H2 W2 sw2 p2 hw => ?_
  cases (show w = .int j from hw)
  obtain ⟨V1, V2, hV, dV, ⟨kvs, h1, h3⟩, back⟩ := l.open_ W2 B2 s2 p2
  subst hV h1
  have hlen := dp_len h3
  have hl : (get s2).length < 1000000 := hl
  refine ⟨a, upd H2 a (.dK (putK kvs (.inl j) v)), rfl, .inl ⟨kvs, .inl j, sw2.w a _ (uni_l sing_at), rfl, Nat.lt_of_lt_of_le (show kvs.length < 1000000 by omega) (by decide), rfl⟩, ?_⟩
  have N1 := (N.step sw p1).step sw2 p2
  have hd : uni (sing a (.dK kvs)) V2 a ≠ none := nn (uni_l sing_at)
  have y := sw_upd (o := .dK (putK kvs (.inl j) v)) sw2.g.e sw2.w sw2.d hd
  rw [upd_uni (V1 := emp)] at y
  have dj : Dj (sing a (.dK (putK kvs (.inl j) v))) V2 := fun b h => dV b (by rw [sing_dom h]; exact nn sing_at)
  exact q z s2 _ B2 _ e2 (N1.step y (back _ B2 _ (Ex.refl B2) dj ⟨_, rfl, by rw [← e6]; exact dp_put (Rp.mono sw2.g.b hv) h3⟩)) (sw.g.b.trans sw2.g.b)
/-- a dict of one's own is known from now on -/
theorem Now.freezeD [Rp α] {p : Addr} {x : S × List (Int × α)} [OwOk P] (N : Now M Bs Hs (star P (OwD K p)) W B H x) (fp : Hs p = none) : ∃ W1 B1, Now M Bs Hs P W1 B1 H x.1 ∧ Ex B B1 ∧ rp K B1 (.ref p) (Dct.mk x.2) := by
  obtain ⟨W1, W2, h, d, p1, ⟨vs, hv, pr⟩⟩ := N.p
  subst h hv
  have hp : H p = some (.dK vs) := N.w p _ (by rw [uni_r (d.symm p (nn sing_at))]; exact sing_at)
  have nb : B p = none := dj_r d N.d p (nn sing_at)
  refine ⟨W1, upd B p (.dK vs), ⟨N.g.freeze hp fp nb, fun a o h => N.w a o (uni_l h), fun a h => ?_, OwOk.mono (Ex.new nb) p1, fun a h => N.f a (uni_dom_l h)⟩, Ex.new nb, p, vs, rfl, upd_same, dp2_mono (Ex.new nb) pr⟩
  have : a ≠ p := fun z => by
    subst z
    exact h (d.symm a (nn sing_at))
  rw [upd_ne this]
  exact dj_l N.d a h
end
end Cf
namespace Cf
theorem un1 {n m : Nat} (h : n + 64 < m) : n + 1 < m := by omega
end Cf

set_option Elab.async false
set_option linter.all false
set_option maxRecDepth 100000
set_option maxHeartbeats 4000000
namespace Cf
open PySem L2
open Rp (rp)
open RpL (rpl)
open Enc (enc)
section
variable {K : Fg} {M : Ms} {Bs Hs W : Hp} {σ : L2.St} {B H B' H' : Hp} {te ta tb td ty : TE} {α β ρ S S' : Type} {P : Ow S} {s : S} {D : Ends}
/-- an item of a list of one's own, of any kind -/
theorem cs_ownix [Rp α] {a : Addr} {get : S → List α} {put : S → List α → S} {i : Nat} {m : S → Option (Int × S)} (l : Ln P (OwL K a) get put) (hs : σ[i]? = some (some (.ref a))) (hc : Cs K P tb σ B m) :
    Cs K P (tOp (rIxL K) (tVar i) tb) σ B (fun s => (m s).bind fun p => (at? (get p.2) p.1).bind fun x => some (x, p.2)) := fun B1 H1 W s b e w d p z s' em Q q => by
  obtain ⟨⟨k, s1⟩, e1, em⟩ := bd_some em
  obtain ⟨x, e2, em⟩ := bd_some em
  cases em
  refine ⟨.ref a, hs, ?_⟩
  refine hc B1 H1 W s b e w d p k _ e1 _ fun v B2 H2 W2 sw p2 hv => ?_
  cases (show v = .int k from hv)
  obtain ⟨V1, V2, hV, dV, ⟨vs, h1, pr⟩, _⟩ := l.open_ W2 B2 _ p2
  subst hV h1
  obtain ⟨u, hu, ru⟩ := atI_of pr e2
  exact ⟨a, vs, k, u, rfl, rfl, sq_lst (sw.w a _ (uni_l sing_at)), hu, q u B2 H2 _ sw p2 ru⟩
end
end Cf

set_option Elab.async false
set_option linter.all false
set_option maxRecDepth 100000
set_option maxHeartbeats 4000000
namespace Cf
open PySem L2
open Rp (rp)
open RpL (rpl)
/-! a list of two kinds of items -/
instance {α β : Type} [Rp α] [Rp β] : Rp (H2 α β) := ⟨fun K B v x => ∃ a u1 u2, v = .ref a ∧ B a = some (.lst [u1, u2]) ∧ rp K B u1 x.a ∧ rp K B u2 x.b, fun e ⟨a, u1, u2, h, s, p1, p2⟩ => ⟨a, u1, u2, h, e _ _ s, Rp.mono e p1, Rp.mono e p2⟩⟩
section
variable {K : Fg} {σ : L2.St} {B : Hp} {ta : TE} {tas : TA} {α β : Type}
theorem cp_h2 [Rp α] [Rp β] {m : Option (α × β × Unit)} (h : Ca K tas σ B m) : Cp K (tLst tas) σ B (m.bind fun t => some (H2.mk t.1 t.2.1)) := fun B1 H1 b e z em Q q => by
  obtain ⟨t, e1, em⟩ := bd_some em
  cases em
  refine h B1 H1 b e t e1 _ fun vs B2 H2 g2 hv => ?_
  obtain ⟨v1, _, rfl, h1, v2, _, rfl, h2, h4⟩ := hv
  cases h4
  refine ⟨by show 2 ≤ sizeLine; decide, fun p np => q _ (upd B2 p (.lst [v1, v2])) _ (g2.trans (Gr.new g2.e np)) ⟨p, v1, v2, rfl, upd_same, Rp.mono (Ex.new (g2.e.none np)) h1, Rp.mono (Ex.new (g2.e.none np)) h2⟩⟩
theorem cp_ih2_0 [Rp α] [Rp β] {m : Option (H2 α β)} (h : Cp K ta σ B m) : Cp K (tOp (rIxL K) ta (tC (.int 0))) σ B (m.bind fun x => some x.a) := cp_ixH (fun h => by obtain ⟨a, u1, u2, h, s, p1, p2⟩ := h; exact ⟨a, _, u1, h, s, rfl, p1⟩) h
theorem cp_ih2_1 [Rp α] [Rp β] {m : Option (H2 α β)} (h : Cp K ta σ B m) : Cp K (tOp (rIxL K) ta (tC (.int 1))) σ B (m.bind fun x => some x.b) := cp_ixH (fun h => by obtain ⟨a, u1, u2, h, s, p1, p2⟩ := h; exact ⟨a, _, u2, h, s, rfl, p2⟩) h
end
end Cf

set_option Elab.async false
set_option linter.all false
set_option maxRecDepth 100000
set_option maxHeartbeats 4000000
namespace Cf
open PySem L2
open Rp (rp)
open RpL (rpl)
section
variable {K : Fg} {α β : Type}
theorem kit_bool_bool {K : Fg} : PySem.W.kitOne K (.type "bool") (.type "bool") = some true := kit_ty (by decide +kernel)
theorem isi_bool : Isi Bool K "bool" (fun _ => true) := fun {B v x} h => by
  cases (show v = V.bl x from h)
  exact ⟨_, .base (.bl x), kit_bool_bool⟩
theorem rc_lenT2 [Rp α] [Rp β] : Rcp K (RLen K) (fun t : (α × β) × Unit => some (2 : Int)) := fun B H t z vs e h ez Q q => by
  cases ez
  obtain ⟨v, us, rfl, h1, h2⟩ := h
  cases (show us = [] from h2)
  obtain ⟨a, u, w, rfl, s, _⟩ := h1
  exact ⟨_, 2, rfl, .inr ⟨[u, w], sqt_mono e s, rfl⟩, q _ B H (Gr.refl e) rfl⟩
end
end Cf

set_option Elab.async false
set_option linter.all false
set_option maxRecDepth 100000
set_option maxHeartbeats 4000000
/-! ### list(reversed(x)), x.remove(data): at the model's level -/
namespace Ex1
open PySem PySem.Spec PyProof.Rows L2
section
variable {prog : Program} {w : World} {A : Around} {E : Value → Shared → Prop} {s : Shared}
theorem ext_rev {R : Result → Shared → Prop} (hh : A.handled = none) {it l S : Addr} {items : Array Value} (hit : s.heap.IsRevIter it l ((items.size : Int) - 1)) (hl : s.heap.IsList l items) (hne : l ≠ it) (hSi : S ≠ it) (hSl : S ≠ l) (res : Value) (c₀ : Nat)
    (hS : s.heap.get? S = some { cls := .type "list", data := .seq #[] c₀ }) (hn : items.size ≤ sizeLine)
    (hR : ∀ h' tk acc' c', (∀ b o, b ≠ S → b ≠ it → s.heap.get? b = some o → h'.get? b = some o) → h'.get? S = some { cls := .type "list", dict := none, data := .seq acc' c', slots := #[] } → ItemsOf (fun i v => items[items.size - 1 - i]? = some v) acc' items.size → R (.ok (.ret res)) { s with heap := h', toks := tk }) :
    wpAny (model prog w) A.in1 (Builtin.List.listExtendWith (.ref S) (.ref it) res)
      (fun fin s' => match fin with | .done f => R (.ok f) s' | .again c' => c'.quiet = true ∧ codeAny (model prog w) A c' R s') (fun e s' => R (.error e) s') s := by
  have W := (Walks.listRev (prog := prog) (w := w) (A := A.in1) hh it l hne items).toS
  have hSf : S ∉ [it, l] := by simp only [List.mem_cons, List.not_mem_nil, or_false, not_or]; exact ⟨hSi, hSl⟩
  have hT : s.TypeIs (.ref it) "list_reverseiterator" := Heap.IsRevIter.typeIs hit
  have h1 : Builtin.List.listSameRef (.ref S) (.ref it) = false := by simp [Builtin.List.listSameRef, hSi]
  unfold Builtin.List.listExtendWith
  refine wpAny_bind (wpAny_typeOf hT ?_)
  rw [if_neg (by rw [h1]; decide)]
  refine wpAny_bind (wpAny_pyIter_revIter hit ?_)
  refine wpAny_bind (wpAny_holding ?_)
  unfold Builtin.List.listLengthHint
  refine wpAny_bind (wpAny_specialOf hT RT.nolen_lri ?_)
  show wpAny _ A.in1 (specialOf (Value.ref it) (Str.ofString "__length_hint__") >>= _) _ _ _
  refine wpAny_bind (wpAny_specialOf hT RT.hint_lri ?_)
  generalize hid : ("list_reverseiterator.__length_hint__" : String) = id0
  wp_delta
  rw [show splitId id0 = some ("list_reverseiterator", "__length_hint__") from by subst hid; decide +kernel]
  subst hid
  refine wpAny_bind (wpAny_isInstance (b := true) hT (by rw [isSubtype_type]; kernel_rfl) ?_)
  refine wpAny_pure ?_
  rw [if_neg (by decide)]
  have e0 : ((items.size : Nat) : Int) - 1 - ((0 : Nat) : Int) = (items.size : Int) - 1 := by omega
  refine wpAny_pure ⟨plainId_quiet F.plain_extend_loop _, codeAny_extend_loopS W hn _ hSf _ items.size 0 _ _ _ rfl (Nat.zero_le _) ⟨Nat.zero_le _, by rw [e0]; exact hit, hl⟩ hS (ItemsOf.nil _) fun s' acc' c' hm hS' hacc => ?_⟩
  rw [Moved.eq_with hm]
  refine hR s'.heap s'.toks acc' c' (fun b o hb hbi e => hm.heap b o (fun hmem => ?_) e) hS' hacc
  rcases List.mem_cons.mp hmem with e' | hmem
  · exact hb e'
  · exact hbi (List.mem_singleton.mp hmem)
theorem init_rev {R : Result → Shared → Prop} (hh : A.handled = none) {it l S : Addr} {items : Array Value} (hit : s.heap.IsRevIter it l ((items.size : Int) - 1)) (hl : s.heap.IsList l items) (hne : l ≠ it) (hSi : S ≠ it) (hSl : S ≠ l)
    (hS : s.heap.get? S = some { cls := .type "list", data := .seq #[] }) (hn : items.size ≤ sizeLine)
    (hR : ∀ h' tk acc' c', (∀ b o, b ≠ S → b ≠ it → s.heap.get? b = some o → h'.get? b = some o) → h'.get? S = some { cls := .type "list", dict := none, data := .seq acc' c', slots := #[] } → ItemsOf (fun i v => items[items.size - 1 - i]? = some v) acc' items.size → R (.ok (.ret .none)) { s with heap := h', toks := tk }) :
    wpAny (model prog w) A.in1 (Builtin.«list.__init__» ⟨[.ref S, .ref it], []⟩)
      (fun fin s' => match fin with | .done f => R (.ok f) s' | .again c' => c'.quiet = true ∧ codeAny (model prog w) A c' R s') (fun e s' => R (.error e) s') s := by
  show wpAny _ _ (do let old ← Builtin.List.listItems (.ref S); Builtin.List.listUpdate (.ref S) (fun _ => #[]); letGo old.toList.reverse; Builtin.List.listExtendWith (.ref S) (.ref it) .none) _ _ s
  refine wpAny_bind ?_
  unfold Builtin.List.listItems
  refine wpAny_bind (wpAny_seqItems hS rfl (wpAny_pure ?_))
  show wpAny _ _ (updateSeq S (fun _ => #[]) >>= fun _ => letGo (#[] : Array Value).toList.reverse >>= fun _ => Builtin.List.listExtendWith (.ref S) (.ref it) .none) _ _ s
  refine wpAny_bind (wpAny_updateSeq hS rfl ?_)
  have hS₂ := Heap.get?_update_self (Obj.mapSeq (fun _ => (#[] : Array Value))) hS rfl
  have oth : ∀ b o, b ≠ S → s.heap.get? b = some o → (s.heap.update S (Obj.mapSeq (fun _ => (#[] : Array Value)))).get? b = some o :=
    fun b o hb e => (Heap.get?_update_other _ _ (Ne.symm hb)).trans e
  refine wpAny_bind (wpAny_letGo ?_)
  obtain ⟨o, ho, ho2, n, ho3⟩ := hl
  refine ext_rev hh (hit.at fun o e => oth it o (Ne.symm hSi) e) ⟨o, oth l o (Ne.symm hSl) ho, ho2, n, ho3⟩ hne hSi hSl .none _ hS₂ hn fun h' tk acc' c' hk hS' hacc => ?_
  exact hR h' tk acc' c' (fun b o hb hbi e => hk b o hb hbi (oth b o hb e)) hS' hacc
theorem call_list_rev {it l : Addr} {items : Array Value} {Q : Value → Shared → Prop} (hh : A.handled = none) (hit : s.heap.IsRevIter it l ((items.size : Int) - 1)) (hl : s.heap.IsList l items) (hne : l ≠ it) (hn : items.size ≤ sizeLine)
    (hQ : ∀ h' tk acc' c', (∀ b o, b ≠ it → s.heap.get? b = some o → h'.get? b = some o) → h'.get? s.heap.objs.size = some { cls := .type "list", dict := none, data := .seq acc' c', slots := #[] } → ItemsOf (fun i v => items[items.size - 1 - i]? = some v) acc' items.size → Q (.ref s.heap.objs.size) { s with heap := h', toks := tk }) :
    wpAny (model prog w) A (call (.type "list") [.ref it]) Q E s := by
  refine callType_codes (Q₁ := fun obj s₁ => obj = .ref s.heap.objs.size ∧ s₁ = { s with heap := s.heap.push { cls := .type "list", data := .seq #[] } }) PySem.F.called_list (PySem.F.typeCall_list_1 _) PySem.F.entry_list_init
    (code_list_new _ ⟨rfl, rfl⟩) fun obj s₁ h₁ => ?_
  obtain ⟨rfl, rfl⟩ := h₁
  have hS : (s.heap.push { cls := .type "list", data := .seq #[] }).get? s.heap.objs.size = some { cls := .type "list", data := .seq #[] } := Heap.get?_push_size _ rfl
  obtain ⟨oi, hoi, _⟩ := id hit
  obtain ⟨ol, hol, _⟩ := id hl
  refine ⟨⟨_, hS, rfl⟩, PySem.F.args_list_init_2 _ _, init_rev (A := A.in1) hh (hit.at fun o e => Heap.get?_push_of_some _ e) (hl.push _) hne (Nat.ne_of_gt (Heap.lt_size hoi)) (Nat.ne_of_gt (Heap.lt_size hol)) hS hn fun h' tk acc' c' hk hS' hacc => ?_⟩
  exact ⟨rfl, hQ h' tk acc' c' (fun b o hbi e => hk b o (Nat.ne_of_lt (Heap.lt_size e)) hbi (Heap.get?_push_of_some _ e)) hS' hacc⟩
end
end Ex1
namespace Ex1
open PySem PySem.Spec PyProof.Rows L2
/-- list(reversed(x)), x a list: a new list -/
def tLstRev (K : PySem.W.Frag) (te : TE) : TE := fun σ H Q => te σ H fun v H1 => ∃ (a : Addr) (xs : List V), v = .ref a ∧ SqL K H1 a xs ∧ ∀ q, H1 q = none → Q (.ref q) (upd H1 q (.lst xs.reverse))
section
variable {X : Cx}
theorem pe_lstRev {e : Expr} {te : TE} {p p2 pos pos2 : Pos} (hc : X.calm = true) (hg : Gl X "list") (hm : X.mg "list" = none) (hg2 : Gl X "reversed") (hm2 : X.mg "reversed" = none) (he : PE X e te)
    (hs : starEach [e] X.env = (false, eval e X.env) :: starEach [] X.env := by rfl)
    (hs2 : starEach [.Call (.Name "reversed" p2) [e] [] pos2] X.env = (false, eval (.Call (.Name "reversed" p2) [e] [] pos2) X.env) :: starEach [] X.env := by rfl) :
    PE X (.Call (.Name "list" p) [.Call (.Name "reversed" p2) [e] [] pos2] [] pos) (tLstRev X.K te) := by
  refine ⟨fun pins s σ H Q I h => ?_⟩
  refine Call_ (ld_blt I hg hm boot_list (PyProof.Rows.callWith_type1 (args_cons (Call_ (ld_blt I hg2 hm2 PyProof.Rows.boot_reversed (PyProof.Rows.callWith_type1 (args_cons (thn (he.run pins s σ H _ I h) fun u s1 ⟨v, H1, I1, r1, q1⟩ => args_nil ?_) hs) hs rfl))) hs2) hs2 rfl))
  obtain ⟨a, xs, ev, hq, q⟩ := q1
  subst ev
  obtain rfl : u = Value.ref a := r1
  obtain ⟨its, rv, p', hz⟩ := I1.list hq
  refine call_reversed_list p'.isList (args_nil ?_)
  have k0 : ∀ b o, s1.heap.get? b = some o → (s1.heap.push (revObj a ((its.toArray.size : Int) - 1))).get? b = some o := fun b o e => Heap.get?_push_of_some _ e
  have I2 : Inv X pins σ H1 { s1 with heap := s1.heap.push (revObj a ((its.toArray.size : Int) - 1)) } := I1.kept (t' := s1.toks) k0
  have fp := I1.fpOk (H' := H1) (b := s1.heap.objs.size) (Nat.le_refl _) (I1.hok.fresh (Nat.le_refl _))
  have hl := p'.isList
  obtain ⟨ol, hol, _⟩ := id hl
  have hne : a ≠ s1.heap.objs.size := Nat.ne_of_lt (Heap.lt_size hol)
  have hn : its.toArray.size ≤ sizeLine := by rw [List.size_toArray, ← rv.length]; exact hz
  refine call_list_rev (s := { s1 with heap := s1.heap.push (revObj a ((its.toArray.size : Int) - 1)) }) (I1.ok.hd hc) ⟨_, Heap.get?_push_size _ rfl, rfl, rfl⟩ (hl.push _) hne hn fun h' tk acc c' hk hS hi => ?_
  have hfz : ∀ b ∈ [s1.heap.objs.size], FpOk X pins H1 b := fun b hb => by rw [List.mem_singleton.mp hb]; exact fp
  have hT : ({ s1 with heap := s1.heap.push (revObj a ((its.toArray.size : Int) - 1)) } : Shared).heap.objs.size ≤ (s1.heap.push (revObj a ((its.toArray.size : Int) - 1))).objs.size := Nat.le_refl _
  refine ⟨.ref (s1.heap.push (revObj a ((its.toArray.size : Int) - 1))).objs.size, upd H1 (s1.heap.push (revObj a ((its.toArray.size : Int) - 1))).objs.size (.lst xs.reverse),
    I2.turnedNew (t' := tk) (ch := [s1.heap.objs.size]) (fun b o hb e => hk b o (by simpa using hb) e) hfz hT (show ObjOk X.prog X.w _ _ _ (.lst xs.reverse) from ⟨by rw [List.length_reverse]; exact hz, acc.toList, c', RT.vals_rev rv hi, ?_⟩), rfl, q _ (I2.hok.fresh (Nat.le_refl _))⟩
  rw [Array.toArray_toList]
  exact hS
/-- xs.remove(x): the first equal one -/
def rRemD (K : PySem.W.Frag) : V → List V → Hp → VK → Prop := fun x xs H Q => ∃ (l : Addr) (y : V) (vs : List V) (d : PyData) (ds : List PyData) (j : Nat) (z : PyData), x = V.ref l ∧ xs = [y] ∧ H l = some (.lst vs) ∧ DpAll K H vs ds ∧ Dp K H y d ∧
  SeqAt.shaped (.list ds) = true ∧ SeqAt.shaped d = true ∧ ds[j]? = some z ∧ PyData.eqv z d = true ∧ (∀ (m : Nat) (z' : PyData), m < j → ds[m]? = some z' → PyData.eqv z' d = false) ∧ Q .non (upd H l (.lst (vs.eraseIdx j)))
theorem mt_removeD (hu : X.A.units + 65 < cLine) : MtM X "list.remove" (rRemD X.K) := by
  intro pins s σ H x xs v us Q I rx rxs h
  obtain ⟨a, y, vs, d, ds, j, z, rfl, rfl, hH, ha, hy, sl, sd, hz, hzj, hno, q⟩ := h
  cases rx
  obtain ⟨uy, rfl, ry⟩ := rxs.one
  obtain ⟨bs, r1⟩ := Dp.reads I d y uy hy ry
  have hxs : PyData.canLayAll0 ds = true := SeqAt.canLay_of_shaped sl
  have hroom : X.A.units + 1 + min (PyData.depthAll ds) d.depth < cLine := room_in_shaped sd hu
  obtain ⟨zz, its, n, rv, hlen, e⟩ := I.lstM hH
  obtain ⟨as, h4⟩ := Dp.readsAll I ds _ its ha rv
  have hn : its.length = ds.length := SeqAt.ReadsAll.length ds its as h4
  have hmap : its.map (SeqAt.readOf s.heap) = ds := SeqAt.readsAll_map ds its as hxs h4
  have hvl := rv.length
  have hsl := sizeLine_eq
  obtain ⟨hjd, _⟩ := List.getElem?_eq_some_iff.mp hz
  have hjl : j < its.length := by omega
  have hj : j < its.toArray.size := by simpa using hjl
  have at_ : ∀ (m : Nat) (hm : m < its.toArray.size) (z' : PyData), ds[m]? = some z' → SeqAt.readOf s.heap its.toArray[m] = z' := by
    intro m hm z' hz'
    have hml : m < its.length := by simpa using hm
    rw [← hmap, List.getElem?_map, List.getElem?_eq_getElem hml] at hz'
    have e1 : SeqAt.readOf s.heap its[m] = z' := Option.some.inj (show some (SeqAt.readOf s.heap its[m]) = some z' from hz')
    simpa using e1
  refine call_meets PySem.F.slot_list_remove ⟨_, e, rfl⟩ PySem.F.entry_list_remove (PySem.F.args_list_remove_2 _ _)
    (SeqAt.list_removeAt a its.toArray n _ _ uy (fun u => PyData.eqv (SeqAt.readOf s.heap u) d) j hj ?_ ?_ (by rw [List.size_toArray]; omega)) ⟨e, SeqAt.items_eqAt (vs := its.toArray) (show ReadsAll s.heap its.toArray.toList ds as from h4) r1 hxs (SeqAt.canLay_of_shaped sd) hroom, ?_⟩
  · show PyData.eqv (SeqAt.readOf s.heap its.toArray[j]) d = true
    rw [at_ j hj z hz]
    exact hzj
  · intro m hm hmj
    have hmd : m < ds.length := by omega
    have hz' : ds[m]? = some ds[m] := List.getElem?_eq_getElem hmd
    show PyData.eqv (SeqAt.readOf s.heap its.toArray[m]) d = false
    rw [at_ m hm _ hz']
    exact hno m _ hmj hz'
  · have rr := rv.eraseIdx j
    refine ⟨.non, _, I.lset (its' := its.eraseIdx j) (t' := s.toks) hH e ?_ rr ?_, rfl, q⟩
    · show its.toArray.eraseIdxIfInBounds j = (its.eraseIdx j).toArray
      rw [List.eraseIdxIfInBounds_toArray]
    · have := List.length_eraseIdx_le vs j
      omega
end
end Ex1

set_option Elab.async false
set_option linter.all false
set_option maxRecDepth 100000
set_option maxHeartbeats 4000000
namespace Cf
open PySem L2
open Rp (rp)
open RpL (rpl)
open Enc (enc)
section
variable {K : Fg} {M : Ms} {Bs Hs W : Hp} {σ : L2.St} {B H B' H' : Hp} {te ta tb : TE} {α β ρ S S' : Type} {P : Ow S} {s : S} {D : Ends}
theorem co_lstrev [Rp α] {m : Option (List α)} (h : Cp K ta σ B m) : Co K (Ex1.tLstRev K ta) σ B (m.bind fun xs => some xs.reverse) := fun B1 H1 b e ys em Q q => by
  obtain ⟨xs, e1, em⟩ := bd_some em
  cases em
  refine h B1 H1 b e xs e1 _ fun v B2 H2 g2 hv => ?_
  obtain ⟨a, vs, rfl, s, p⟩ := hv
  refine ⟨a, vs, rfl, sq_lst (g2.e _ _ s), fun l hl => ?_⟩
  exact q l vs.reverse B2 _ (g2.trans (Gr.newM g2.e hl)) (g2.fresh hl) (g2.e.none hl) upd_same (pr_rev p)
/-- xs.remove(x): the mirror wants x in xs -/
def prm {α : Type} [DecidableEq α] : List α → α → List α
  | [], _ => []
  | a :: r, x => if a = x then r else a :: prm r x
def prem {α : Type} [DecidableEq α] (xs : List α) (x : α) : Option (List α) := if umem x xs = true then some (prm xs x) else none
theorem umem_iff {α : Type} [DecidableEq α] {x : α} {xs : List α} : umem x xs = true ↔ x ∈ xs := by
  unfold umem
  exact decide_eq_true_iff
theorem first_ix {α : Type} [DecidableEq α] {x : α} : ∀ {xs : List α}, x ∈ xs → ∃ j, xs[j]? = some x ∧ (∀ i, i < j → xs[i]? ≠ some x) ∧ xs.eraseIdx j = prm xs x
  | [], h => by cases h
  | a :: r, h => by
    by_cases e : a = x
    · subst e
      exact ⟨0, rfl, fun i hi => absurd hi (Nat.not_lt_zero _), by unfold prm; rw [if_pos rfl]; rfl⟩
    · have hr : x ∈ r := by
        rcases List.mem_cons.mp h with z | z
        · exact absurd z.symm e
        · exact z
      obtain ⟨j, h2, h3, h4⟩ := first_ix hr
      refine ⟨j + 1, h2, fun i hi => ?_, ?_⟩
      · cases i with
        | zero => exact fun z => e (Option.some.inj z)
        | succ i => exact h3 i (Nat.lt_of_succ_lt_succ hi)
      · unfold prm
        rw [if_neg e, ← h4]
        rfl
theorem pr_eraseI {α β : Type} {R : α → β → Prop} : ∀ {vs : List α} {xs : List β} (i : Nat), Paired R vs xs → Paired R (vs.eraseIdx i) (xs.eraseIdx i)
  | _, _, _, .nil => .nil
  | _, _, 0, .cons _ t => t
  | _, _, i + 1, .cons r t => .cons r (pr_eraseI i t)
theorem lay_ii : ∀ xs : List (Int × Int), PyData.canLayAll0 (xs.map enc) = true
  | [] => by simp [PyData.canLayAll0]
  | x :: xs => by
    have h := lay_ii xs
    have e : (enc x).canLay0 = true := by simp [enc, PyData.canLay0, PyData.canLayAll0]
    simp only [List.map_cons, PyData.canLayAll0, e, h, Bool.and_self]
theorem shp_ii (x : Int × Int) : SeqAt.shaped (enc x) = true := by
  have e : (enc x).canLay0 = true := by simp [enc, PyData.canLay0, PyData.canLayAll0]
  have d : (enc x).depth ≤ 64 := by simp [enc, PyData.depth, PyData.depthAll]
  show ((enc x).canLay0 && decide ((enc x).depth ≤ 64)) = true
  rw [e, decide_eq_true d]
  rfl
theorem shp_iis (xs : List (Int × Int)) : SeqAt.shaped (.list (xs.map enc)) = true := by
  have h2 : PyData.depthAll (xs.map enc) ≤ 60 := Nat.le_trans (depthAll_le xs) (by decide)
  show (PyData.canLay0 (.list (xs.map enc)) && decide (PyData.depth (.list (xs.map enc)) ≤ 64)) = true
  have e : PyData.canLay0 (.list (xs.map enc)) = true := by simp only [PyData.canLay0]; exact lay_ii xs
  have d : PyData.depth (.list (xs.map enc)) ≤ 64 := by simp only [PyData.depth]; omega
  rw [e, decide_eq_true d]
  rfl
theorem cs_remove {a : Addr} {get : S' → List (Int × Int)} {put : S' → List (Int × Int) → S'} {P' : Ow S'} {i : Nat} {m : S' → Option ((Int × Int) × S')} (l : Ln P' (OwL K a) get put) (hs : σ[i]? = some (some (.ref a))) (he : Cs K P' te σ B m) :
    Cs K P' (tBM K "list" (Ex1.rRemD K) (tVar i) (tCons te tNil)) σ B (fun s => (m s).bind fun p => (prem (get p.2) p.1).bind fun q => some ((), put p.2 q)) := fun B1 H1 W s b e w d p z s' em Q q => by
  obtain ⟨⟨x, s1⟩, e1, em⟩ := bd_some em
  obtain ⟨ys, e2, em⟩ := bd_some em
  cases em
  obtain ⟨hx, e2⟩ := if_some e2
  subst e2
  refine ⟨.ref a, hs, ?_, ?_⟩
  · obtain ⟨V1, V2, hV, dV, ⟨vs, hv, _⟩, _⟩ := l.open_ W B1 s p
    subst hV hv
    exact .inl ⟨rfl, vs, .inl (.inl (w a _ (uni_l sing_at)))⟩
  refine he B1 H1 W s b e w d p x s1 e1 _ fun v B2 H2 W2 sw p2 hv => ?_
  obtain ⟨V1, V2, hV, dV, ⟨vs, hvs, pr⟩, back⟩ := l.open_ W2 B2 s1 p2
  subst hV hvs
  have w2 : Ex V2 H2 := fun c o h => sw.w c o (by rw [uni_r (dV.symm c (nn h))]; exact h)
  obtain ⟨j, h1, h2, h3⟩ := first_ix (umem_iff.mp hx)
  have y := sw_sing (o' := .lst (vs.eraseIdx j)) sw.g.e (fun c o h => sw.w c o (uni_l h)) (dj_l sw.d)
  obtain ⟨y2, dj⟩ := y.beside w2 dV (dj_r dV sw.d)
  refine ⟨a, v, vs, enc x, (get s1).map enc, j, enc x, rfl, rfl, sw.w a _ (uni_l sing_at), dpall_mono sw.g.e _ _ (dpall_of pr), dp_mono sw.g.e _ _ (Enc.to hv), shp_iis _, shp_ii x, by rw [List.getElem?_map, h1]; rfl, (Eqv.eqv x x).mpr rfl, fun mm z hm hz => ?_, ?_⟩
  · rw [List.getElem?_map] at hz
    cases hg : (get s1)[mm]? with
    | none => rw [hg] at hz; cases hz
    | some u =>
      rw [hg] at hz
      cases hz
      rw [Bool.eq_false_iff]
      intro z
      have := (Eqv.eqv u x).mp z
      subst this
      exact h2 mm hm hg
  · refine q .non B2 (upd H2 a (.lst (vs.eraseIdx j))) _ (sw.trans y2) (back _ B2 _ (Ex.refl B2) dj ⟨vs.eraseIdx j, rfl, ?_⟩) rfl
    show Paired (rp K B2) (vs.eraseIdx j) (prm (get s1) x)
    rw [← h3]
    exact pr_eraseI j pr
theorem un2 {k : Nat} {A : Around} (r : Room k A) : A.units + 65 < cLine := by have := r.un; omega
end
end Cf

set_option Elab.async false
set_option linter.all false
set_option maxRecDepth 100000
set_option maxHeartbeats 4000000
namespace Cf
open PySem L2
open Rp (rp)
open RpL (rpl)
open Enc (enc)
section
variable {K : Fg} {M : Ms} {Bs Hs W : Hp} {σ : L2.St} {B H B' H' : Hp} {te ta tb : TE} {tt : TT} {tas : TA} {α β γ δ ε ζ ρ S S' : Type} {P : Ow S} {s : S} {D : Ends}
/-- [f for x in a list if t], the list made with effects -/
theorem cso_lcL [Rp α] [Rp β] [OwOk P] {g : TG} {vs : List Nat} {mi : S → Option (List α × S)} {t : α → Option Bool} {f : α → Option β} (hc : Cs K P ta σ B mi)
    (hs : ∀ x B1 v, Ex B B1 → rp K B1 v x → ∃ σ2, (∀ H (Q : L2.St → Hp → Prop), Ex B1 H → Q σ2 H → g v (wipe σ vs) H Q) ∧ wipe σ2 vs = wipe σ vs ∧ Ct tt σ2 B1 (t x) ∧ Cp K te σ2 B1 (f x)) :
    Cso K P (tLc (iList K ta) g tt te vs) σ B (fun s => (mi s).bind fun p => (pbig p.1).bind fun xs => (lcF t f xs).bind fun z => some (z, p.2)) := fun B1 H1 W s b e w d p ys s' em Q q => by
  obtain ⟨⟨xs, s1⟩, e1, em⟩ := bd_some em
  obtain ⟨xs', e2, em⟩ := bd_some em
  obtain ⟨zs, e3, em⟩ := bd_some em
  cases em
  refine hc B1 H1 W s b e w d p xs _ e1 _ fun v B2 H2 W2 sw p2 hv => ?_
  have key := co_lcL (K := K) (σ := σ) (B := B2) (g := g) (vs := vs) (tt := tt) (te := te) (ta := tC v) (mi := some xs) (t := t) (f := f) (cp_c hv) (fun x B1 v e1 hv => hs x B1 v ((b.trans sw.g.b).trans e1) hv) B2 H2 (Ex.refl B2) sw.g.e ys (by rw [Option.bind_some]; show (pbig xs).bind _ = _; rw [show pbig xs = some xs' from e2, Option.bind_some]; exact e3) Q fun D us B3 H3 g3 f3 n3 hD pr =>
    q D us B3 H3 W2 (sw.trans (Sw.pure g3 sw.w sw.d)) (OwOk.mono g3.b p2) (sw.g.fresh f3) n3 (by
      cases hh : W2 D with
      | none => rfl
      | some o =>
        rw [sw.w D o hh] at f3
        cases f3) hD pr
  exact key
/-- .. whose items change one's own -/
def lcS {α β S : Type} (f : α → S → Option (β × S)) : List α → S → Option (List β × S)
  | [], s => some ([], s)
  | x :: xs, s => (f x s).bind fun p => (lcS f xs p.2).bind fun q => some (p.1 :: q.1, q.2)
theorem lcS_len {f : α → S → Option (β × S)} : ∀ {xs : List α} {s : S} {ys : List β × S}, lcS f xs s = some ys → ys.1.length = xs.length
  | [], s, ys, h => by cases h; rfl
  | x :: xs, s, ys, h => by
    obtain ⟨p, e1, h⟩ := bd_some h
    obtain ⟨q, e2, h⟩ := bd_some h
    cases h
    rw [List.length_cons, List.length_cons, lcS_len e2]
theorem cso_lcS [Rp α] [Rp β] [OwOk P] {g : TG} {vs : List Nat} {mi : S → Option (List α × S)} {f : α → S → Option (β × S)} (hc : Cs K P ta σ B mi)
    (hs : ∀ x B1 v, Ex B B1 → rp K B1 v x → ∃ σ2, (∀ H (Q : L2.St → Hp → Prop), Ex B1 H → Q σ2 H → g v (wipe σ vs) H Q) ∧ wipe σ2 vs = wipe σ vs ∧ Cs K P te σ2 B1 (f x)) :
    Cso K P (tLc (iList K ta) g tYes te vs) σ B (fun s => (mi s).bind fun p => (pbig p.1).bind fun xs => lcS f xs p.2) := fun B1 H1 W s b e w d p ys s' em Q q => by
  obtain ⟨⟨xs, s1⟩, e1, em⟩ := bd_some em
  obtain ⟨xs', e2, em⟩ := bd_some em
  obtain ⟨hl, e2⟩ := if_some e2
  subst e2
  replace hl : xs.length < 1000000 := hl
  replace em : lcS f xs s1 = some (ys, s') := em
  refine hc B1 H1 W s b e w d p xs _ e1 _ fun v B2 H2 W2 sw p2 hv => ?_
  obtain ⟨a, ws, rfl, hS, hp⟩ := hv
  have hlw := pr_len hp
  refine ⟨a, rfl, ⟨ws, sq_lst (sw.g.e _ _ hS)⟩, fun D nD => ?_⟩
  have w2D : W2 D = none := by
    cases hh : W2 D with
    | none => rfl
    | some o =>
      rw [sw.w D o hh] at nD
      cases nD
  have up : ∀ {W B H : Hp} {o : HO}, Sw W2 B2 H2 W B H → B D = none → W D = none → Sw W2 B2 H2 W B (upd H D o) := fun {W B H o} y nb nw =>
    ⟨⟨y.g.s, y.g.b, (fun a o m h => by
        rw [upd_ne (ne_of_none h nD)]
        exact y.g.h a o m h), y.g.e.mut nb, y.g.n, fun a h => by
        by_cases ea : a = D
        · subst ea
          exact absurd nD h
        · rw [upd_ne ea]
          exact y.g.k a h⟩, fun a o h => by
        have : a ≠ D := by
          rintro rfl
          rw [nw] at h
          cases h
        rw [upd_ne this]
        exact y.w a o h, y.d, y.f⟩
  refine ⟨fun i m H => m = xs.length - i ∧ i ≤ xs.length ∧ ∃ W B us zs rs si, Sw W2 B2 H2 W B H ∧ P W B si ∧ B D = none ∧ W D = none ∧ H D = some (.lst us) ∧ Paired (rp K B) us zs ∧ zs.length = i ∧ lcS f (xs.drop i) si = some (rs, s') ∧ ys = zs ++ rs,
    ⟨_, rfl, Nat.zero_le _, W2, B2, [], [], ys, s1, up (Sw.refl sw.g.e sw.w sw.d) (sw.g.e.none nD) w2D, p2, sw.g.e.none nD, w2D, upd_same, .nil, rfl, em, rfl⟩, ?_⟩
  rintro i m H ⟨rfl, hi, W, B, us, zs, rs, si, y, pw, nb, nw, hD, pr, hz, hr, hys⟩
  have seq : SqL K H a ws := sq_lst ((y.g.b.trans y.g.e) _ _ hS)
  by_cases hlt : i < xs.length
  · refine .inr ⟨itl_go seq (by omega), fun H' => i + 1 ≤ xs.length ∧ ∃ W B us zs rs si, Sw W2 B2 H2 W B H' ∧ P W B si ∧ B D = none ∧ W D = none ∧ H' D = some (.lst us) ∧ Paired (rp K B) us zs ∧ zs.length = i + 1 ∧ lcS f (xs.drop (i + 1)) si = some (rs, s') ∧ ys = zs ++ rs, fun H' h => ⟨xs.length - (i + 1), by omega, rfl, h.1, h.2⟩, fun v H' yl => ?_⟩
    obtain ⟨eH, yl⟩ := yl
    subst eH
    have hx : xs[i]? = some xs[i] := List.getElem?_eq_getElem hlt
    obtain ⟨v0, hw0, hr0⟩ := pr_get hp hx
    have ew := yl ws seq
    rw [hw0] at ew
    cases ew
    have ed : xs.drop i = xs[i] :: xs.drop (i + 1) := List.drop_eq_getElem_cons hlt
    rw [ed] at hr
    obtain ⟨⟨y0, s2⟩, e3, hr⟩ := bd_some (show ((f xs[i] si).bind fun p => (lcS f (xs.drop (i + 1)) p.2).bind fun q => some (p.1 :: q.1, q.2)) = some (rs, s') from hr)
    obtain ⟨⟨rs', s3⟩, e4, hr⟩ := bd_some hr
    cases hr
    obtain ⟨σ2, hg, hw, hf⟩ := hs xs[i] B v ((b.trans sw.g.b).trans y.g.b) (Rp.mono y.g.b hr0)
    refine hg _ _ y.g.e ⟨hw, ?_⟩
    refine tyes_ok (Q := fun b H3 => if b = true then _ else _) ?_
    rw [if_pos rfl]
    refine hf B _ W si (Ex.refl B) y.g.e y.w y.d pw y0 s2 e3 _ fun v2 B3 H3 W3 y3 p3 h3 => ?_
    have hD3 : H3 D = some (.lst us) := y3.g.h D _ (fun z => z nw) hD
    have nb3 : B3 D = none := y3.g.n D (nn hD) nb
    have nw3 : W3 D = none := by
      cases hh : W3 D with
      | none => rfl
      | some o =>
        rcases y3.f D (nn hh) with z | z
        · exact absurd nw z
        · rw [hD] at z
          cases z
    have hul := pr_len pr
    refine ⟨us, hD3, Nat.lt_of_lt_of_le (show us.length < 1000000 by omega) (by decide), hlt, W3, B3, us ++ [v2], zs ++ [y0], rs', s2, up (y.trans y3) nb3 nw3, p3, nb3, nw3, upd_same, pr_app (pr_mono y3.g.b pr) (.cons h3 .nil), by rw [List.length_append, List.length_singleton, hz], e4, ?_⟩
    rw [hys, List.append_assoc]
    rfl
  · have ed : xs.drop i = [] := List.drop_eq_nil_of_le (by omega)
    rw [ed] at hr
    cases hr
    rw [List.append_nil] at hys
    subst hys
    refine .inl ⟨itl_stop seq (by omega), q D us B H W (sw.trans y) pw (sw.g.fresh nD) nb nw hD pr⟩
/-! lists of more kinds -/
structure H4 (α β γ δ : Type) where
  a : α
  b : β
  c : γ
  d : δ
structure H5 (α β γ δ ε : Type) where
  a : α
  b : β
  c : γ
  d : δ
  e : ε
instance {α β γ δ : Type} [Rp α] [Rp β] [Rp γ] [Rp δ] : Rp (H4 α β γ δ) := ⟨fun K B v x => ∃ a u1 u2 u3 u4, v = .ref a ∧ B a = some (.lst [u1, u2, u3, u4]) ∧ rp K B u1 x.a ∧ rp K B u2 x.b ∧ rp K B u3 x.c ∧ rp K B u4 x.d, fun e ⟨a, u1, u2, u3, u4, h, s, p1, p2, p3, p4⟩ => ⟨a, u1, u2, u3, u4, h, e _ _ s, Rp.mono e p1, Rp.mono e p2, Rp.mono e p3, Rp.mono e p4⟩⟩
instance {α β γ δ ε : Type} [Rp α] [Rp β] [Rp γ] [Rp δ] [Rp ε] : Rp (H5 α β γ δ ε) := ⟨fun K B v x => ∃ a u1 u2 u3 u4 u5, v = .ref a ∧ B a = some (.lst [u1, u2, u3, u4, u5]) ∧ rp K B u1 x.a ∧ rp K B u2 x.b ∧ rp K B u3 x.c ∧ rp K B u4 x.d ∧ rp K B u5 x.e, fun e ⟨a, u1, u2, u3, u4, u5, h, s, p1, p2, p3, p4, p5⟩ => ⟨a, u1, u2, u3, u4, u5, h, e _ _ s, Rp.mono e p1, Rp.mono e p2, Rp.mono e p3, Rp.mono e p4, Rp.mono e p5⟩⟩
theorem cp_h4 [Rp α] [Rp β] [Rp γ] [Rp δ] {m : Option (α × β × γ × δ × Unit)} (h : Ca K tas σ B m) : Cp K (tLst tas) σ B (m.bind fun t => some (H4.mk t.1 t.2.1 t.2.2.1 t.2.2.2.1)) := fun B1 H1 b e z em Q q => by
  obtain ⟨t, e1, em⟩ := bd_some em
  cases em
  refine h B1 H1 b e t e1 _ fun vs B2 H2 g2 hv => ?_
  obtain ⟨v1, us, rfl, h1, v2, us, rfl, h2, v3, us, rfl, h3, v4, us, rfl, h4, hz⟩ := hv
  cases (show us = [] from hz)
  refine ⟨by show 4 ≤ sizeLine; decide, fun p hp => ?_⟩
  exact q _ (upd B2 p (.lst [v1, v2, v3, v4])) _ (g2.trans (Gr.new g2.e hp)) ⟨p, v1, v2, v3, v4, rfl, upd_same, Rp.mono (Ex.new (g2.e.none hp)) h1, Rp.mono (Ex.new (g2.e.none hp)) h2, Rp.mono (Ex.new (g2.e.none hp)) h3, Rp.mono (Ex.new (g2.e.none hp)) h4⟩
theorem cp_h5 [Rp α] [Rp β] [Rp γ] [Rp δ] [Rp ε] {m : Option (α × β × γ × δ × ε × Unit)} (h : Ca K tas σ B m) : Cp K (tLst tas) σ B (m.bind fun t => some (H5.mk t.1 t.2.1 t.2.2.1 t.2.2.2.1 t.2.2.2.2.1)) := fun B1 H1 b e z em Q q => by
  obtain ⟨t, e1, em⟩ := bd_some em
  cases em
  refine h B1 H1 b e t e1 _ fun vs B2 H2 g2 hv => ?_
  obtain ⟨v1, us, rfl, h1, v2, us, rfl, h2, v3, us, rfl, h3, v4, us, rfl, h4, v5, us, rfl, h5, hz⟩ := hv
  cases (show us = [] from hz)
  refine ⟨by show 5 ≤ sizeLine; decide, fun p hp => ?_⟩
  exact q _ (upd B2 p (.lst [v1, v2, v3, v4, v5])) _ (g2.trans (Gr.new g2.e hp)) ⟨p, v1, v2, v3, v4, v5, rfl, upd_same, Rp.mono (Ex.new (g2.e.none hp)) h1, Rp.mono (Ex.new (g2.e.none hp)) h2, Rp.mono (Ex.new (g2.e.none hp)) h3, Rp.mono (Ex.new (g2.e.none hp)) h4, Rp.mono (Ex.new (g2.e.none hp)) h5⟩
theorem cp_ih4_0 [Rp α] [Rp β] [Rp γ] [Rp δ] {m : Option (H4 α β γ δ)} (h : Cp K ta σ B m) : Cp K (tOp (rIxL K) ta (tC (.int 0))) σ B (m.bind fun x => some x.a) := cp_ixH (fun h => by obtain ⟨a, u1, u2, u3, u4, h, s, p1, p2, p3, p4⟩ := h; exact ⟨a, _, u1, h, s, rfl, p1⟩) h
theorem cp_ih4_1 [Rp α] [Rp β] [Rp γ] [Rp δ] {m : Option (H4 α β γ δ)} (h : Cp K ta σ B m) : Cp K (tOp (rIxL K) ta (tC (.int 1))) σ B (m.bind fun x => some x.b) := cp_ixH (fun h => by obtain ⟨a, u1, u2, u3, u4, h, s, p1, p2, p3, p4⟩ := h; exact ⟨a, _, u2, h, s, rfl, p2⟩) h
theorem cp_ih4_2 [Rp α] [Rp β] [Rp γ] [Rp δ] {m : Option (H4 α β γ δ)} (h : Cp K ta σ B m) : Cp K (tOp (rIxL K) ta (tC (.int 2))) σ B (m.bind fun x => some x.c) := cp_ixH (fun h => by obtain ⟨a, u1, u2, u3, u4, h, s, p1, p2, p3, p4⟩ := h; exact ⟨a, _, u3, h, s, rfl, p3⟩) h
theorem cp_ih4_3 [Rp α] [Rp β] [Rp γ] [Rp δ] {m : Option (H4 α β γ δ)} (h : Cp K ta σ B m) : Cp K (tOp (rIxL K) ta (tC (.int 3))) σ B (m.bind fun x => some x.d) := cp_ixH (fun h => by obtain ⟨a, u1, u2, u3, u4, h, s, p1, p2, p3, p4⟩ := h; exact ⟨a, _, u4, h, s, rfl, p4⟩) h
theorem cp_ih5_0 [Rp α] [Rp β] [Rp γ] [Rp δ] [Rp ε] {m : Option (H5 α β γ δ ε)} (h : Cp K ta σ B m) : Cp K (tOp (rIxL K) ta (tC (.int 0))) σ B (m.bind fun x => some x.a) := cp_ixH (fun h => by obtain ⟨a, u1, u2, u3, u4, u5, h, s, p1, p2, p3, p4, p5⟩ := h; exact ⟨a, _, u1, h, s, rfl, p1⟩) h
theorem cp_ih5_1 [Rp α] [Rp β] [Rp γ] [Rp δ] [Rp ε] {m : Option (H5 α β γ δ ε)} (h : Cp K ta σ B m) : Cp K (tOp (rIxL K) ta (tC (.int 1))) σ B (m.bind fun x => some x.b) := cp_ixH (fun h => by obtain ⟨a, u1, u2, u3, u4, u5, h, s, p1, p2, p3, p4, p5⟩ := h; exact ⟨a, _, u2, h, s, rfl, p2⟩) h
theorem cp_ih5_2 [Rp α] [Rp β] [Rp γ] [Rp δ] [Rp ε] {m : Option (H5 α β γ δ ε)} (h : Cp K ta σ B m) : Cp K (tOp (rIxL K) ta (tC (.int 2))) σ B (m.bind fun x => some x.c) := cp_ixH (fun h => by obtain ⟨a, u1, u2, u3, u4, u5, h, s, p1, p2, p3, p4, p5⟩ := h; exact ⟨a, _, u3, h, s, rfl, p3⟩) h
theorem cp_ih5_3 [Rp α] [Rp β] [Rp γ] [Rp δ] [Rp ε] {m : Option (H5 α β γ δ ε)} (h : Cp K ta σ B m) : Cp K (tOp (rIxL K) ta (tC (.int 3))) σ B (m.bind fun x => some x.d) := cp_ixH (fun h => by obtain ⟨a, u1, u2, u3, u4, u5, h, s, p1, p2, p3, p4, p5⟩ := h; exact ⟨a, _, u4, h, s, rfl, p4⟩) h
theorem cp_ih5_4 [Rp α] [Rp β] [Rp γ] [Rp δ] [Rp ε] {m : Option (H5 α β γ δ ε)} (h : Cp K ta σ B m) : Cp K (tOp (rIxL K) ta (tC (.int 4))) σ B (m.bind fun x => some x.e) := cp_ixH (fun h => by obtain ⟨a, u1, u2, u3, u4, u5, h, s, p1, p2, p3, p4, p5⟩ := h; exact ⟨a, _, u5, h, s, rfl, p5⟩) h
end
end Cf

set_option Elab.async false
set_option linter.all false
set_option maxRecDepth 100000
set_option maxHeartbeats 4000000
namespace Cf
open PySem L2
open Rp (rp)
open RpL (rpl)
open Enc (enc)
section
variable {K : Fg} {M : Ms} {Bs Hs W : Hp} {σ : L2.St} {B H B' H' : Hp} {te ta tb : TE} {tt : TT} {tas : TA} {α β γ δ ε ζ ρ S S' : Type} {P : Ow S} {s : S} {D : Ends}
theorem cs_ixT [Rp α] [Rp γ] {i : Int} {f : α → γ} (hf : ∀ {B : Hp} {v : V} {x : α}, rp K B v x → ∃ a vs u, v = .ref a ∧ SqT K B a vs ∧ atI vs i = some u ∧ rp K B u (f x)) {m : S → Option (α × S)} (h : Cs K P ta σ B m) : Cs K P (tOp (rIxT K) ta (tC (.int i))) σ B (fun s => (m s).bind fun p => some (f p.1, p.2)) := fun B1 H1 W s b e w d p z s' em Q q => by
  obtain ⟨⟨x, s1⟩, e1, em⟩ := bd_some em
  cases em
  refine h B1 H1 W s b e w d p x _ e1 _ fun v B2 H2 W2 sw p2 hv => ?_
  obtain ⟨a, vs, u, rfl, hs, ha, hu⟩ := hf hv
  exact ⟨a, vs, i, u, rfl, rfl, sqt_mono sw.g.e hs, ha, q u B2 H2 W2 sw p2 hu⟩
theorem cs_item2_0 [Rp α] [Rp β] {m : S → Option ((α × β) × S)} (h : Cs K P ta σ B m) : Cs K P (tOp (rIxT K) ta (tC (.int 0))) σ B (fun s => (m s).bind fun p => some (p.1.1, p.2)) := cs_ixT (f := fun x : α × β => x.1) (fun h => by obtain ⟨a, u, w, h, s, p, q⟩ := h; exact ⟨a, _, u, h, s, rfl, p⟩) h
theorem cs_item2_1 [Rp α] [Rp β] {m : S → Option ((α × β) × S)} (h : Cs K P ta σ B m) : Cs K P (tOp (rIxT K) ta (tC (.int 1))) σ B (fun s => (m s).bind fun p => some (p.1.2, p.2)) := cs_ixT (f := fun x : α × β => x.2) (fun h => by obtain ⟨a, u, w, h, s, p, q⟩ := h; exact ⟨a, _, w, h, s, rfl, q⟩) h
theorem pi_listK {X : Cx} {tg l : Expr} {tl : TE} (h : X.K = K) (hl : PE X l tl) : PI X tg l (iList K tl) := by subst h; exact pi_list hl
end
end Cf

set_option Elab.async false
set_option linter.all false
set_option maxRecDepth 100000
set_option maxHeartbeats 4000000
namespace Cf
open PySem L2
open Rp (rp)
open RpL (rpl)
open Enc (enc)
/-! ### dicts that are locked for good: `for k in d` -/
structure DctF (α : Type) where
  l : List (Int × α)
instance {α : Type} [Rp α] : Rp (DctF α) := ⟨fun K B v x => ∃ a o kvs, v = .ref a ∧ B a = some (.frz o (.dK kvs)) ∧ DP K B kvs x.l, fun e ⟨a, o, kvs, h, s, r⟩ => ⟨a, o, kvs, h, e _ _ s, dp2_mono e r⟩⟩
def tLockR (t : TS) : TS := fun D σ H => t ⟨D.nx, fun v H' => ∃ d u, H' d = some u ∧ Mut (some u) ∧ ∀ od, D.rt v (upd H' d (.frz od u)), D.bk, D.ct⟩ σ H
def RLenD : List V → Hp → VK → Prop := fun xs H Q => ∃ a kvs, xs = [V.ref a] ∧ Rd H a (.dK kvs) ∧ Q (.int (kvs.length : Nat)) H
section
variable {X : Cx}
theorem ps_lockR {st : Stmt} {t : TS} (h : PS X st t) : PS X st (tLockR t) := by
  refine ⟨fun pins s σ H D I hw => ?_⟩
  refine thn (h.run pins s σ _ _ I hw) fun f s1 q => ?_
  cases f with
  | next => exact q
  | brk => exact q
  | cont => exact q
  | ret v =>
    obtain ⟨x, σ', H', I2, r, d, u, hd, mu, e⟩ := q
    obtain ⟨od, I3⟩ := I2.lock hd mu
    exact ⟨x, σ', _, I3, r, e od⟩
theorem call_lenDR : CallR X (.builtin "len") RLenD := by
  intro pins s σ H xs us Q I r h
  obtain ⟨a, kvs, rfl, ha, q⟩ := h
  obtain ⟨u, rfl, ru⟩ := vals1 r
  cases ru
  exact d_len I ha fun t s' I' => ⟨.int kvs.length, H, I', ⟨t, rfl⟩, q⟩
end
section
variable {K : Fg} {M : Ms} {Bs Hs W : Hp} {σ : L2.St} {B H B' H' : Hp} {te ta tb td ty : TE} {α β ρ S S' R : Type} {P : Ow S} {s : S} {D : Ends} {g : TG} {ts : TS}
theorem rc_lenD [Rp α] : Rcp K RLenD (fun t : Dct α × Unit => some (t.1.l.length : Int)) := fun B H t z vs e h ez Q q => by
  cases ez
  obtain ⟨v, us, rfl, h1, h2⟩ := h
  cases (show us = [] from h2)
  obtain ⟨a, kvs, rfl, s, p⟩ := h1
  exact ⟨a, kvs, rfl, .inl (e _ _ s), q _ B H (Gr.refl e) (show V.int _ = V.int _ by rw [dp_len p])⟩
theorem rc_lenDF [Rp α] : Rcp K RLenD (fun t : DctF α × Unit => some (t.1.l.length : Int)) := fun B H t z vs e h ez Q q => by
  cases ez
  obtain ⟨v, us, rfl, h1, h2⟩ := h
  cases (show us = [] from h2)
  obtain ⟨a, o, kvs, rfl, s, p⟩ := h1
  exact ⟨a, kvs, rfl, .inr ⟨o, e _ _ s⟩, q _ B H (Gr.refl e) (show V.int _ = V.int _ by rw [dp_len p])⟩
theorem kit_dict_dict {K : Fg} : PySem.W.kitOne K (.type "dict") (.type "dict") = some true := kit_ty (by decide +kernel)
theorem isi_dict [Rp α] : Isi (Dct α) K "dict" (fun _ => true) := fun h => by
  obtain ⟨a, kvs, rfl, s, p⟩ := h
  exact ⟨_, .base (.dK s), kit_dict_dict⟩
theorem cp_dgetF [Rp α] {m1 : Option (DctF α)} {m2 : Option Int} (h1 : Cp K td σ B m1) (h2 : Cp K ty σ B m2) : Cp K (tDGet td ty) σ B (o2 m1 m2 fun d k => dget d.l k) := fun B1 H1 b e z em Q q => by
  obtain ⟨d, k, e1, e2, e3⟩ := o2_some em
  refine h1 B1 H1 b e d e1 _ fun v B2 H2 g2 hv => ?_
  refine h2 B2 H2 (b.trans g2.b) g2.e k e2 _ fun u B3 H3 g3 hu => ?_
  cases (show u = .int k from hu)
  obtain ⟨a, o, kvs, rfl, ho, hp⟩ := hv
  obtain ⟨w, hw, rw⟩ := (dp_get (k := k) hp).2 z e3
  exact ⟨a, w, rfl, .inl ⟨kvs, .inl k, .inr ⟨o, g3.e _ _ (g3.b _ _ ho)⟩, rfl, hw.symm⟩, q w B3 H3 (g2.trans g3) (Rp.mono g3.b rw)⟩
theorem cp_dinF [Rp α] {m1 : Option Int} {m2 : Option (DctF α)} (h1 : Cp K ty σ B m1) (h2 : Cp K td σ B m2) : Cp K (tDIn ty td) σ B (o2 m1 m2 fun k d => some (dget d.l k).isSome) := fun B1 H1 b e z em Q q => by
  obtain ⟨k, d, e1, e2, e3⟩ := o2_some em
  cases e3
  refine h1 B1 H1 b e k e1 _ fun u B2 H2 g2 hu => ?_
  refine h2 B2 H2 (b.trans g2.b) g2.e d e2 _ fun v B3 H3 g3 hv => ?_
  cases (show u = .int k from hu)
  obtain ⟨a, o, kvs, rfl, ho, hp⟩ := hv
  refine ⟨a, valV kvs (.inl k), rfl, .inl ⟨kvs, .inl k, .inr ⟨o, g3.e _ _ ho⟩, rfl, rfl⟩, q _ B3 H3 (g2.trans g3) ?_⟩
  show V.bl _ = V.bl _
  congr 1
  cases hg : dget d.l k with
  | none => rw [(dp_get (k := k) hp).1 hg]; rfl
  | some x =>
    obtain ⟨w, hw, _⟩ := (dp_get (k := k) hp).2 x hg
    rw [hw]
    rfl
theorem cp_dninF [Rp α] {m1 : Option Int} {m2 : Option (DctF α)} (h1 : Cp K ty σ B m1) (h2 : Cp K td σ B m2) : Cp K (tDNotIn ty td) σ B (o2 m1 m2 fun k d => some (!(dget d.l k).isSome)) := fun B1 H1 b e z em Q q => by
  obtain ⟨k, d, e1, e2, e3⟩ := o2_some em
  cases e3
  refine h1 B1 H1 b e k e1 _ fun u B2 H2 g2 hu => ?_
  refine h2 B2 H2 (b.trans g2.b) g2.e d e2 _ fun v B3 H3 g3 hv => ?_
  cases (show u = .int k from hu)
  obtain ⟨a, o, kvs, rfl, ho, hp⟩ := hv
  refine ⟨a, valV kvs (.inl k), rfl, .inl ⟨kvs, .inl k, .inr ⟨o, g3.e _ _ ho⟩, rfl, rfl⟩, q _ B3 H3 (g2.trans g3) ?_⟩
  show V.bl _ = V.bl _
  congr 2
  cases hg : dget d.l k with
  | none => rw [(dp_get (k := k) hp).1 hg]; rfl
  | some x =>
    obtain ⟨w, hw, _⟩ := (dp_get (k := k) hp).2 x hg
    rw [hw]
    rfl
/-- return of a dict of one's own, locked from then on -/
theorem st_retDF [Rp α] {i : Nat} {p : Addr} {x : S × List (Int × α)} {r : DctF α} (hm : some (DctF.mk x.2) = some r) (N : Now M Bs Hs (star P (OwD K p)) W B H x) (fp : Hs p = none) (hs : σ[i]? = some (some (.ref p)))
    (q : ∀ B1 H1, Gr M Bs Hs B1 H1 → rp K B1 (.ref p) r → D.rt (.ref p) H1) : tLockR (tRet (tVar i)) D σ H := by
  cases hm
  obtain ⟨W1, W2, h, d, p1, ⟨vs, hv, pr⟩⟩ := N.p
  subst h hv
  have hp : H p = some (.dK vs) := N.w p _ (by rw [uni_r (d.symm p (nn sing_at))]; exact sing_at)
  have nb : B p = none := dj_r d N.d p (nn sing_at)
  refine ⟨.ref p, hs, p, .dK vs, hp, trivial, fun od => q (upd B p (.frz od (.dK vs))) _ ?_ ⟨p, od, vs, rfl, upd_same, dp2_mono (Ex.new nb) pr⟩⟩
  refine Gr.freeze ⟨N.g.s, N.g.b, fun a o m h => ?_, N.g.e.mut nb, N.g.n, fun a h z => ?_⟩ upd_same fp nb
  · have ne : a ≠ p := fun z => by
      subst z
      rw [fp] at h
      cases h
    rw [upd_ne ne]
    exact N.g.h a o m h
  · by_cases ne : a = p
    · subst ne
      rw [upd_same] at z
      cases z
    · rw [upd_ne ne] at z
      exact N.g.k a h z
theorem dp_key [Rp α] : ∀ {kvs : List (L2.Key × V)} {xs : List (Int × α)} {i : Nat} {k : Int}, DP K B kvs xs → (xs.map (·.1))[i]? = some k → ∃ v, kvs[i]? = some (.inl k, v)
  | _, _, _, _, .nil, e => by simp at e
  | _, _, 0, _, .cons (v := v) _ _, e => by
    have : some _ = some _ := e
    cases this
    exact ⟨v, rfl⟩
  | _, _, i + 1, _, .cons _ t, e => dp_key (i := i) t e
/-- for k in a dict that is locked for good -/
theorem st_forF_keys [Rp α] {mi mi' : Option (DctF α)} {b : Int → S → Option (Fl S R)} {s0 : S} {k : Fl S R → Option ρ} {r : ρ} (I : Hp → S → Hp → L2.St → Hp → Prop) (hm : ((mi'.bind fun x => some (x.l.map (·.1))).bind fun xs => (forF b xs s0).bind k) = some r) (e : Ex B H) (hc : Cp K te σ B mi) (he : mi = mi')
    (hx : ∀ Be s B σ H, I Be s B σ H → Ex Be B ∧ Ex B H) (h0 : ∀ Be H1, Gr noM B H Be H1 → I Be s0 Be σ H1)
    (hs : ∀ Be x s B σ H v c (N : L2.St → Hp → Prop), I Be s B σ H → rp K B v x → b x s = some c → (∀ s2 B2 σ2 H2, c = .nx s2 → I Be s2 B2 σ2 H2 → N σ2 H2) → (∀ s2 B2 σ2 H2, c = .bk s2 → I Be s2 B2 σ2 H2 → D.nx σ2 H2) →
      (∀ r', c = .rt r' → k (.rt r') = some r) → g v σ H fun σ2 H2 => ts { D with nx := N, ct := N, bk := D.nx } σ2 H2)
    (hd : ∀ Be s B σ H, k (.nx s) = some r → I Be s B σ H → D.nx σ H) : tFor (iKeys te) g ts D σ H := by
  subst he
  obtain ⟨xs, e0, e2⟩ := bd_some hm
  obtain ⟨x, e1, e0⟩ := bd_some e0
  cases e0
  refine hc B H (Ex.refl B) e x e1 _ fun v Be H1 g1 hv => ?_
  obtain ⟨a, o, kvs, rfl, hS, hp⟩ := hv
  have hl : kvs.length = (x.l.map (·.1)).length := by rw [dp_len hp, List.length_map]
  refine ⟨a, o, rfl, .inl ⟨kvs, g1.e _ _ hS, forF_run (K := K) (xs := x.l.map (·.1)) (B := Be) (I Be) (fun i s B σ H hI hi => ?_) (fun i s B σ H hI hi => ?_) (fun i z s B σ H v H' hI hxi y => ?_) e2 (h0 Be H1 g1) (fun x s B σ H v c N => hs Be x s B σ H v c N) (fun s B σ H => hd Be s B σ H)⟩⟩
  · obtain ⟨x1, x2⟩ := hx _ _ _ _ _ hI
    exact ⟨(x1.trans x2) _ _ hS, by omega⟩
  · obtain ⟨x1, x2⟩ := hx _ _ _ _ _ hI
    exact ⟨(x1.trans x2) _ _ hS, by omega⟩
  · obtain ⟨x1, x2⟩ := hx _ _ _ _ _ hI
    obtain ⟨eH, k', v', hk, ex⟩ := y
    subst eH ex
    obtain ⟨w, hw⟩ := dp_key hp hxi
    rw [hw] at hk
    cases hk
    exact ⟨B, hI, rfl⟩
end
end Cf

set_option Elab.async false
set_option linter.all false
set_option maxRecDepth 100000
set_option maxHeartbeats 4000000
namespace Cf
open PySem L2
open PySem.Spec PyProof.Rows
open GxR (TabG Tabbed GenS Ready trF)
/-! ### any, all of a generator expression over a text, whose element may look at the module and call -/
def EltD (X : Cx) (scope : Scope) (x : Str) (elt : Expr) (pb : Nat → Bool) : Prop :=
  ∀ (env : Env) (A' : Around) (E' : Value → Shared → Prop) (c : Nat) (t : Tok) (s : Shared) (m : Str → Option Value), env.scope = scope → env.globals = mainGlobals → L2.Mod X.K X.mg X.base → A'.handled = none → A'.depth ≤ X.A.depth + 1 → A'.units ≤ X.A.units + 8 →
    (∀ b o, X.base.get? b = some o → s.heap.get? b = some o) → s.heap.Ns env.locals m → m x = some (.str ⟨#[c]⟩ t) → wpAny (model X.prog X.w) A' (eval elt env) (fun y s' => y = .bool (pb c) ∧ Keeps s s') E' s
section
variable {X : Cx} {pins : List (Addr × Obj)} {σ : L2.St} {H : Hp} {s : Shared}
theorem gen_strD {c P : Addr} {elt iter : Expr} {x : Str} {px gpos : Pos} {scope : Scope} {pb : Nat → Bool} {te : TE} {k : Nat} {Q' : Value → Shared → Prop} {R : Str → Hp → Prop}
    (hr : Room k X.A) (TB : GxR.TabB X.base X.mg c P) (hcode : X.env.code = .ref c) (S : GenS X.env scope x) (hi : PE X iter te) (hel : EltD X scope x elt pb)
    (hs : ∀ v, genFold iter X.env v = pure v) (I : Inv X pins σ H s) (h : te σ H fun v H1 => ∃ a : Str, v = .str a ∧ TabG H1 P ∧ R a H1)
    (hQ : ∀ a H1 g s5, R a H1 → Ready X pins σ H1 P a pb g s5 → Q' (.ref g) s5) :
    wpAny (model X.prog X.w) X.A (eval (.GeneratorExp elt [⟨.Name x px, iter, [], 0⟩] scope gpos) X.env) Q' X.xe s := by
  have room : X.A.depth < recursionLimit := by have := hr.dp; omega
  refine wpAny_GeneratorExp_walksQD hr.hd S.co (L2.closure_ok S.free) S.cell S.dot S.loc S.kind room (thn (hi.run pins s σ H _ I h) ?_) hs
  rintro _ s1 ⟨_, H1, I1, r1, a, rfl, ⟨ps, hP, ht⟩, hR⟩
  obtain ⟨t, rfl⟩ := r1
  refine wpAny_pyIter_str fun o St W hst => ?_
  have hPs : s1.heap.get? P = some { cls := .none, data := .fields ps } := I1.hok P _ hP
  have hPlt := Heap.lt_size hPs
  have sz : (s1.heap.push o).objs.size = s1.heap.objs.size + 1 := Heap.size_push ..
  have hP2 : (s1.heap.push o).get? P = some { cls := .none, data := .fields ps } := Heap.get?_push_of_some _ hPs
  have lim2 : (s1.heap.push o).NoLimit := I1.nolimit.push o
  have cd : PySem.W.CodeHd (s1.heap.push o) c P := TB.code.keeps fun b u e => Heap.get?_push_of_some _ (I1.bk b u e)
  have bP : ∀ b u, X.base.get? b = some u → b ≠ P := fun b u e z => by
    have := (I1.bs b u e).2
    rw [z, hP] at this
    cases this
  have hcP : cStatics ≠ P := fun e => by
    obtain ⟨_, ⟨o', es, ep, ho, hd, _⟩, _⟩ := I1.nolimit
    rw [e, hPs] at ho
    cases ho
    cases hd
  have hcl : cStatics < s1.heap.objs.size := by
    obtain ⟨_, hns, _⟩ := I1.nolimit
    exact hns.lt
  refine ⟨lim2, ?_⟩
  -- with the code at hand: h3 is the heap behind it, P has grown
  suffices rest : ∀ (code : Value) (h3 : Heap) (tk : Nat) (more : Array Value), Heap.ExtBut P (s1.heap.push o) h3 → (s1.heap.push o).objs.size ≤ h3.objs.size → h3.get? P = some { cls := .none, data := .fields (ps ++ more) } → TriplesOk (ps ++ more).toList →
      wpAny (model X.prog X.w) X.A (builtinsFor X.env.globals X.env.builtins) (fun bi s₄ =>
        ∃ Ia fp wr n₀ Pf St₀ pz F, Value.ref s1.heap.objs.size = .ref Ia ∧ (∀ A' : Around, A'.handled = none → Walks X.prog X.w A' Ia fp wr n₀ Pf St₀) ∧ St₀ 0 s₄.heap ∧ (∀ b ∈ fp, b < s₄.heap.objs.size) ∧ s₄.heap.NoLimit ∧ cStatics ∉ wr ∧
          (∀ href : Heap, (∀ b o, s₄.heap.get? b = some o → href.get? b = some o) →
            QuietGenD X.prog X.w (genEnv scope (cloFrom X.env.cells scope.names []) s₄.heap.objs.size code bi X.env) x [] elt (List.range s₄.heap.objs.size) wr Pf pz F href (X.A.depth + 1) (X.A.units + 8)) ∧
          (∀ a h₅ tk gs, gs.bare = true → s₄.heap.objs.size < a → h₅.objs.size = a + 1 → (∀ b o, s₄.heap.get? b = some o → h₅.get? b = some o) →
            WalksS X.prog X.w X.A.in4 a (a :: s₄.heap.objs.size :: List.range s₄.heap.objs.size) (s₄.heap.objs.size :: wr) (GenOnlyQ s₄.gens.size) (passing pz n₀ 0).length
              (fun j y => ∃ i, (passing pz n₀ 0)[j]? = some i ∧ F i y) (GenAt X.prog X.w X.A.in4 a s₄.gens.size s₄.heap.objs.size (List.range s₄.heap.objs.size) wr pz n₀ F) →
            GenAt X.prog X.w X.A.in4 a s₄.gens.size s₄.heap.objs.size (List.range s₄.heap.objs.size) wr pz n₀ F 0 { s₄ with gens := s₄.gens.push gs, toks := tk, heap := h₅ } →
            Q' (.ref a) { s₄ with gens := s₄.gens.push gs, toks := tk, heap := h₅ })) X.xe { s1 with heap := h3, toks := tk } by
    cases hf : codeAmong gpos ps.toList with
    | none =>
      refine wpAny_genexprCodeX hcode (cd.code hP2 ht) (cd.tab hP2) hf fun c' h' tk hx hge hlt hco' _ htab' _ => ?_
      obtain ⟨_, _, _, _, _, _, _, _, _, _, _, _, _, _, _, _, _, _, _, htr, _⟩ := hco'
      exact rest _ h' tk _ hx (Nat.le_trans hge (Nat.le_of_lt hlt)) htab'.2 htr
    | some cv =>
      refine wpAny_genexprCode_hit hcode (cd.code hP2 ht) hf ?_
      exact rest cv (s1.heap.push o) s1.toks #[] (Heap.ExtBut.refl _ _) (Nat.le_refl _) (by rw [Array.append_empty]; exact hP2) (by rw [Array.append_empty]; exact ht)
  intro code h3 tk more hx hsz hP3 ht3
  have k3 : ∀ b u, b ≠ P → s1.heap.get? b = some u → h3.get? b = some u := fun b u hb e => hx b u hb (Heap.get?_push_of_some _ e)
  have kb : ∀ b u, X.base.get? b = some u → h3.get? b = some u := fun b u e => k3 b u (bP b u e) (I1.bk b u e)
  obtain ⟨bm, ob, e1, e2, e3, e4, e5, e6, e7, e8⟩ := TB.bm
  refine wpAny_builtinsFor (m := X.mg) (by rw [I1.ok.glob]; exact ((I1.mod.glob.keeps I1.bk).push o).extBut hx TB.gP) e1 e2 (k3 _ _ e4 (I1.bk _ _ e5)) e6 e7 e8 ?_
  refine ⟨s1.heap.objs.size, [s1.heap.objs.size], [s1.heap.objs.size], a.cps.size, SignAt a, St, (fun _ => true), (fun i y => ∃ cc, a.cps[i]? = some cc ∧ y = .bool (pb cc)), rfl, W, ?_, fun b hb => ?_, lim2.extBut hx hcP, fun z => ?_, fun href hh => ?_, ?_⟩
  · refine (W X.A hr.hd).frame _ _ _ hst fun b hb u e => hx b u ?_ e
    rw [List.mem_singleton.mp hb]
    exact Nat.ne_of_gt hPlt
  · rw [List.mem_singleton.mp hb]
    show s1.heap.objs.size < h3.objs.size
    omega
  · exact absurd (List.mem_singleton.mp z) (Nat.ne_of_lt hcl)
  · have kept : ∀ s₂ : Shared, (∀ b ∈ List.range h3.objs.size, b ∉ [s1.heap.objs.size] → ∀ o, href.get? b = some o → s₂.heap.get? b = some o) → ∀ b o, X.base.get? b = some o → s₂.heap.get? b = some o := fun s₂ hk b u e => by
      have e3 := kb b u e
      refine hk b (List.mem_range.mpr (Heap.lt_size e3)) (fun z => ?_) u (hh b u e3)
      have := Heap.lt_size (I1.bk b u e)
      rw [List.mem_singleton.mp z] at this
      exact Nat.lt_irrefl _ this
    refine ⟨fun A' E' i v s₂ m₂ _ _ _ _ _ _ _ => ?_, fun A' E' i v s₂ m₂ hA hD hU hPv _ hn hm hk => ?_⟩
    · rw [List.forIn_nil]
      exact wpAny_pure ⟨rfl, GxR.keeps_refl _⟩
    · obtain ⟨cc, u, hcc, rfl⟩ := hPv
      exact thn (hel _ A' E' cc u s₂ m₂ rfl (show X.env.globals = mainGlobals from I1.ok.glob) I1.mod hA hD hU (kept s₂ hk) hn hm) fun y s3 r => ⟨⟨cc, hcc, r.1⟩, r.2⟩
  · intro g h5 tk5 gs hgb hag hsz5 hk5 W5 hat
    simp only [GxR.passing_true, List.length_range] at W5
    refine hQ a H1 g _ hR ⟨_, _, _, _, _, W5.in4_1, hat, fun j y sj Qj Ej hy hQj => ?_, fun s' hm => ?_⟩
    · obtain ⟨i, hij, cc, hcc, rfl⟩ := hy
      obtain ⟨hj, ej⟩ := List.getElem?_eq_some_iff.mp hij
      rw [List.getElem_range] at ej
      subst ej
      have hQ2 : Qj (trF pb a.cps.toList j) sj := hQj
      rw [GxR.trF_some (by rw [Array.getElem?_toList]; exact hcc)] at hQ2
      exact wpAny_truthy_bool hQ2
    · have nw : ∀ b u, s1.heap.get? b = some u → b ∉ h3.objs.size :: [s1.heap.objs.size] := fun b u e hb => by
        have hl := Heap.lt_size e
        rcases List.mem_cons.mp hb with z | z
        · rw [show b = h3.objs.size from z] at hl
          have hl : (h3.objs.size : Nat) < s1.heap.objs.size := hl
          omega
        · rw [show b = s1.heap.objs.size from List.mem_singleton.mp z] at hl
          exact Nat.lt_irrefl _ hl
      have J := GxR.inv_tab (more := more) (h' := s'.heap) (g' := s'.gens) (d' := s'.drawn) (t' := s'.toks) I1 hP (fun b u hb e => hm.heap b u (nw b u e) (hk5 b u (k3 b u hb e)))
        (hm.heap P _ (nw P _ hPs) (hk5 P _ hP3)) (AllBare.movedS (I1.bare.push hgb) hm)
      rw [GxR.sh_eta s1 s' hm.os] at J
      exact ⟨_, ⟨⟨_, upd_same, ht3⟩, fun b hb => upd_ne hb⟩, J⟩
theorem pe_anyD {c P : Addr} {elt iter : Expr} {x : Str} {px p pos gpos : Pos} {scope : Scope} {pb : Nat → Bool} {te : TE} {k : Nat}
    (hr : Room k X.A) (hg : Gl X "any") (hm : X.mg "any" = none) (TB : GxR.TabB X.base X.mg c P) (hcode : X.env.code = .ref c) (S : GenS X.env scope x) (hi : PE X iter te) (hel : EltD X scope x elt pb)
    (hs : ∀ v, genFold iter X.env v = pure v)
    (he : starEach [.GeneratorExp elt [⟨.Name x px, iter, [], 0⟩] scope gpos] X.env = (false, eval (.GeneratorExp elt [⟨.Name x px, iter, [], 0⟩] scope gpos) X.env) :: starEach [] X.env := by rfl) :
    PE X (.Call (.Name "any" p) [.GeneratorExp elt [⟨.Name x px, iter, [], 0⟩] scope gpos] [] pos) (GxR.tAnyS P pb te) := by
  refine ⟨fun pins s σ H Q I h => wpAny_Call_Name_kw (ld_blt I hg hm boot_any (PyProof.Rows.callWith_builtin1 ?_ he (by rfl)))⟩
  rw [he]
  refine Calls.spliced_cons (gen_strD (R := fun a H1 => ∀ H2, Tabbed P H1 H2 → Q (.bl (a.cps.toList.any pb)) H2) hr TB hcode S hi hel hs I h fun a H1 g s5 hR hG => Calls.spliced_nil ?_)
  obtain ⟨fp, wr, G, F, St, W, hst, htr, hI⟩ := hG
  refine call_any_walkS (W.self 0 _ _ _ hst ⟨g, fp, wr, G, _, F, St, _, rfl, W, hst, htr, fun s' hmv => ?_⟩)
  obtain ⟨H2, hT, J⟩ := hI s' hmv
  exact ⟨.bl _, H2, J, rfl, by rw [GxR.any_signs a pb]; exact hR H2 hT⟩
theorem pe_allD {c P : Addr} {elt iter : Expr} {x : Str} {px p pos gpos : Pos} {scope : Scope} {pb : Nat → Bool} {te : TE} {k : Nat}
    (hr : Room k X.A) (hg : Gl X "all") (hm : X.mg "all" = none) (hb : bootBuiltins "all" = some (.builtin "all")) (TB : GxR.TabB X.base X.mg c P) (hcode : X.env.code = .ref c) (S : GenS X.env scope x) (hi : PE X iter te) (hel : EltD X scope x elt pb)
    (hs : ∀ v, genFold iter X.env v = pure v)
    (he : starEach [.GeneratorExp elt [⟨.Name x px, iter, [], 0⟩] scope gpos] X.env = (false, eval (.GeneratorExp elt [⟨.Name x px, iter, [], 0⟩] scope gpos) X.env) :: starEach [] X.env := by rfl) :
    PE X (.Call (.Name "all" p) [.GeneratorExp elt [⟨.Name x px, iter, [], 0⟩] scope gpos] [] pos) (GxR.tAllS P pb te) := by
  refine ⟨fun pins s σ H Q I h => wpAny_Call_Name_kw (ld_blt I hg hm hb (PyProof.Rows.callWith_builtin1 ?_ he (by rfl)))⟩
  rw [he]
  refine Calls.spliced_cons (gen_strD (R := fun a H1 => ∀ H2, Tabbed P H1 H2 → Q (.bl (a.cps.toList.all pb)) H2) hr TB hcode S hi hel hs I h fun a H1 g s5 hR hG => Calls.spliced_nil ?_)
  obtain ⟨fp, wr, G, F, St, W, hst, htr, hI⟩ := hG
  refine call_all_walkS (W.self 0 _ _ _ hst ⟨g, fp, wr, G, _, F, St, _, rfl, W, hst, htr, fun s' hmv => ?_⟩)
  obtain ⟨H2, hT, J⟩ := hI s' hmv
  exact ⟨.bl _, H2, J, rfl, by rw [GxR.all_signs a pb]; exact hR H2 hT⟩
end
end Cf

set_option Elab.async false
set_option linter.all false
set_option maxRecDepth 100000
set_option maxHeartbeats 4000000
namespace Cf
open PySem L2
open Rp (rp)
open RpL (rpl)
open PySem.Spec PyProof.Rows
/-! ### a def's table of code objects as one's own -/
def OwTab (P : Addr) : Ow Unit := fun W _ _ => ∃ ps : Array Value, W = sing P (.tbl ps) ∧ TriplesOk ps.toList
instance {P : Addr} : OwOk (OwTab P) := ⟨fun _ h => h, fun {W B s b o} ⟨ps, h, _⟩ e => by
  subst h
  have := sing_dom (nn e)
  subst this
  rw [sing_at] at e
  cases e
  rfl⟩
theorem tabbed_upd {P : Addr} {H H' : Hp} (h : GxR.Tabbed P H H') : ∃ ps : Array Value, TriplesOk ps.toList ∧ H' = upd H P (.tbl ps) := by
  obtain ⟨⟨ps, hp, ht⟩, hn⟩ := h
  refine ⟨ps, ht, funext fun b => ?_⟩
  by_cases e : b = P
  · rw [e, upd_same, hp]
  · rw [upd_ne e, hn b e]
def spT {τ γ : Type} [RpL τ] [Rp γ] (K : Fg) (P : Addr) (f : τ → Option γ) : Sp := fun vs H Q _ => ∃ W B t r, Ex B H ∧ Ex W H ∧ Dj W B ∧ OwTab P W B () ∧ rpl K B vs t ∧ f t = some r ∧ ∀ v W' B' H', Sw W B H W' B' H' → OwTab P W' B' () → rp K B' v r → Q v H'
section
variable {K : Fg} {σ : L2.St} {B H B' H' W : Hp} {te ta tb tc : TE} {tas : TA} {α β γ τ S S' : Type} {P' : Ow S'}
theorem cs_tab {P : Addr} {get : S' → Unit} {put : S' → Unit → S'} {pb : Nat → Bool} {g : Str → Bool} {T : Addr → (Nat → Bool) → TE → TE} {m : S' → Option (Str × S')} (l : Ln P' (OwTab P) get put) (hu : ∀ s x, put s x = s)
    (hT : ∀ te σ H Q, (te σ H fun v H1 => ∃ a : Str, v = .str a ∧ GxR.TabG H1 P ∧ ∀ H2, GxR.Tabbed P H1 H2 → Q (.bl (g a)) H2) → T P pb te σ H Q) (h : Cs K P' te σ B m) :
    Cs K P' (T P pb te) σ B (fun s => (m s).bind fun p => some (g p.1, p.2)) := fun B1 H1 W s b e w d p z s' em Q q => by
  obtain ⟨⟨x, s1⟩, e1, em⟩ := bd_some em
  cases em
  refine hT _ _ _ _ (h B1 H1 W s b e w d p x s1 e1 _ fun v B2 H2 W2 sw p2 hv => ?_)
  obtain ⟨V1, V2, hV, dV, ⟨ps, h1, ht⟩, back⟩ := l.open_ W2 B2 s1 p2
  subst hV h1
  refine ⟨x, hv, ⟨ps, sw.w _ _ (uni_l sing_at), ht⟩, fun H3 h3 => ?_⟩
  obtain ⟨ps', ht', rfl⟩ := tabbed_upd h3
  have hd : uni (sing P (.tbl ps)) V2 P ≠ none := nn (uni_l sing_at)
  have y := sw_upd (o := .tbl ps') sw.g.e sw.w sw.d hd
  rw [upd_uni (V1 := emp)] at y
  have dj : Dj (sing P (.tbl ps')) V2 := fun b h => dV b (by rw [sing_dom h]; exact nn sing_at)
  have pb2 := back _ B2 () (Ex.refl B2) dj ⟨ps', rfl, ht'⟩
  rw [hu] at pb2
  exact q _ B2 _ _ (sw.trans y) pb2 rfl
theorem cs_all {P : Addr} {get : S' → Unit} {put : S' → Unit → S'} {pb : Nat → Bool} {m : S' → Option (Str × S')} (l : Ln P' (OwTab P) get put) (hu : ∀ s x, put s x = s) (h : Cs K P' te σ B m) :
    Cs K P' (GxR.tAllS P pb te) σ B (fun s => (m s).bind fun p => some (p.1.cps.toList.all pb, p.2)) := cs_tab (g := fun a => a.cps.toList.all pb) (T := GxR.tAllS) l hu (fun _ _ _ _ q => q) h
theorem cs_any {P : Addr} {get : S' → Unit} {put : S' → Unit → S'} {pb : Nat → Bool} {m : S' → Option (Str × S')} (l : Ln P' (OwTab P) get put) (hu : ∀ s x, put s x = s) (h : Cs K P' te σ B m) :
    Cs K P' (GxR.tAnyS P pb te) σ B (fun s => (m s).bind fun p => some (p.1.cps.toList.any pb, p.2)) := cs_tab (g := fun a => a.cps.toList.any pb) (T := GxR.tAnyS) l hu (fun _ _ _ _ q => q) h
/-- a call of a def that has a table behind it -/
theorem cs_callT [RpL τ] [Rp γ] {P : Addr} {get : S' → Unit} {put : S' → Unit → S'} {f : τ → Option γ} {m : S' → Option (τ × S')} {E : XK} (l : Ln P' (OwTab P) get put) (hu : ∀ s x, put s x = s) (ha : Csa K P' tas σ B m) :
    Cs K P' (tCall (spT K P f) [] E tas) σ B (fun s => (m s).bind fun p => (f p.1).bind fun z => some (z, p.2)) := fun B1 H1 W s b e w d p z s' em Q q => by
  obtain ⟨⟨x, s1⟩, e1, em⟩ := bd_some em
  obtain ⟨z', e2, em⟩ := bd_some em
  cases em
  refine ha B1 H1 W s b e w d p x _ e1 _ fun vs B2 H2 W2 sw p2 hv => ?_
  obtain ⟨V1, V2, hV, dV, pV, back⟩ := l.open_ W2 B2 s1 p2
  subst hV
  rw [List.append_nil]
  refine ⟨V1, B2, x, z, sw.g.e, (fun a o h => sw.w a o (uni_l h)), dj_l sw.d, pV, hv, e2, fun v V1' B3 H3 sw3 p3 hv3 => ?_⟩
  obtain ⟨sw4, dj⟩ := sw3.beside (fun a o h => sw.w a o (by rw [uni_r (dV.symm a (nn h))]; exact h)) dV (dj_r dV sw.d)
  have pb2 := back _ B3 () sw3.g.b dj p3
  rw [hu] at pb2
  exact q v B3 H3 _ (sw.trans sw4) pb2 hv3
end
/-- box = [e, 0] beside what there is -/
theorem st_boxB {S ρ : Type} {K : Fg} {σ : L2.St} {B H W : Hp} {te : TE} {P : Ow S} {s : S} [OwOk P] {M : Ms} {Bs Hs : Hp} {D : Ends} {m m' : Option (List Int)} {k : List Int → Option ρ} {r : ρ} {i : Nat} (hm : m'.bind k = some r) (N : Now M Bs Hs P W B H s) (hc : Cp K te σ B m) (he : m = m')
    (q : ∀ ds p W1 B1 H1, k ds = some r → Now M Bs Hs (star P (OwBox K p)) W1 B1 H1 (s, ds) → Ex B B1 → Hs p = none → D.nx (σ.set i (some (.ref p))) H1) : tAsg (tLst (tCons te (tCons (tC (.int 0)) tNil))) (gName i) D σ H := by
  subst he
  obtain ⟨x, e1, e2⟩ := bd_some hm
  refine hc B H (Ex.refl B) N.ex x e1 _ fun v B1 H1 g hv => ⟨by show 2 ≤ sizeLine; decide, fun p np => ?_⟩
  have N1 := N.pure g
  have fp : Hs p = none := N1.g.fresh np
  obtain ⟨W1, N2⟩ := N1.make (Q := OwBox K p) (x := x) (o := .lst [v, .int 0]) np ⟨v, x, 0, rfl, hv, rfl⟩
  exact q x p W1 B1 _ e2 N2 g.b fp
/-- a def whose own code object is asked for -/
theorem fnd_okC {P : Program} {w : World} {K : Fg} {mg : Str → Option Value} {base : Heap} {x qual : Str} {params : Arguments} {body : List Stmt} {scope : Scope} {dvs : List V} {kws : List (Str × V)} {d : He.Defn} {fd : FuncData} {CX : CXT} {N ps : List Str} {k : Nat} {sp : Sp}
    (F : FunD K x qual params body scope dvs kws (He.fAd K d) fd) (S : FnScope N ps scope) (len : ∀ vs H Q E, sp vs H Q E → vs.length = ps.length)
    (hbody : ∀ (cdv : Value) (A : Around) (outer : List Env) (s : Shared) (H : Hp) (vs : List V) (Q : VK) (E : XK), cdv = .ref (He.cT K d).1 → Room k (A.deeper (envOfC qual scope s.heap.objs.size (He.fAd K d) cdv)) → sp vs H Q E →
      ∃ t, PSs (cxOf CX P w K mg base N qual scope (He.fAd K d) cdv A outer s H E) body t ∧ t { nx := fun _ H' => Q .non H', rt := Q } (start N vs) H) : FnOk P w K mg base CX (k + 1) (He.fAd K d) fd ps sp := by
  obtain ⟨oc, od, dV, kV, doc, pm, an, cdv, ct, osl, rfl, lk, hcd, _, _⟩ := F.ex
  obtain ⟨c, hc⟩ := He.codeIn_ref hcd
  have e := He.codeOf_eq lk (c := c) hc
  exact fn_of lk hcd S len fun A outer s H vs Q E hr hsp => hbody cdv A outer s H vs Q E (by rw [hc, ← e]; rfl) hr hsp
/-- sign in TEXT, TEXT of the module -/
theorem elt_in {X : Cx} {scope : Scope} {x y : Str} {z : Str} {p1 p2 p3 : Pos} (hk : scope.kind = .function) (hl : scope.names.lookup x = some .local) (hg : scope.names.lookup y = some .globalImplicit) (hy : ∃ t, X.mg y = some (.str z t))
    (hd : (x == ("__debug__" : Str)) = false := by decide) (hd2 : (y == ("__debug__" : Str)) = false := by decide) : EltD X scope x (.Compare (.Name x p1) [.In] [.Name y p2] p3) (fun c => decide (c ∈ z.cps.toList)) := by
  intro env A' E' c t s m hs hG hb _ _ _ kb hn hm
  obtain ⟨tz, ey⟩ := hy
  refine wpAny_Compare1 (wpAny_Name (wpAny_loadName_local (by rw [hs]; exact hk) (show env.scope.names.lookup x = some .local by rw [hs]; exact hl) hn hm ?_) hd)
  refine Calls.Name_function_global (by rw [hs]; exact hk) (show env.scope.names.lookup y = some .globalImplicit by rw [hs]; exact hg) (Calls.loadGlobal_global (by rw [hG]; exact hb.glob.keeps kb) ey ?_) hd2
  exact P.in_str ⟨congrArg _ (PySem.StrLaws.found_one z c), GxR.keeps_refl _⟩
theorem gens_of {env : Env} {scope : Scope} {x : Str} (h1 : scope.kind = .function) (h2 : scope.isCoroutine = false) (h3 : ∀ y ∈ scope.names, y.2 ≠ .cell) (h4 : scope.names.lookup (".0" : Str) = some NameKind.local) (h5 : scope.names.lookup x = some .local) (h6 : ∀ y ∈ scope.names, y.2 ≠ .free) : GxR.GenS env scope x :=
  ⟨h1, h2, h3, h4, h5, fun y hy e => absurd e (h6 y hy)⟩
/-- the law's own start: the script is known, the table is one's own -/
theorem spT_law {K : Fg} {P a : Addr} {f : Scr × Unit → Option Bool} {ns : List Int} {H : Hp} {E : XK} (hP : H P = some (.tbl #[])) (hS : SqL K H a (ns.map V.int)) (hf : f (⟨ns⟩, ()) = some true) : spT K P f [.ref a] H (fun v _ => v = .bl true) E := by
  have eB : Ex (fun b => if b = P then none else H b) H := fun b o h => by
    dsimp only at h
    split at h
    · cases h
    · exact h
  refine ⟨sing P (.tbl #[]), fun b => if b = P then none else H b, (⟨ns⟩, ()), true, eB, fun b o h => ?_, fun b h => ?_, ⟨#[], rfl, trivial⟩, ⟨_, _, rfl, ⟨a, rfl, ?_⟩, rfl⟩, hf, fun v _ _ _ _ _ hv => hv⟩
  · have := sing_dom (nn h)
    subst this
    rw [sing_at] at h
    cases h
    exact hP
  · rw [sing_dom h]
    exact if_pos rfl
  · have ne : ∀ u, H a = some u → u ≠ .tbl #[] → a ≠ P := fun u h1 h2 z => by
      rw [z, hP] at h1
      exact h2 (Option.some.inj h1).symm
    rcases hS with (h | ⟨o, h⟩) | h
    · exact .inl (.inl ((if_neg (ne _ h (fun z => nomatch z))).trans h))
    · exact .inl (.inr ⟨o, (if_neg (ne _ h (fun z => nomatch z))).trans h⟩)
    · exact .inr h
end Cf

set_option Elab.async false
set_option linter.all false
set_option maxRecDepth 100000
set_option maxHeartbeats 4000000
namespace Cf
open PySem L2
open Rp (rp)
open RpL (rpl)
/-! ### methods of texts -/
section
variable {K : Fg} {σ : L2.St} {B H B' H' W : Hp} {te ta tb tc : TE} {α β γ τ S : Type} {P : Ow S}
theorem cp_m0 [Rp γ] {r : V → List V → Hp → VK → Prop} {f : Str → Option γ} {m : Option Str} (hr : R1p K (fun x => r x []) f) (ha : Cp K ta σ B m) : Cp K (tM0 r ta) σ B (m.bind f) := fun B1 H1 b eh z e Q q => by
  obtain ⟨x, e1, e2⟩ := bd_some e
  refine ha B1 H1 b eh x e1 _ fun v B2 H2 g2 hv => ⟨⟨x, hv⟩, ?_⟩
  exact hr B2 H2 x z v g2.e hv e2 Q fun w B3 H3 g3 hw => q w B3 H3 (g2.trans g3) hw
theorem cp_m1 [Rp β] [Rp γ] {r : V → List V → Hp → VK → Prop} {f : Str → β → Option γ} {m1 : Option Str} {m2 : Option β} (hr : R2p K (fun x y => r x [y]) f) (ha : Cp K ta σ B m1) (hb : Cp K tb σ B m2) : Cp K (tM1 r ta tb) σ B (o2 m1 m2 f) := fun B1 H1 b eh z e Q q => by
  obtain ⟨x, y, e1, e2, e3⟩ := o2_some e
  refine ha B1 H1 b eh x e1 _ fun v B2 H2 g2 hv => ⟨⟨x, hv⟩, ?_⟩
  refine hb B2 H2 (b.trans g2.b) g2.e y e2 _ fun u B3 H3 g3 hu => ?_
  exact hr B3 H3 x y z v u g3.e (Rp.mono g3.b hv) hu e3 Q fun w B4 H4 g4 hw => q w B4 H4 ((g2.trans g3).trans g4) hw
theorem cs_m0 [Rp γ] [OwOk P] {r : V → List V → Hp → VK → Prop} {f : Str → Option γ} {m : S → Option (Str × S)} (hr : R1p K (fun x => r x []) f) (ha : Cs K P ta σ B m) : Cs K P (tM0 r ta) σ B (fun s => (m s).bind fun p => (f p.1).bind fun z => some (z, p.2)) := fun B1 H1 W s b e w d p z s' em Q q => by
  obtain ⟨⟨x, s1⟩, e1, em⟩ := bd_some em
  obtain ⟨z', e2, em⟩ := bd_some em
  cases em
  refine ha B1 H1 W s b e w d p x s1 e1 _ fun v B2 H2 W2 sw p2 hv => ⟨⟨x, hv⟩, ?_⟩
  exact hr B2 H2 x z v sw.g.e hv e2 Q fun t B4 H4 g4 ht => q t B4 H4 W2 (sw.trans (Sw.pure g4 sw.w sw.d)) (OwOk.mono g4.b p2) ht
theorem pr_strs : ∀ {vs : List V} {ys : List Str}, Paired (rp K B) vs ys → vs = ys.map V.str
  | _, _, .nil => rfl
  | _, _, .cons r t => by rw [List.map_cons, ← pr_strs t, show _ = V.str _ from r]
def pjoin (a : Str) (ys : List Str) : Option Str := if (ys.map (·.length)).sum + ys.length * a.length ≤ 16777216 then some (Txt.join a ys) else none
def plower (a : Str) : Option Str := if a.length ≤ 5592405 then some (Txt.lower a) else none
def pupper (a : Str) : Option Str := if a.length ≤ 5592405 then some (Txt.upper a) else none
theorem r2_isB : R2p K rIsB (fun x y : Bool => some (decide (x = y))) := fun B H x y z vx vy e hx hy ez Q q => by
  cases (show vx = .bl x from hx)
  cases (show vy = .bl y from hy)
  cases ez
  exact ⟨x, y, rfl, rfl, q _ B H (Gr.refl e) rfl⟩
theorem r2_notB : R2p K rNotB (fun x y : Bool => some (!decide (x = y))) := fun B H x y z vx vy e hx hy ez Q q => by
  cases (show vx = .bl x from hx)
  cases (show vy = .bl y from hy)
  cases ez
  exact ⟨x, y, rfl, rfl, q _ B H (Gr.refl e) rfl⟩
def pfind (a b : Str) : Option Int := some (Txt.find a b)
def pislower (a : Str) : Option Bool := some (Txt.islower a)
theorem r2_join : R2p K (fun x y => (fun x xs H Q => ∃ a p, ∃ ys : List Str, x = V.str a ∧ xs = [V.ref p] ∧ (SqL K H p (ys.map V.str) ∨ SqT K H p (ys.map V.str)) ∧ (ys.map (·.length)).sum + ys.length * a.length ≤ 16777216 ∧ Q (.str (Txt.join a ys)) H) x [y]) (fun (a : Str) (ys : List Str) => pjoin a ys) := fun B H x y z vx vy e hx hy ez Q q => by
  cases (show vx = .str x from hx)
  obtain ⟨p, vs, rfl, s, pr⟩ := hy
  obtain ⟨hl, ez⟩ := if_some ez
  cases ez
  have := pr_strs pr
  subst this
  exact ⟨x, p, y, rfl, rfl, .inl (sq_lst (e _ _ s)), hl, q _ B H (Gr.refl e) rfl⟩
theorem r2_find : R2p K (fun x y => (fun x xs H Q => ∃ a b, x = V.str a ∧ xs = [V.str b] ∧ Q (.int (Txt.find a b)) H) x [y]) (fun a b : Str => pfind a b) := fun B H x y z vx vy e hx hy ez Q q => by
  cases (show vx = .str x from hx)
  cases (show vy = .str y from hy)
  cases ez
  exact ⟨x, y, rfl, rfl, q _ B H (Gr.refl e) rfl⟩
theorem r1_lower : R1p K (fun x => (fun x xs H Q => ∃ a, x = V.str a ∧ xs = ([] : List V) ∧ a.length ≤ 5592405 ∧ Q (.str (Txt.lower a)) H) x []) (fun a : Str => plower a) := fun B H x z vx e hx ez Q q => by
  cases (show vx = .str x from hx)
  obtain ⟨hl, ez⟩ := if_some ez
  cases ez
  exact ⟨x, rfl, rfl, hl, q _ B H (Gr.refl e) rfl⟩
theorem r1_upper : R1p K (fun x => (fun x xs H Q => ∃ a, x = V.str a ∧ xs = ([] : List V) ∧ a.length ≤ 5592405 ∧ Q (.str (Txt.upper a)) H) x []) (fun a : Str => pupper a) := fun B H x z vx e hx ez Q q => by
  cases (show vx = .str x from hx)
  obtain ⟨hl, ez⟩ := if_some ez
  cases ez
  exact ⟨x, rfl, rfl, hl, q _ B H (Gr.refl e) rfl⟩
theorem r1_islower : R1p K (fun x => (fun x xs H Q => ∃ a, x = V.str a ∧ xs = ([] : List V) ∧ True ∧ Q (.bl (Txt.islower a)) H) x []) (fun a : Str => pislower a) := fun B H x z vx e hx ez Q q => by
  cases (show vx = .str x from hx)
  cases ez
  exact ⟨x, rfl, rfl, trivial, q _ B H (Gr.refl e) rfl⟩
/-- [f for x in a text if t] -/
theorem co_lcT [Rp β] {tt : TT} {g : TG} {vs : List Nat} {mi : Option Str} {t : Str → Option Bool} {f : Str → Option β} (hc : Cp K ta σ B mi)
    (hs : ∀ x B1 v, Ex B B1 → rp K B1 v x → ∃ σ2, (∀ H (Q : L2.St → Hp → Prop), Ex B1 H → Q σ2 H → g v (wipe σ vs) H Q) ∧ wipe σ2 vs = wipe σ vs ∧ Ct tt σ2 B1 (t x) ∧ Cp K te σ2 B1 (f x)) :
    Co K (tLc (iStr ta) g tt te vs) σ B (mi.bind fun z => (pbig (sgns z)).bind fun xs => lcF t f xs) := fun B1 H1 b e ys em Q q => by
  obtain ⟨z, e1, em⟩ := bd_some em
  obtain ⟨xs', e2, em⟩ := bd_some em
  obtain ⟨hl, e2⟩ := if_some e2
  subst e2
  refine hc B1 H1 b e z e1 _ fun v B2 H2 g2 hv => ?_
  cases (show v = .str z from hv)
  have hz := sgns_len z
  refine ⟨z, rfl, lc_run (K := K) (xs := sgns z) (B1 := B2) hl (fun i B H x1 x2 hi => (by show i < z.cps.size; omega)) (fun i B H x1 x2 hi => (by show z.cps.size ≤ i; omega))
    (fun i x B H v H' x1 x2 hxi y => ?_) em g2.e (fun x B H v x1 x2 hv bb tb hex Qy Qn hy hn => ?_) fun D us B3 H3 g3 f n hD pr => q D us B3 H3 (g2.trans g3) (g2.fresh f) n hD pr⟩
  · obtain ⟨eH, ev⟩ := sgns_yld hxi y
    subst eH
    exact ⟨B, Gr.refl x2, ev⟩
  · obtain ⟨σ2, hg, hw, ht, hf⟩ := hs x B v ((b.trans g2.b).trans x1) hv
    refine hg H _ x2 ⟨hw, ht B H (Ex.refl B) x2 _ tb _ fun B3 H3 g3 => ?_⟩
    cases bb with
    | true =>
      rw [if_pos rfl]
      obtain ⟨y, hfx⟩ := hex rfl
      exact hf B3 H3 g3.b g3.e y hfx _ fun v2 B4 H4 g4 h4 => hy rfl y hfx v2 B4 H4 (g3.trans g4) h4
    | false =>
      rw [if_neg Bool.false_ne_true]
      exact hn rfl B3 H3 g3
end

end Cf

set_option Elab.async false
set_option linter.all false
set_option maxRecDepth 100000
set_option maxHeartbeats 4000000
namespace Cf
open PySem L2
open Rp (rp)
open RpL (rpl)
open Enc (enc)
open PySem.Spec PyProof.Rows
/-! ### what is never reached -/
def tNvr : TS := fun _ _ _ => False
theorem ps_nvr {X : Cx} {st : Stmt} : PS X st tNvr := ⟨fun _ _ _ _ _ _ h => h.elim⟩
theorem pss_nvr {X : Cx} {ss : List Stmt} : PSs X ss tNvr := ⟨fun _ _ _ _ _ _ h => h.elim⟩
/-! ### a def of one sign: x == K or x in TEXT -/
theorem quiet_or {P : Program} {w : World} {K : Fg} {mg : Str → Option Value} {nm qual x y k z : Str} {params : Arguments} {scope : Scope} {f : Addr} {fd : FuncData} {j : Nat} {p1 p2 p3 p4 p5 p6 p7 p8 : Pos}
    (F : FunD K nm qual params [.Return (some (.BoolOp .Or [.Compare (.Name x p1) [.Eq] [.Constant (.str k) j p2] p3, .Compare (.Name x p4) [.In] [.Name y p5] p6] p7)) p8] scope [] [] f fd) (S : FnScope [x] [x] scope) (hl : scope.names.lookup x = some .local) (hg : scope.names.lookup y = some .globalImplicit)
    (hb : ∀ (kV doc pm : Value) (an : Option Addr) (cdv ct u : Value), bindArgs (PySem.W.fnOf nm qual params [.Return (some (.BoolOp .Or [.Compare (.Name x p1) [.Eq] [.Constant (.str k) j p2] p3, .Compare (.Name x p4) [.In] [.Name y p5] p6] p7)) p8] scope .none kV doc pm an cdv ct) ⟨[u], []⟩ = pure [(x, u)])
    (hy : ∃ t, mg y = some (.str z t)) (hd : (x == ("__debug__" : Str)) = false := by decide) (hd2 : (y == ("__debug__" : Str)) = false := by decide)
    {A : Around} {s : Shared} {c : Nat} {t : Tok} (hh : A.handled = none) (hdp : A.depth < recursionLimit) (kin : K.In s.heap) (glob : s.heap.Ns mainGlobals mg) (lim : s.heap.NoLimit) :
    codeAny (model P w) A (.call (.ref f) ⟨[.str ⟨#[c]⟩ t], []⟩) (fun r s' => r = .ok (.ret (.bool ([c] == k.cps.toList || decide (c ∈ z.cps.toList)))) ∧ Keeps s s') s := by
  obtain ⟨oc, od, dV, kV, doc, pm, an, cdv, ct, osl, rfl, lk, hcd, hdf, _⟩ := F.ex
  obtain ⟨tz, ey⟩ := hy
  refine codeAny_call_function hdp (kin _ _ lk) rfl S.co S.gen rfl (PySem.W.codeRec_of kin hcd) ?_
  have hbind : BindsTo s (PySem.W.fnOf nm qual params [.Return (some (.BoolOp .Or [.Compare (.Name x p1) [.Eq] [.Constant (.str k) j p2] p3, .Compare (.Name x p4) [.In] [.Name y p5] p6] p7)) p8] scope dV kV doc pm an cdv ct) ⟨[.str ⟨#[c]⟩ t], []⟩ [(x, .str ⟨#[c]⟩ t)] := by
    rcases hdf with ⟨_, rfl⟩ | ⟨h, _⟩
    · exact .of_eq (hb _ _ _ _ _ _ _)
    · exact absurd rfl h
  refine hbind _ _ _ _ ?_
  refine wpAny_newFunctionEnv_cells S.kind (fun y hy => ?_) fun env he s1 ic => ?_
  · rw [List.mem_singleton.mp hy]
    exact .inl hl
  have hsc : env.scope = scope := by rw [he]; rfl
  have hgl : env.globals = mainGlobals := by rw [he]; rfl
  have hkd : env.kindOf x = some .local := by rw [show env.kindOf x = env.scope.names.lookup x from rfl, hsc]; exact hl
  have hv : bindL env.kindOf [(x, Value.str ⟨#[c]⟩ t)] (fun _ => none) x = some (.str ⟨#[c]⟩ t) := by simp [bindL, hkd]
  obtain ⟨h1, tk, e1, k1⟩ := ic.done
  refine ⟨lim.keeps ic.toInCall.keep, codeAny_func ?_⟩
  have hk : ∀ (s2 : Shared), Keeps s1 s2 → Keeps s s2 := fun s2 ⟨h2, tk2, e2, k2⟩ => ⟨h2, tk2, by rw [e2, e1], fun b o e => k2 b o (ic.toInCall.keep b o e)⟩
  have glob1 : s1.heap.Ns mainGlobals mg := glob.keeps ic.toInCall.keep
  have kf : env.scope.kind = .function := by rw [hsc]; exact S.kind
  refine wpAny_execs_cons (wpAny_Return_some ?_)
  refine BoolOp_or (wpAny_Compare1 (wpAny_Name (wpAny_loadName_local kf hkd ic.toInCall.ns hv ?_) hd))
  refine Calls.Constant_str (PySem.P.eq_str (wpAny_truthy_bool ?_))
  cases h : ((⟨#[c]⟩ : Str).cps.toList == k.cps.toList) with
  | true =>
    rw [if_pos rfl]
    exact ⟨rfl, hk _ (GxR.keeps_tok _ _)⟩
  | false =>
    rw [if_neg Bool.false_ne_true]
    refine BoolOp_one (wpAny_Compare1 (wpAny_Name (wpAny_loadName_local kf hkd ic.toInCall.ns hv ?_) hd))
    refine Calls.Name_function_global kf (by rw [show env.kindOf y = env.scope.names.lookup y from rfl, hsc]; exact hg) (Calls.loadGlobal_global (by rw [hgl]; exact glob1) ey ?_) hd2
    exact PySem.P.in_str ⟨congrArg (fun b => Except.ok (Flow.ret (.bool b))) (PySem.StrLaws.found_one z c), hk _ (GxR.keeps_tok _ _)⟩
/-- the def x answers pb of a sign, and changes nothing -/
def QuietD (P : Program) (w : World) (K : Fg) (mg : Str → Option Value) (x : Str) (pb : Nat → Bool) : Prop :=
  ∃ fa, mg x = some (.ref fa) ∧ PySem.W.keepIn K (.ref fa) = true ∧ ∀ (A : Around) (s : Shared) (c : Nat) (t : Tok), A.handled = none → A.depth < recursionLimit → K.In s.heap → s.heap.Ns mainGlobals mg → s.heap.NoLimit →
    codeAny (model P w) A (.call (.ref fa) ⟨[.str ⟨#[c]⟩ t], []⟩) (fun r s' => r = .ok (.ret (.bool (pb c))) ∧ Keeps s s') s
theorem quietD_or {P : Program} {w : World} {K : Fg} {mg : Str → Option Value} {nm qual x y k z : Str} {params : Arguments} {scope : Scope} {f : Addr} {fd : FuncData} {j : Nat} {p1 p2 p3 p4 p5 p6 p7 p8 : Pos}
    (F : FunD K nm qual params [.Return (some (.BoolOp .Or [.Compare (.Name x p1) [.Eq] [.Constant (.str k) j p2] p3, .Compare (.Name x p4) [.In] [.Name y p5] p6] p7)) p8] scope [] [] f fd) (hm : mg nm = some (.ref f)) (S : FnScope [x] [x] scope) (hl : scope.names.lookup x = some .local) (hg : scope.names.lookup y = some .globalImplicit)
    (hb : ∀ (kV doc pm : Value) (an : Option Addr) (cdv ct u : Value), bindArgs (PySem.W.fnOf nm qual params [.Return (some (.BoolOp .Or [.Compare (.Name x p1) [.Eq] [.Constant (.str k) j p2] p3, .Compare (.Name x p4) [.In] [.Name y p5] p6] p7)) p8] scope .none kV doc pm an cdv ct) ⟨[u], []⟩ = pure [(x, u)])
    (hy : ∃ t, mg y = some (.str z t)) (hd : (x == ("__debug__" : Str)) = false := by decide) (hd2 : (y == ("__debug__" : Str)) = false := by decide) : QuietD P w K mg nm (fun c => [c] == k.cps.toList || decide (c ∈ z.cps.toList)) :=
  ⟨f, hm, F.kp, fun A s c t hh hdp kin glob lim => quiet_or F S hl hg hb hy hd hd2 hh hdp kin glob lim⟩
theorem elt_call {X : Cx} {scope : Scope} {x y : Str} {k : Nat} {pb : Nat → Bool} {p1 p2 p3 : Pos} (hr : Room k X.A) (hk : scope.kind = .function) (hl : scope.names.lookup x = some .local) (hg : scope.names.lookup y = some .globalImplicit) (q : QuietD X.prog X.w X.K X.mg y pb)
    (hd : (x == ("__debug__" : Str)) = false := by decide) (hd2 : (y == ("__debug__" : Str)) = false := by decide) : EltD X scope x (.Call (.Name y p1) [.Name x p2] [] p3) pb := by
  intro env A' E' c t s m hs hG hb hh hdp _ kb hn hm
  obtain ⟨fa, ey, kp, hq⟩ := q
  have kf : env.scope.kind = .function := by rw [hs]; exact hk
  have kin : X.K.In s.heap := hb.kin.keeps kb
  have dl : A'.depth < recursionLimit := by have := hr.dp; omega
  refine wpAny_Call_Name_kw (Calls.Name_function_global kf (show env.scope.names.lookup y = some .globalImplicit by rw [hs]; exact hg) (Calls.loadGlobal_global (by rw [hG]; exact hb.glob.keeps kb) ey ?_) hd2)
  refine PySem.W.callWith_K (h₀ := X.base) hb.kin kp (Calls.spliced_cons (wpAny_Name (wpAny_loadName_local kf (show env.scope.names.lookup x = some .local by rw [hs]; exact hl) hn hm (Calls.spliced_nil ⟨kin, ?_⟩)) hd))
  refine wpAny_call (codeAny_mono (hq A' s c t hh dl kin (hb.glob.keeps kb) (hb.nolimit.keeps kb)) fun r s' h => ?_)
  obtain ⟨rfl, h⟩ := h
  exact ⟨rfl, h⟩
/-! ### max(ns, default=d) of ints -/
def pmaxD : List Int → Int → Int
  | [], d => d
  | n :: r, _ => r.foldl max n
def rMaxDef (K : Fg) : List V → List V → Hp → VK → Prop := fun xs zs H Q => ∃ (a : V) (ns : List Int) (d : Int), xs = [a] ∧ zs = [.int d] ∧ Dp K H a (.list (ns.map PyData.int)) ∧ Q (.int (pmaxD ns d)) H
theorem depthAll_ints : ∀ ns : List Int, PyData.depthAll (ns.map PyData.int) = 0
  | [] => by simp [PyData.depthAll]
  | n :: r => by
    rw [List.map_cons]
    simp [PyData.depthAll, PyData.depth, depthAll_ints r]
theorem call_maxDef {X : Cx} {k : Nat} (hr : Room k X.A) : CallRK X (.builtin "max") ["default"] (rMaxDef X.K) := by
  intro pins s σ H xs zs us ws Q I rx rz h
  obtain ⟨a, ns, d, rfl, rfl, hd, q⟩ := h
  obtain ⟨u, rfl, ru⟩ := vals1 rx
  obtain ⟨v, rfl, rv⟩ := vals1 rz
  obtain ⟨t, rfl⟩ : ∃ t, v = .int d t := rv
  obtain ⟨bs, r2⟩ := Dp.reads I _ a u hd ru
  have hun := hr.un
  cases r2 with
  | list ho hc hdd rs =>
    refine PySem.W.max_list_default hr.hd ⟨_, ho, hc, _, hdd⟩ rs (PySem.W.alikeAll_datum ns) (by rw [depthAll_ints]; omega) (fun e h' tk kp => ?_) fun y ys i w h' tk bs2 e hi r kp => ?_
    · have : ns = [] := List.map_eq_nil_iff.mp e
      subst this
      exact ⟨.int d, H, I.kept (t' := tk) kp, ⟨t, rfl⟩, q⟩
    · cases ns with
      | nil => cases e
      | cons n r0 =>
        rw [List.map_cons] at e
        injection e with e1 e2
        subst e1 e2
        rw [PySem.W.maxD_ints] at r
        cases r with
        | int _ t2 => exact ⟨.int _, H, I.kept (t' := tk) kp, ⟨t2, rfl⟩, q⟩
section
variable {K : Fg} {σ : L2.St} {B H : Hp} {te ta tb : TE}
theorem cp_maxDef {m1 : Option (List Int)} {m2 : Option Int} (h1 : Cp K ta σ B m1) (h2 : Cp K tb σ B m2) : Cp K (tCKw (rMaxDef K) (tCons ta tNil) (tCons tb tNil)) σ B (o2 m1 m2 fun ns d => some (pmaxD ns d)) := fun B1 H1 b e z em Q q => by
  obtain ⟨ns, d, e1, e2, e3⟩ := o2_some em
  cases e3
  refine h1 B1 H1 b e ns e1 _ fun v B2 H2 g2 hv => ?_
  refine h2 B2 H2 (b.trans g2.b) g2.e d e2 _ fun u B3 H3 g3 hu => ?_
  cases (show u = .int d from hu)
  exact ⟨v, ns, d, rfl, rfl, dp_mono g3.e _ _ (Enc.to (Rp.mono g3.b hv)), q _ B3 H3 (g2.trans g3) rfl⟩
end
/-! ### x in a tuple of texts -/
def rInT (K : Fg) : R2 := fun x c H Q => ∃ d ds, Dp K H x d ∧ Dp K H c (.tuple ds) ∧ d.plain = true ∧ PyData.plainAll ds = true ∧ d.depth ≤ 60 ∧ Q (.bl (ds.any fun y => PyData.eqv y d)) H
theorem op_inT {X : Cx} (hu : X.A.units + 64 < cLine) : OpR X (compareOp .In) (rInT X.K) := by
  intro pins s σ H x y v u Q I rx ry h
  obtain ⟨d, ds, hd, he, sd, se, hl, q⟩ := h
  obtain ⟨as, r1⟩ := Dp.reads I d x v hd rx
  obtain ⟨bs, r2⟩ := Dp.reads I _ y u he ry
  exact SeqAt.in_tuple_data r2 r1 se sd (by omega) ⟨.bl _, H, I, rfl, q⟩
def inT3 (x : Str) (t : T3 Str Str Str) : Bool := decide (x = t.a) || decide (x = t.b) || decide (x = t.c)
theorem r2_inT3 {K : Fg} : R2p K (rInT K) (fun (x : Str) (t : T3 Str Str Str) => some (inT3 x t)) := fun B H x y z vx vy e hx hy ez Q q => by
  cases ez
  obtain ⟨a, u1, u2, u3, rfl, hs, h1, h2, h3⟩ := hy
  cases (show u1 = .str y.a from h1)
  cases (show u2 = .str y.b from h2)
  cases (show u3 = .str y.c from h3)
  refine ⟨.str x, [.str y.a, .str y.b, .str y.c], (show Dp K H vx (.str x) by cases (show vx = .str x from hx); exact .str x), .tup (sqt_mono e hs) (.cons (.str _) (.cons (.str _) (.cons (.str _) .nil))), rfl, rfl, (by simp [PyData.depth]), q _ B H (Gr.refl e) ?_⟩
  show V.bl _ = V.bl _
  congr 1
  show ((y.a == x) || ((y.b == x) || ((y.c == x) || false))) = _
  unfold inT3
  rw [Bool.or_false, Bool.or_assoc]
  congr 1
  · rw [Bool.eq_iff_iff, beq_iff_eq, decide_eq_true_eq]; exact eq_comm
  congr 1
  · rw [Bool.eq_iff_iff, beq_iff_eq, decide_eq_true_eq]; exact eq_comm
  · rw [Bool.eq_iff_iff, beq_iff_eq, decide_eq_true_eq]; exact eq_comm
theorem st_asg2S {α β S ρ : Type} [Rp α] [Rp β] {K : Fg} {M : Ms} {Bs Hs W B H : Hp} {σ : L2.St} {te : TE} {P : Ow S} {s : S} {D : Ends} {m : S → Option ((α × β) × S)} {m' : Option ((α × β) × S)} {k : (α × β) × S → Option ρ} {r : ρ} {i j : Nat} (hm : m'.bind k = some r) (N : Now M Bs Hs P W B H s) (hc : Cs K P te σ B m) (he : m s = m')
    (q : ∀ x s1 u w W1 B1 H1, k (x, s1) = some r → Now M Bs Hs P W1 B1 H1 s1 → Ex B B1 → rp K B1 u x.1 → rp K B1 w x.2 → D.nx ((σ.set i (some u)).set j (some w)) H1) : tAsg te (gTup K 2 (gCons (gName i) (gCons (gName j) gNil))) D σ H := by
  subst he
  obtain ⟨⟨x, s1⟩, e1, e2⟩ := bd_some hm
  refine hc B H W s (Ex.refl B) N.ex N.w N.d N.p x s1 e1 _ fun v B1 H1 W1 sw p hv => ?_
  exact gtup2 hv sw.g.e fun u w h1 h2 => q x s1 u w W1 B1 H1 e2 (N.step sw p) sw.g.b h1 h2
/-- a call of a def that has a table behind it, of a list of one's own that it only reads -/
theorem cs_callTL {α γ S' : Type} [Rp α] [Rp γ] [Flat γ] {K : Fg} {σ : L2.St} {B : Hp} {P' : Ow S'} [OwOk P'] {P a : Addr} {g1 : S' → Unit} {p1 : S' → Unit → S'} {get : S' → List α} {put : S' → List α → S'} {f : List α × Unit → Option γ} {i : Nat} {E : XK} (l1 : Ln P' (OwTab P) g1 p1) (hu : ∀ s x, p1 s x = s) (l2 : Ln P' (OwL K a) get put) (hs : σ[i]? = some (some (.ref a))) :
    Cs K P' (tCall (spT K P f) [] E (tCons (tVar i) tNil)) σ B (fun s => (f (get s, ())).bind fun z => some (z, s)) := fun B1 H1 W s b e w d p z s' em Q q => by
  obtain ⟨z', e2, em⟩ := bd_some em
  cases em
  obtain ⟨W1, W2, hW, dW, ⟨ps, h1, ht⟩, back⟩ := l1.open_ W B1 s p
  obtain ⟨V1, V2, hV, dV, ⟨vs, h2, pr⟩, _⟩ := l2.open_ W B1 s p
  have wa : W a = some (.lst vs) := by rw [hV, h2]; exact uni_l sing_at
  have wP : W P = some (.tbl ps) := by rw [hW, h1]; exact uni_l sing_at
  have ne : a ≠ P := fun z => by
    rw [z, wP] at wa
    cases wa
  have w2a : W2 a = some (.lst vs) := by
    rw [hW, h1, uni_r (sing_ne ne)] at wa
    exact wa
  have d2 : Dj W2 B1 := fun x h => d x (by rw [hW]; exact uni_dom_r dW h)
  have w2H : Ex W2 H1 := fun x o h => w x o (by rw [hW, uni_r (dW.symm x (nn h))]; exact h)
  have exV : Ex B1 (uni W2 B1) := ex_uni_r d2
  have dt : Dj W1 (uni W2 B1) := fun x h => by
    rw [uni_r (dW x h)]
    exact d x (by rw [hW]; exact uni_dom_l h)
  refine ⟨.ref a, hs, ?_⟩
  refine ⟨W1, uni W2 B1, (get s, ()), z, ex_uni w2H e, (fun x o h => w x o (by rw [hW]; exact uni_l h)), dt, ⟨ps, h1, ht⟩, ⟨_, _, rfl, ⟨a, vs, rfl, uni_l w2a, pr_mono exV pr⟩, rfl⟩, e2, fun v W1' B2 H2 sw p2 hv => ?_⟩
  obtain ⟨B3, hB3⟩ : ∃ B3 : Hp, B3 = fun x => match W2 x with | some _ => none | none => B2 x := ⟨_, rfl⟩
  have b3n : ∀ x, W2 x ≠ none → B3 x = none := fun x h => by
    obtain ⟨o, ho⟩ := nn_ex h
    rw [hB3]
    dsimp only
    rw [ho]
  have b3r : ∀ x, W2 x = none → B3 x = B2 x := fun x h => by
    rw [hB3]
    dsimp only
    rw [h]
  have b32 : Ex B3 B2 := fun x o h => by
    cases q : W2 x with
    | some o' =>
      rw [b3n x (nn q)] at h
      cases h
    | none =>
      rw [b3r x q] at h
      exact h
  have bb3 : Ex B1 B3 := fun x o h => by
    have n2 : W2 x = none := by
      cases q : W2 x with
      | none => rfl
      | some o' =>
        rw [d2 x (nn q)] at h
        cases h
    rw [b3r x n2]
    exact sw.g.b x o (exV x o h)
  have w22 : ∀ x o, W2 x = some o → B2 x = some o := fun x o h => sw.g.b x o (uni_l h)
  have dj : Dj W1' W2 := fun x h => by
    cases q : W2 x with
    | none => rfl
    | some o =>
      have := sw.d x h
      rw [w22 x o q] at this
      cases this
  have fin : Sw W B1 H1 (uni W1' W2) B3 H2 := by
    refine ⟨⟨e, bb3, fun x o m h => sw.g.h x o (fun z => m (by rw [hW]; exact uni_dom_l z)) h, fun x o h => sw.g.e x o (b32 x o h), fun x h n => ?_, sw.g.k⟩, ex_uni sw.w fun x o h => sw.g.e x o (w22 x o h), fun x h => ?_, fun x h => ?_⟩
    · cases q : W2 x with
      | some o => exact b3n x (nn q)
      | none =>
        rw [b3r x q]
        exact sw.g.n x h (by rw [uni_r q]; exact n)
    · rcases uni_dom h with z | z
      · cases q : B3 x with
        | none => rfl
        | some o =>
          have := sw.d x z
          rw [b32 x o q] at this
          cases this
      · exact b3n x z
    · rcases uni_dom h with z | z
      · rcases sw.f x z with y | y
        · exact .inl (by rw [hW]; exact uni_dom_l y)
        · exact .inr y
      · exact .inl (by rw [hW]; exact uni_dom_r dW z)
  have pb := back W1' B3 () bb3 dj p2
  rw [hu] at pb
  refine q v B3 H2 _ fin pb (Flat.flat (fun x o h hp => ?_) hv)
  cases q2 : W2 x with
  | none =>
    rw [b3r x q2]
    exact h
  | some o' =>
    have e1 := w22 x o' q2
    rw [h] at e1
    cases e1
    have := OwOk.nt p (show W x = some o by rw [hW, uni_r (dW.symm x (nn q2))]; exact q2)
    rw [this] at hp
    cases hp
end Cf

set_option Elab.async false
set_option linter.all false
set_option maxRecDepth 100000
set_option maxHeartbeats 4000000
namespace Cf
open PySem L2
open Rp (rp)
open RpL (rpl)
open Enc (enc)
/-! ### text * int, list * int, list.index -/
def RMulS : R2 := fun x y H Q => ∃ a n, x = .str a ∧ y = .int n ∧ MulOk a n ∧ Q (.str (Txt.mul a n)) H
theorem op_mulSI {X : Cx} : OpR X (binaryOp .Mult) RMulS := by
  intro pins s σ H x y u v Q I rx ry h
  obtain ⟨a, n, rfl, rfl, hm, q⟩ := h
  obtain ⟨t, rfl⟩ := rx
  obtain ⟨t', rfl⟩ := ry
  exact SB.mul hm fun t2 k => ⟨.str (Txt.mul a n), H, I.tok _, ⟨_, rfl⟩, q⟩
def pmulS (a : Str) (n : Int) : Option Str := if a.length ≤ 1000 ∧ 0 ≤ n ∧ n.toNat ≤ 10000 then some (Txt.mul a n) else none
theorem idx_le : ∀ (xs : List Str) (m : Nat) (h : m < xs.length), xs.idxOf xs[m] ≤ m
  | [], _, h => absurd h (Nat.not_lt_zero _)
  | x :: xs, 0, _ => by
    rw [List.getElem_cons_zero, List.idxOf_cons_self]
    exact Nat.le_refl _
  | x :: xs, m + 1, h => by
    rw [List.getElem_cons_succ, List.idxOf_cons]
    cases (x == xs[m]'(Nat.lt_of_succ_lt_succ h)) with
    | true => exact Nat.zero_le _
    | false => exact Nat.succ_le_succ (idx_le xs m (Nat.lt_of_succ_lt_succ h))
section
variable {K : Fg} {M : Ms} {Bs Hs W : Hp} {σ : L2.St} {B H B' H' : Hp} {te ta tb tc : TE} {tt tu : TT} {tas : TA} {α β γ δ τ τ' ρ S S' S1 S2 Z R : Type} {P : Ow S} {P' : Ow S'} {s : S} {D : Ends} {t u ts : TS} {g : TG}
theorem r2_mulS : R2p K RMulS pmulS := fun B H x y z vx vy e hx hy ez Q q => by
  cases (show vx = .str x from hx)
  cases (show vy = .int y from hy)
  obtain ⟨⟨h1, h2, h3⟩, ez⟩ := if_some ez
  cases ez
  refine ⟨x, y, rfl, rfl, PyProof.Rows.mulOk_of 1000 10000 h1 (by omega) (by omega) (by decide) (by decide), q _ B H (Gr.refl e) rfl⟩
def prep {α : Type} (xs : List α) (n : Int) : Option (List α) := if n.natAbs ≤ 1000000 ∧ xs.length * n.toNat ≤ 1000000 then some (List.replicate n.toNat xs).flatten else none
theorem pr_rep {α : Type} [Rp α] {vs : List V} {xs : List α} (p : Paired (rp K B) vs xs) : ∀ n : Nat, Paired (rp K B) (List.replicate n vs).flatten (List.replicate n xs).flatten
  | 0 => .nil
  | n + 1 => by
    rw [List.replicate_succ, List.replicate_succ, List.flatten_cons, List.flatten_cons]
    exact pr_app p (pr_rep p n)
theorem co_rep [Rp α] {m1 : Option (List α)} {m2 : Option Int} (h1 : Cp K ta σ B m1) (h2 : Cp K tb σ B m2) : Co K (tOp rRep ta tb) σ B (o2 m1 m2 prep) := fun B1 H1 b e zs em Q q => by
  obtain ⟨xs, n, e1, e2, em⟩ := o2_some em
  obtain ⟨⟨hn, hl⟩, em⟩ := if_some em
  subst em
  refine h1 B1 H1 b e xs e1 _ fun v B2 H2 g2 hv => ?_
  refine h2 B2 H2 (b.trans g2.b) g2.e n e2 _ fun u B3 H3 g3 hu => ?_
  obtain ⟨a, vs, rfl, ha, pa⟩ := hv
  cases (show u = .int n from hu)
  have l1 := pr_len pa
  refine ⟨a, n, vs, rfl, rfl, g3.e _ _ (g3.b _ _ ha), by omega, by omega, Nat.le_trans (show vs.length * n.toNat ≤ 1000000 by rw [l1]; exact hl) (by decide), fun p np => ?_⟩
  have G := g2.trans g3
  exact q p _ B3 _ (G.trans (Gr.newM g3.e np)) (G.fresh np) (g3.e.none np) upd_same (pr_rep (pr_mono g3.b pa) _)
def pindex (xs : List Str) (x : Str) : Option Int := if x ∈ xs then some ((xs.idxOf x : Nat) : Int) else none
theorem cp_index {m1 : Option (List Str)} {m2 : Option Str} (h1 : Cp K ta σ B m1) (h2 : Cp K tb σ B m2) : Cp K (tBM K "list" (rIndex K) ta (tCons tb tNil)) σ B (o2 m1 m2 pindex) := fun B1 H1 b e z em Q q => by
  obtain ⟨xs, x, e1, e2, em⟩ := o2_some em
  obtain ⟨hx, em⟩ := if_some em
  subst em
  refine h1 B1 H1 b e xs e1 _ fun v B2 H2 g2 hv => ?_
  obtain ⟨a, vs, rfl, ha, pa⟩ := hv
  refine ⟨.inl ⟨rfl, vs, .inl (.inl (g2.e _ _ ha))⟩, ?_⟩
  refine h2 B2 H2 (b.trans g2.b) g2.e x e2 _ fun u B3 H3 g3 hu => ?_
  cases (show u = .str x from hu)
  have hvs := pr_strs pa
  subst hvs
  have hlt : xs.idxOf x < xs.length := List.idxOf_lt_length_of_mem hx
  refine ⟨a, xs.map V.str, .str x, xs.idxOf x, .str x, rfl, rfl, sq_lst (g3.e _ _ (g3.b _ _ ha)), rfl, ?_, ?_, ?_, fun m z' hm hz => ?_, q _ B3 H3 (g2.trans g3) rfl⟩
  · rw [List.all_eq_true]
    intro v hv
    obtain ⟨y, _, rfl⟩ := List.mem_map.mp hv
    rfl
  · rw [List.getElem?_map, List.getElem?_eq_getElem hlt, List.getElem_idxOf hlt]
    rfl
  · show (x == x) = true
    rw [beq_self_eq_true]
  · rw [List.getElem?_map] at hz
    have hml : m < xs.length := Nat.lt_trans hm hlt
    rw [List.getElem?_eq_getElem hml] at hz
    cases hz
    show (xs[m] == x) = false
    rw [beq_eq_false_iff_ne]
    intro hq
    have hle : xs.idxOf x ≤ m := by
      rw [← hq]
      exact idx_le xs m hml
    omega
end
theorem mt_joinK {X : Cx} {K : Fg} (hK : X.K = K) : MtR X "str.join" (fun x xs H Q => ∃ a p, ∃ ys : List Str, x = .str a ∧ xs = [.ref p] ∧ (SqL K H p (ys.map V.str) ∨ SqT K H p (ys.map V.str)) ∧ (ys.map (·.length)).sum + ys.length * a.length ≤ 16777216 ∧ Q (.str (Txt.join a ys)) H) := by
  subst hK
  exact mt_join
/-! ### records: a dict display with texts as keys -/
structure Rcd (nm : List Str) (τ : Type) where
  v : τ
theorem Gr.set {M : Ms} {B H B1 H1 : Hp} {p : Addr} {o : HO} (x : Gr M B H B1 H1) (f : H p = none) (n : B1 p = none) : Gr M B H (upd B1 p o) (upd H1 p o) :=
  ⟨x.s, x.b.trans (Ex.new n), fun a u m h => by
    rw [upd_ne (ne_of_none h f)]
    exact x.h a u m h, x.e.two, fun a h q => by
    rw [upd_ne (ne_free f h)]
    exact x.n a h q, fun a h => by
    rw [upd_ne (ne_free f h)]
    exact x.k a h⟩
def kvz (nm : List Str) (vs : List V) : List (L2.Key × V) := (nm.map Sum.inr).zip vs
instance {nm : List Str} {τ : Type} [RpL τ] : Rp (Rcd nm τ) := ⟨fun K B v x => ∃ a vs, v = .ref a ∧ B a = some (.dK (kvz nm vs)) ∧ vs.length = nm.length ∧ rpl K B vs x.v, fun e ⟨a, vs, h, o, n, r⟩ => ⟨a, vs, h, e _ _ o, n, RpL.mono e r⟩⟩
theorem inr_dec (a b : Str) : decide ((Sum.inr a : L2.Key) = .inr b) = decide (a = b) := decide_eq_decide.mpr ⟨fun h => Sum.inr.inj h, fun h => by rw [h]⟩
theorem kvz_get (f : Str) : ∀ (nm : List Str) (vs : List V), valV (kvz nm vs) (.inr f) = (nm.zip vs).lookup f
  | [], _ => rfl
  | _ :: _, [] => rfl
  | g :: nm, v :: vs => by
    by_cases h : g = f
    · subst h
      exact (valV_pos (p := ((Sum.inr g : L2.Key), v)) rfl).trans look_here.symm
    · have h1 : (f == g) = false := beq_eq_false_iff_ne.mpr fun z => h z.symm
      exact (valV_neg (p := ((Sum.inr g : L2.Key), v)) (fun z => h (Sum.inr.inj z))).trans ((kvz_get f nm vs).trans (look_there h1).symm)
theorem kvz_new {f : Str} : ∀ (nm : List Str) (vs : List V), f ∉ nm → valV (kvz nm vs) (.inr f) = none := fun nm vs h => (kvz_get f nm vs).trans (zip_none vs h)
theorem kvz_merge : ∀ (nm : List Str) (vs : List V) (acc : List (L2.Key × V)), nm.Nodup → (∀ f ∈ nm, valV acc (.inr f) = none) → vs.length = nm.length → mergeK acc (kvz nm vs) = acc ++ kvz nm vs
  | [], _, acc, _, _, _ => (List.append_nil acc).symm
  | g :: nm, [], acc, _, _, h => by cases h
  | g :: nm, v :: vs, acc, hn, ha, hl => by
    obtain ⟨h1, h2⟩ := List.nodup_cons.mp hn
    show mergeK (putK acc (.inr g) v) (kvz nm vs) = _
    rw [putK_new v (ha g List.mem_cons_self), kvz_merge nm vs _ h2 (fun f hf => ?_) (Nat.succ.inj hl)]
    · rw [List.append_assoc]
      rfl
    · rw [valV_snoc _ _ _ _ (ha g List.mem_cons_self), if_neg (fun z => h1 (by rw [← Sum.inr.inj z]; exact hf))]
      exact ha f (List.mem_cons_of_mem _ hf)
section
variable {K : Fg} {M : Ms} {Bs Hs W : Hp} {σ : L2.St} {B H B' H' : Hp} {te ta tb tc : TE} {tt tu : TT} {tas : TA} {α β γ δ τ τ' ρ S S' S1 S2 Z R : Type} {P : Ow S} {P' : Ow S'} {s : S} {D : Ends} {t u ts : TS} {g : TG} {trs : List (TE × TE)}
theorem cp_rget [RpL τ] [Rp γ] {f : Str} {nm : List Str} {gf : τ → γ} {pf : τ → γ → τ} (fd : Fd nm f gf pf) {m : Option (Rcd nm τ)} (h : Cp K ta σ B m) : Cp K (tDGet ta (tC (.str f))) σ B (m.bind fun x => some (gf x.v)) := fun B1 H1 b e z em Q q => by
  obtain ⟨x, e1, em⟩ := bd_some em
  cases em
  refine h B1 H1 b e x e1 _ fun v B2 H2 g2 hv => ?_
  obtain ⟨a, vs, rfl, o, hn, r⟩ := hv
  obtain ⟨u, e3, e4⟩ := fd.g r
  exact ⟨a, u, rfl, .inl ⟨_, .inr f, .inl (g2.e _ _ o), rfl, (e3.symm.trans (kvz_get f nm vs).symm)⟩, q u B2 H2 g2 e4⟩
def Cpd [RpL τ] (K : Fg) (trs : List (TE × TE)) (nm : List Str) (σ : L2.St) (B : Hp) (m : Option τ) : Prop :=
  ∀ B1 H1, Ex B B1 → Ex B1 H1 → ∀ t, m = some t → ∀ Q : List (V × V) → Hp → Prop, (∀ vs B2 H2, Gr noM B1 H1 B2 H2 → vs.length = nm.length → rpl K B2 vs t → Q ((kvz nm vs).map fun kv => (kV kv.1, kv.2)) H2) → tPairs trs σ H1 Q
theorem cpd_nil : Cpd K [] [] σ B (some ()) := fun B1 H1 b e t em Q q => q [] B1 H1 (Gr.refl e) rfl rfl
theorem cpd_cons [Rp α] [RpL τ] {k : Str} {nm : List Str} {m1 : Option α} {m2 : Option τ} (h : Cp K ta σ B m1) (r : Cpd K trs nm σ B m2) : Cpd K ((tC (.str k), ta) :: trs) (k :: nm) σ B (o2 m1 m2 fun x y => some (x, y)) := fun B1 H1 b e t em Q q => by
  obtain ⟨x, y, e1, e2, em⟩ := o2_some em
  cases em
  show ta σ H1 fun y H2 => tPairs trs σ H2 _
  refine h B1 H1 b e x e1 _ fun v B2 H2 g2 hv => ?_
  refine r B2 H2 (b.trans g2.b) g2.e y e2 _ fun vs B3 H3 g3 hl hr => ?_
  exact q (v :: vs) B3 H3 (g2.trans g3) (congrArg Nat.succ hl) ⟨v, vs, rfl, Rp.mono g3.b hv, hr⟩
theorem cp_rec [RpL τ] {nm : List Str} {m : Option τ} (hn : nm.Nodup) (h15 : nm.length ≤ 15) (h : Cpd K trs nm σ B m) : Cp K (tDisp trs) σ B (m.bind fun t => some (Rcd.mk (nm := nm) t)) := fun B1 H1 b e z em Q q => by
  obtain ⟨t, e1, em⟩ := bd_some em
  cases em
  intro p np
  have g1 : Gr noM B1 H1 B1 (upd H1 p (.dK [])) := Gr.newM e np
  refine h B1 _ b g1.e t e1 _ fun vs B2 H2 g2 hl hr => ?_
  have nb : B2 p = none := g2.n p (nn upd_same) (e.none np)
  have hp : H2 p = some (.dK []) := g2.exH _ _ upd_same
  refine ⟨hp, kvz nm vs, rfl, by unfold kvz; rw [List.length_zip, List.length_map, hl, Nat.min_self]; exact h15, ?_⟩
  rw [kvz_merge nm vs [] hn (fun _ _ => rfl) hl]
  exact q _ _ _ ((g1.trans g2).set np nb) ⟨p, vs, rfl, upd_same, hl, RpL.mono (Ex.new nb) hr⟩
end
/-! ### repr of a number, a truth value, None -/
def RepV : V → Str → Prop
  | .non, y => y = "None"
  | .bl b, y => y = (if b then ("True" : Str) else ("False" : Str))
  | .int i, y => i.natAbs.log2 < 1920 ∧ y = Str.ofString (toString i)
  | _, _ => False
def RRep : List V → Hp → VK → Prop := fun xs H Q => ∃ x y, xs = [x] ∧ RepV x y ∧ Q (.str y) H
theorem call_rep_ {X : Cx} : CallR X (.builtin "repr") RRep := by
  intro pins s σ H xs us Q I r h
  obtain ⟨x, y, rfl, hr, q⟩ := h
  cases x with
  | non =>
    obtain ⟨u, rfl, rfl⟩ := vals1 r
    cases (show y = "None" from hr)
    exact P.repr_of_none ⟨.str _, H, I.tok _, ⟨_, rfl⟩, q⟩
  | bl b =>
    obtain ⟨u, rfl, rfl⟩ := vals1 r
    cases (show y = (if b then ("True" : Str) else ("False" : Str)) from hr)
    exact P.repr_of_bool ⟨.str _, H, I.tok _, ⟨_, rfl⟩, (by cases b <;> exact q)⟩
  | int i =>
    obtain ⟨hz, rfl⟩ := (show i.natAbs.log2 < 1920 ∧ y = Str.ofString (toString i) from hr)
    obtain ⟨u, rfl, t, rfl⟩ := vals1 r
    exact P.repr_of_int hz ⟨.str _, H, I.tok _, ⟨_, rfl⟩, q⟩
  | _ => exact (show False from hr).elim
section
variable {K : Fg}
def preprB (b : Bool) : Option Str := some (if b then ("True" : Str) else ("False" : Str))
theorem rc_repIv : Rcp K RRep (fun t : Int × Unit => preprI t.1) := fun B H t z vs e h ez Q q => by
  obtain ⟨v, us, rfl, h1, h2⟩ := h
  cases (show us = [] from h2)
  cases (show v = .int _ from h1)
  obtain ⟨hc, ez⟩ := if_some ez
  cases ez
  exact ⟨_, _, rfl, ⟨hc, rfl⟩, q _ B H (Gr.refl e) rfl⟩
theorem rc_repB : Rcp K RRep (fun t : Bool × Unit => preprB t.1) := fun B H t z vs e h ez Q q => by
  obtain ⟨v, us, rfl, h1, h2⟩ := h
  cases (show us = [] from h2)
  cases (show v = .bl _ from h1)
  cases ez
  exact ⟨_, _, rfl, rfl, q _ B H (Gr.refl e) rfl⟩
def preprOI : Option Int → Option Str
  | none => some "None"
  | some i => preprI i
theorem rc_repOI : Rcp K RRep (fun t : Option Int × Unit => preprOI t.1) := fun B H t z vs e h ez Q q => by
  obtain ⟨v, us, rfl, h1, h2⟩ := h
  cases (show us = [] from h2)
  obtain ⟨x, ⟨⟩⟩ := t
  cases x with
  | none =>
    cases (show v = .non from h1)
    cases ez
    exact ⟨_, _, rfl, rfl, q _ B H (Gr.refl e) rfl⟩
  | some i =>
    cases (show v = .int i from h1)
    obtain ⟨hc, ez⟩ := if_some ez
    cases ez
    exact ⟨_, _, rfl, ⟨hc, rfl⟩, q _ B H (Gr.refl e) rfl⟩
end
end Cf

set_option Elab.async false
set_option linter.all false
set_option maxRecDepth 100000
set_option maxHeartbeats 4000000
namespace Cf
open PySem L2
open Rp (rp)
open RpL (rpl)
open Enc (enc)
/-! ### values of one's own that a def hands back -/
/-- the promise of a def whose answer is new and one's own -/
def spR {τ γ : Type} [RpL τ] (K : Fg) (R : V → Ow γ) (f : τ → Option γ) : Sp := fun vs H Q _ => ∃ B t r, Ex B H ∧ rpl K B vs t ∧ f t = some r ∧ ∀ v W' B' H', Sw emp B H W' B' H' → R v W' B' r → Q v H'
/-- .. of a def with a table -/
def spTR {τ γ : Type} [RpL τ] (K : Fg) (T : Addr) (R : V → Ow γ) (f : τ → Option γ) : Sp := fun vs H Q _ => ∃ W B t r, Ex B H ∧ Ex W H ∧ Dj W B ∧ OwTab T W B () ∧ rpl K B vs t ∧ f t = some r ∧ ∀ v W' V' B' H', Sw W B H (uni W' V') B' H' → Dj W' V' → OwTab T W' B' () → R v V' B' r → Q v H'
/-- what stands at a place -/
def RefR {S : Type} (Pb : Addr → Ow S) : V → Ow S := fun v W B s => ∃ p, v = .ref p ∧ Pb p W B s
section
variable {K : Fg} {M : Ms} {Bs Hs W : Hp} {σ : L2.St} {B H B' H' : Hp} {te ta tb tc : TE} {tt tu : TT} {tas : TA} {α β γ δ τ τ' ρ S S' S1 S2 Z : Type} {P : Ow S} {P' : Ow S'} {s : S} {D : Ends} {t u ts : TS} {g : TG}
/-- what is new stands beside what there was -/
theorem Now.beside {W2 B1 H1 : Hp} {R : Ow γ} {x : γ} [OwOk P] (N : Now M Bs Hs P W B H s) (sw : Sw emp B H W2 B1 H1) (p : R W2 B1 x) : Now M Bs Hs (star P R) (uni W W2) B1 H1 (s, x) := by
  have new : ∀ a, W2 a ≠ none → H a = none := fun a h => by
    rcases sw.f a h with z | z
    · exact absurd rfl z
    · exact z
  have wH : Ex W H1 := fun a o h => sw.g.h a o (fun z => z rfl) (N.w a o h)
  have dj : Dj W W2 := fun a h => by
    cases q : W2 a with
    | none => rfl
    | some o =>
      have := new a (nn q)
      exact absurd this (N.w.nn h)
  refine ⟨⟨N.g.s, N.g.b.trans sw.g.b, fun a o m h => sw.g.h a o (fun z => z rfl) (N.g.h a o m h), sw.g.e, fun a h n => sw.g.n a (N.g.k a h) (N.g.n a h n), fun a h => sw.g.k a (N.g.k a h)⟩, ex_uni wH sw.w, fun a h => ?_, ⟨W, W2, rfl, dj, OwOk.mono sw.g.b N.p, p⟩, fun a h => ?_⟩
  · rcases uni_dom h with z | z
    · exact sw.g.n a (N.w.nn z) (N.d a z)
    · exact sw.d a z
  · rcases uni_dom h with z | z
    · exact N.f a z
    · exact .inr (N.g.fresh (new a z))
/-- x = f(..), where the answer is one's own -/
theorem st_callR [OwOk P] [RpL τ] {R : V → Ow γ} {f : τ → Option γ} {m : S → Option (τ × S)} {m' : Option (γ × S)} {k : γ × S → Option ρ} {r : ρ} {i : Nat} {E : XK} (hm : m'.bind k = some r) (N : Now M Bs Hs P W B H s) (ha : Csa K P tas σ B m) (he : ((m s).bind fun p => (f p.1).bind fun z => some (z, p.2)) = m')
    (q : ∀ x s1 v W1 B1 H1, k (x, s1) = some r → Now M Bs Hs (star P (R v)) W1 B1 H1 (s1, x) → Ex B B1 → D.nx (σ.set i (some v)) H1) : tAsg (tCall (spR K R f) [] E tas) (gName i) D σ H := by
  subst he
  obtain ⟨⟨z0, s0⟩, e0, e2⟩ := bd_some hm
  obtain ⟨⟨x, s1⟩, e1, e0⟩ := bd_some e0
  obtain ⟨z, e3, e0⟩ := bd_some e0
  obtain ⟨rfl, rfl⟩ : z = z0 ∧ s1 = s0 := by
    cases e0
    exact ⟨rfl, rfl⟩
  refine ha B H W s (Ex.refl B) N.ex N.w N.d N.p x s1 e1 _ fun vs B2 H2 W2 sw p2 hv => ?_
  have N1 := N.step sw p2
  refine ⟨B2, x, z, sw.g.e, (by rw [List.append_nil]; exact hv), e3, fun v W' B' H' sw2 hr => ?_⟩
  exact q z s1 v _ B' H' e2 (N1.beside sw2 hr) (sw.g.b.trans sw2.g.b)
/-- .. of a def with a table -/
theorem st_callTR [OwOk P] [RpL τ] {T : Addr} {get : S → Unit} {put : S → Unit → S} {R : V → Ow γ} {f : τ → Option γ} {m : S → Option (τ × S)} {m' : Option (γ × S)} {k : γ × S → Option ρ} {r : ρ} {i : Nat} {E : XK} (l : Ln P (OwTab T) get put) (hu : ∀ s x, put s x = s)
    (hm : m'.bind k = some r) (N : Now M Bs Hs P W B H s) (ha : Csa K P tas σ B m) (he : ((m s).bind fun p => (f p.1).bind fun z => some (z, p.2)) = m')
    (q : ∀ x s1 v W1 B1 H1, k (x, s1) = some r → Now M Bs Hs (star P (R v)) W1 B1 H1 (s1, x) → Ex B B1 → D.nx (σ.set i (some v)) H1) : tAsg (tCall (spTR K T R f) [] E tas) (gName i) D σ H := by
  subst he
  obtain ⟨⟨z0, s0⟩, e0, e2⟩ := bd_some hm
  obtain ⟨⟨x, s1⟩, e1, e0⟩ := bd_some e0
  obtain ⟨z, e3, e0⟩ := bd_some e0
  obtain ⟨rfl, rfl⟩ : z = z0 ∧ s1 = s0 := by
    cases e0
    exact ⟨rfl, rfl⟩
  refine ha B H W s (Ex.refl B) N.ex N.w N.d N.p x s1 e1 _ fun vs B2 H2 W2 sw p2 hv => ?_
  have N1 := N.step sw p2
  obtain ⟨V1, V2, hV, dV, pV, back⟩ := l.open_ W2 B2 s1 p2
  subst hV
  have w1 : Ex V1 H2 := fun a o h => sw.w a o (uni_l h)
  have w2 : Ex V2 H2 := fun a o h => sw.w a o (by rw [uni_r (dV.symm a (nn h))]; exact h)
  refine ⟨V1, B2, x, z, sw.g.e, w1, dj_l sw.d, pV, (by rw [List.append_nil]; exact hv), e3, fun v V1' Vr B3 H3 sw3 dr p3 hr => ?_⟩
  obtain ⟨sw4, dj⟩ := sw3.beside w2 dV (dj_r dV sw.d)
  have dj1 : Dj V1' V2 := fun a h => dj a (uni_dom_l h)
  have djr : Dj Vr V2 := fun a h => dj a (uni_dom_r dr h)
  have pb2 := back V1' B3 () sw3.g.b dj1 p3
  rw [hu] at pb2
  have e5 : uni (uni V1' Vr) V2 = uni (uni V1' V2) Vr := by
    rw [uni_assoc, uni_comm djr, ← uni_assoc]
  rw [e5] at sw4
  have d5 : Dj (uni V1' V2) Vr := dj_uni dr djr.symm
  exact q z s1 v _ B3 H3 e2 (N1.step sw4 ⟨_, _, rfl, d5, pb2, hr⟩) (sw.g.b.trans sw3.g.b)
theorem Now.ref {Pb : Addr → Ow S'} {v : V} {x : S × S'} (N : Now M Bs Hs (star P (RefR Pb v)) W B H x) : ∃ p, v = .ref p ∧ Now M Bs Hs (star P (Pb p)) W B H x := by
  obtain ⟨W1, W2, h, d, p1, p, hv, p2⟩ := N.p
  exact ⟨p, hv, N.g, N.w, N.d, ⟨W1, W2, h, d, p1, p2⟩, N.f⟩
end
/-- the promise of a def that changes the object handed in second -/
def spM1 {S α τ γ : Type} [Rp α] [RpL τ] [Rp γ] (K : Fg) (Pb : Addr → Ow S) (f : S → α × τ → Option (γ × S)) : Sp := fun vs H Q _ => ∃ a u us W B s t r s', vs = u :: .ref a :: us ∧ Ex B H ∧ Ex W H ∧ Dj W B ∧ Pb a W B s ∧ rp K B u t.1 ∧ rpl K B us t.2 ∧ f s t = some (r, s') ∧
  ∀ v W' B' H', Sw W B H W' B' H' → Pb a W' B' s' → rp K B' v r → Q v H'
section
variable {K : Fg} {σ : L2.St} {B H B' H' : Hp} {te ta tb tc : TE} {tas : TA} {α β γ τ S S' : Type} {P' : Ow S'}
theorem cs_callM1 [Rp α] [RpL τ] [Rp γ] {Pb : Addr → Ow S} {a : Addr} {get : S' → S} {put : S' → S → S'} {f : S → α × τ → Option (γ × S)} {i : Nat} {m1 : S' → Option (α × S')} {m : S' → Option (τ × S')} {E : XK} (l : Ln P' (Pb a) get put) (hs : σ[i]? = some (some (.ref a))) (h1 : Cs K P' te σ B m1) (ha : Csa K P' tas σ B m) :
    Cs K P' (tCall (spM1 K Pb f) [] E (tCons te (tCons (tVar i) tas))) σ B (fun s => (m1 s).bind fun p => (m p.2).bind fun q => (f (get q.2) (p.1, q.1)).bind fun r => some (r.1, put q.2 r.2)) := fun B1 H1 W s b e w d p z s' em Q q => by
  obtain ⟨⟨x0, s0⟩, e0, em⟩ := bd_some em
  obtain ⟨⟨x, s1⟩, e1, em⟩ := bd_some em
  obtain ⟨⟨y, s2⟩, e2, em⟩ := bd_some em
  cases em
  refine h1 B1 H1 W s b e w d p x0 s0 e0 _ fun v0 B2 H2 W2 sw p2 hv0 => ?_
  refine ⟨.ref a, hs, ?_⟩
  refine ha B2 H2 W2 s0 (b.trans sw.g.b) sw.g.e sw.w sw.d p2 x s1 e1 _ fun vs B3 H3 W3 sw3 p3 hv => ?_
  obtain ⟨V1, V2, hV, dV, q1, back⟩ := l.open_ W3 B3 s1 p3
  subst hV
  refine ⟨a, v0, vs, V1, B3, get s1, (x0, x), _, s2, (by rw [List.append_nil]), sw3.g.e, fun c o h => sw3.w c o (uni_l h), dj_l sw3.d, q1, Rp.mono sw3.g.b hv0, hv, e2, fun v W' B4 H4 y p4 hr => ?_⟩
  have w2 : Ex V2 H3 := fun c o h => sw3.w c o (by rw [uni_r (dV.symm c (nn h))]; exact h)
  obtain ⟨y2, dj⟩ := y.beside w2 dV (dj_r dV sw3.d)
  exact q v B4 H4 (uni W' V2) ((sw.trans sw3).trans y2) (back W' B4 s2 y.g.b dj p4) hr
end
/-! ### a slice whose bounds have effects; parts of one's own in another order -/
section
variable {K : Fg} {M : Ms} {Bs Hs W : Hp} {σ : L2.St} {B H B' H' : Hp} {te ta tb tc : TE} {to tl th : TO} {α β γ δ τ τ' ρ S S' S1 S2 S3 Z : Type} {P : Ow S} {P' : Ow S'} {s : S}
def Cspo (P : Ow S) (to : TO) (σ : L2.St) (B : Hp) (m : S → Option (Option Int × S)) : Prop :=
  ∀ B1 H1 W s, Ex B B1 → Ex B1 H1 → Ex W H1 → Dj W B1 → P W B1 s → ∀ x s', m s = some (x, s') → ∀ Q : Option Int → Hp → Prop, (∀ B2 H2 W2, Sw W B1 H1 W2 B2 H2 → P W2 B2 s' → Q x H2) → to σ H1 Q
theorem cspo_none : Cspo P tNoPart σ B (fun s => some (none, s)) := fun B1 H1 W s b e w d p x s' em Q q => by
  cases em
  exact q B1 H1 W (Sw.refl e w d) p
theorem cspo_some {m : S → Option (Int × S)} (h : Cs K P te σ B m) : Cspo P (tPart te) σ B (fun s => (m s).bind fun p => some (some p.1, p.2)) := fun B1 H1 W s b e w d p x s' em Q q => by
  obtain ⟨⟨y, s1⟩, e1, em⟩ := bd_some em
  cases em
  exact h B1 H1 W s b e w d p y _ e1 _ fun v B2 H2 W2 sw p2 hv => ⟨y, hv, q B2 H2 W2 sw p2⟩
theorem cso_slice [Rp α] [OwOk P] {m : S → Option (List α × S)} {m1 m2 : S → Option (Option Int × S)} (h : Cs K P te σ B m) (h1 : Cspo P tl σ B m1) (h2 : Cspo P th σ B m2) :
    Cso K P (tSl (rSlL K) te tl th) σ B (fun s => (m s).bind fun p => (m1 p.2).bind fun l => (m2 l.2).bind fun u => some (cut p.1 l.1 u.1, u.2)) := fun B1 H1 W s b e w d p ys s' em Q q => by
  obtain ⟨⟨xs, s1⟩, e1, em⟩ := bd_some em
  obtain ⟨⟨lo, s2⟩, e2, em⟩ := bd_some em
  obtain ⟨⟨hi, s3⟩, e3, em⟩ := bd_some em
  cases em
  refine h B1 H1 W s b e w d p xs s1 e1 _ fun v B2 H2 W2 sw p2 hv => ?_
  refine h1 B2 H2 W2 s1 (b.trans sw.g.b) sw.g.e sw.w sw.d p2 lo s2 e2 _ fun B3 H3 W3 sw3 p3 => ?_
  refine h2 B3 H3 W3 s2 (b.trans (sw.g.b.trans sw3.g.b)) sw3.g.e sw3.w sw3.d p3 hi _ e3 _ fun B4 H4 W4 sw4 p4 => ?_
  obtain ⟨a, vs, rfl, hs, hp⟩ := hv
  have eB := sw3.g.b.trans sw4.g.b
  refine ⟨a, vs, rfl, sq_lst (sw4.g.e _ _ (eB _ _ hs)), fun p np => ?_⟩
  have SW := (sw.trans sw3).trans sw4
  have g5 : Gr noM B4 H4 B4 (upd H4 p (.lst (cutV vs lo hi))) := Gr.newM sw4.g.e np
  have nW : W4 p = none := by
    cases hh : W4 p with
    | none => rfl
    | some o =>
      rw [sw4.w p o hh] at np
      cases np
  refine q p _ B4 _ W4 (SW.trans (Sw.pure g5 sw4.w sw4.d)) p4 (SW.g.fresh np) (sw4.g.e.none np) nW upd_same ?_
  unfold cutV cut
  dsimp only
  rw [pr_len hp]
  exact pr_mono eB (pr_take _ (pr_drop _ hp))
theorem Now.conv (N : Now M Bs Hs P W B H s) {s' : S'} (h : P W B s → P' W B s') : Now M Bs Hs P' W B H s' := ⟨N.g, N.w, N.d, h N.p, N.f⟩
theorem star_sw {A : Ow S1} {C : Ow S2} {E : Ow S3} {W B : Hp} {x : (S1 × S2) × S3} (p : star (star A C) E W B x) : star (star A E) C W B ((x.1.1, x.2), x.1.2) := by
  obtain ⟨W1, W2, h, d, ⟨V1, V2, h', d', pa, pc⟩, pe⟩ := p
  subst h'
  have d12 : Dj V2 W2 := dj_r d' d
  have d1 : Dj V1 W2 := dj_l d
  refine ⟨uni V1 W2, V2, ?_, ?_, ⟨V1, W2, rfl, d1, pa, pe⟩, pc⟩
  · rw [h, uni_assoc, uni_assoc, uni_comm d12]
  · exact dj_uni d' d12.symm
theorem star_cg {A : Ow S1} {A' : Ow S2} {C : Ow S3} {f : S1 → S2} {W B : Hp} {x : S1 × S3} (h : ∀ {W B : Hp} {y : S1}, A W B y → A' W B (f y)) (p : star A C W B x) : star A' C W B (f x.1, x.2) := by
  obtain ⟨W1, W2, e, d, pa, pc⟩ := p
  exact ⟨W1, W2, e, d, h pa, pc⟩
end
/-! ### the law's box that counts on -/
def OwBox2 (K : Fg) (b : Addr) : Ow (List Int × Int) := fun W B s => ∃ (u : V) (ds : List Int) (k : Nat), W = sing b (.lst [u, .int k]) ∧ rp K B u ds ∧ s = (ds.drop k, (k : Int))
instance {K : Fg} {p : Addr} : OwOk (OwBox2 K p) := ⟨fun e ⟨u, ds, k, h, r, z⟩ => ⟨u, ds, k, h, Rp.mono e r, z⟩, fun {W B s a o} ⟨u, ds, k, h, r, z⟩ e => by
  subst h
  have := sing_dom (nn e)
  subst this
  rw [sing_at] at e
  cases e
  rfl⟩
def draw2 : List Int × Int → Int × Unit → Option (Int × (List Int × Int))
  | ([], k), n => (pmul k 7).bind fun z => (pmod (z + 3) n.1).bind fun x => some (x, ([], k + 1))
  | (d :: r, k), n => (pmod d n.1).bind fun x => some (x, (r, k + 1))
section
variable {K : Fg} {M : Ms} {Bs Hs W : Hp} {σ : L2.St} {B H B' H' : Hp} {te ta tb tc : TE} {tt tu : TT} {tas : TA} {α β γ δ τ τ' ρ S S' S1 S2 Z : Type} {P : Ow S} {P' : Ow S'} {s : S} {D : Ends} {t u ts : TS} {g : TG}
/-- return [e, 0] -/
theorem st_retBox {m m' : Option (List Int)} {r : List Int × Int} (hm : (m'.bind fun ds => some (ds, (0 : Int))) = some r) (N : Now noM Bs Hs oE W B H ()) (hc : Cp K te σ B m) (he : m = m')
    (q : ∀ v W1 B1 H1, Sw emp Bs Hs W1 B1 H1 → RefR (OwBox2 K) v W1 B1 r → D.rt v H1) : tRet (tLst (tCons te (tCons (tC (.int 0)) tNil))) D σ H := by
  subst he
  obtain ⟨x, e1, e2⟩ := bd_some hm
  cases e2
  refine hc B H (Ex.refl B) N.ex x e1 _ fun v B1 H1 g hv => ⟨by show 2 ≤ sizeLine; decide, fun p np => ?_⟩
  have N1 := N.pure g
  have fp : Hs p = none := N1.g.fresh np
  obtain ⟨W1, N2⟩ := N1.make (Q := OwBox2 K p) (x := (x, (0 : Int))) (o := .lst [v, .int 0]) np ⟨v, x, 0, rfl, hv, rfl⟩
  obtain ⟨V1, V2, hV, dV, pV, pb⟩ := N2.p
  cases (show V1 = emp from pV)
  have e0 : uni emp V2 = V2 := by
    funext a
    exact uni_r rfl
  rw [e0] at hV
  subst hV
  exact q (.ref p) _ _ _ ⟨N2.g.mono (fun a h => h.elim), N2.w, N2.d, fun a h => by
    rcases N2.f a h with z | z
    · exact z.elim
    · exact .inr z⟩ ⟨p, rfl, pb⟩
end
end Cf

set_option Elab.async false
set_option linter.all false
set_option maxRecDepth 100000
set_option maxHeartbeats 4000000
namespace Cf
open PySem L2
open Rp (rp)
open RpL (rpl)
open Enc (enc)
/-! ### the law's box inside a tuple -/
/-- a place, as what is known -/
structure At where
  p : Addr
instance : Rp At := ⟨fun _ _ v x => v = .ref x.p, fun _ h => h⟩
instance : Flat At := ⟨fun _ h => h⟩
/-- (x, y, what stands at a place) -/
def RT3 {α β S : Type} [Rp α] [Rp β] (K : Fg) (Pb : Addr → Ow S) : V → Ow (T3 α β S) := fun v W B x => ∃ p, rp K B v (T3.mk x.a x.b (At.mk p)) ∧ Pb p W B x.c
section
variable {K : Fg} {M : Ms} {Bs Hs W : Hp} {σ : L2.St} {B H B' H' : Hp} {te ta tb tc : TE} {tas : TA} {α β γ δ τ τ' ρ S S' S1 S2 Z : Type} {P : Ow S} {P' : Ow S'} {s : S} {D : Ends}
theorem Now.t3 [Rp α] [Rp β] {Pb : Addr → Ow S'} {v : V} {x : S × T3 α β S'} (N : Now M Bs Hs (star P (RT3 K Pb v)) W B H x) : ∃ p, rp K B v (T3.mk x.2.a x.2.b (At.mk p)) ∧ Now M Bs Hs (star P (Pb p)) W B H (x.1, x.2.c) := by
  obtain ⟨W1, W2, h, d, p1, p, hv, p2⟩ := N.p
  exact ⟨p, hv, N.g, N.w, N.d, ⟨W1, W2, h, d, p1, p2⟩, N.f⟩
/-- f(e, ..), where e is the place of one's own -/
theorem cs_callMx [RpL τ] [Rp γ] {Pb : Addr → Ow S} {p : Addr} {get : S' → S} {put : S' → S → S'} {f : S → τ → Option (γ × S)} {m : S' → Option (τ × S')} {m0 : Option At} {E : XK} [OwOk P'] (l : Ln P' (Pb p) get put) (h0 : Cp K te σ B m0) (e0 : m0 = some (At.mk p)) (ha : Csa K P' tas σ B m) :
    Cs K P' (tCall (spM K Pb f) [] E (tCons te tas)) σ B (fun s => (m s).bind fun p => (f (get p.2) p.1).bind fun q => some (q.1, put p.2 q.2)) := fun B1 H1 W s b e w d pp z s' em Q q => by
  obtain ⟨⟨x, s1⟩, e1, em⟩ := bd_some em
  obtain ⟨⟨y, s2⟩, e2, em⟩ := bd_some em
  cases em
  refine h0 B1 H1 b e _ e0 _ fun v B0 H0 g0 hv => ?_
  cases (show v = .ref p from hv)
  have sw0 := Sw.pure g0 w d
  refine ha B0 H0 W s (b.trans g0.b) g0.e sw0.w sw0.d (OwOk.mono g0.b pp) x s1 e1 _ fun vs B2 H2 W2 sw p2 hv => ?_
  obtain ⟨V1, V2, hV, dV, q1, back⟩ := l.open_ W2 B2 s1 p2
  subst hV
  refine ⟨p, vs, V1, B2, get s1, x, _, s2, (by rw [List.append_nil]), sw.g.e, fun c o h => sw.w c o (uni_l h), dj_l sw.d, q1, hv, e2, fun v W' B3 H3 y p3 hr => ?_⟩
  have w2 : Ex V2 H2 := fun c o h => sw.w c o (by rw [uni_r (dV.symm c (nn h))]; exact h)
  obtain ⟨y2, dj⟩ := y.beside w2 dV (dj_r dV sw.d)
  exact q v B3 H3 (uni W' V2) ((sw0.trans sw).trans y2) (back W' B3 s2 y.g.b dj p3) hr
/-- f(e, p, ..), where p is the place of one's own -/
theorem cs_callM1x [Rp α] [RpL τ] [Rp γ] {Pb : Addr → Ow S} {p : Addr} {get : S' → S} {put : S' → S → S'} {f : S → α × τ → Option (γ × S)} {m1 : S' → Option (α × S')} {m : S' → Option (τ × S')} {m0 : Option At} {E : XK} [OwOk P'] (l : Ln P' (Pb p) get put) (h0 : Cp K tb σ B m0) (e0 : m0 = some (At.mk p)) (h1 : Cs K P' te σ B m1) (ha : Csa K P' tas σ B m) :
    Cs K P' (tCall (spM1 K Pb f) [] E (tCons te (tCons tb tas))) σ B (fun s => (m1 s).bind fun p => (m p.2).bind fun q => (f (get q.2) (p.1, q.1)).bind fun r => some (r.1, put q.2 r.2)) := fun B1 H1 W s b e w d pp z s' em Q q => by
  obtain ⟨⟨x0, s0⟩, e3, em⟩ := bd_some em
  obtain ⟨⟨x, s1⟩, e1, em⟩ := bd_some em
  obtain ⟨⟨y, s2⟩, e2, em⟩ := bd_some em
  cases em
  refine h1 B1 H1 W s b e w d pp x0 s0 e3 _ fun v0 B2 H2 W2 sw p2 hv0 => ?_
  refine h0 B2 H2 (b.trans sw.g.b) sw.g.e _ e0 _ fun v B0 H0 g0 hv => ?_
  cases (show v = .ref p from hv)
  have sw0 := Sw.pure g0 sw.w sw.d
  refine ha B0 H0 W2 s0 ((b.trans sw.g.b).trans g0.b) g0.e sw0.w sw0.d (OwOk.mono g0.b p2) x s1 e1 _ fun vs B3 H3 W3 sw3 p3 hv => ?_
  obtain ⟨V1, V2, hV, dV, q1, back⟩ := l.open_ W3 B3 s1 p3
  subst hV
  refine ⟨p, v0, vs, V1, B3, get s1, (x0, x), _, s2, (by rw [List.append_nil]), sw3.g.e, fun c o h => sw3.w c o (uni_l h), dj_l sw3.d, q1, Rp.mono (g0.b.trans sw3.g.b) hv0, hv, e2, fun v W' B4 H4 y p4 hr => ?_⟩
  have w2 : Ex V2 H3 := fun c o h => sw3.w c o (by rw [uni_r (dV.symm c (nn h))]; exact h)
  obtain ⟨y2, dj⟩ := y.beside w2 dV (dj_r dV sw3.d)
  exact q v B4 H4 (uni W' V2) (((sw.trans sw0).trans sw3).trans y2) (back W' B4 s2 y.g.b dj p4) hr
/-- return (x, y, box) -/
theorem st_retT3 [Rp α] [Rp β] {T p : Addr} {Pb : Addr → Ow S} [OwOk (Pb p)] {W0 : Hp} {m1 : Unit × S → Option (α × (Unit × S))} {m2 : Unit × S → Option (β × (Unit × S))} {s : Unit × S} {m' : Option (T3 α β S)} {r : T3 α β S} {i : Nat} (hm : m' = some r) (N : Now (dom W0) Bs Hs (star (OwTab T) (Pb p)) W B H s) (hs : σ[i]? = some (some (.ref p))) (h1 : Cs K (star (OwTab T) (Pb p)) te σ B m1) (h2 : Cs K (star (OwTab T) (Pb p)) tb σ B m2)
    (he : ((m1 s).bind fun a => (m2 a.2).bind fun b => some (T3.mk a.1 b.1 b.2.2)) = m')
    (q : ∀ v W1 V1 B1 H1, Sw W0 Bs Hs (uni W1 V1) B1 H1 → Dj W1 V1 → OwTab T W1 B1 () → RT3 K Pb v V1 B1 r → D.rt v H1) : tRet (tTup (tCons te (tCons tb (tCons (tVar i) tNil)))) D σ H := by
  subst he
  obtain ⟨⟨x, s1⟩, e1, hm⟩ := bd_some hm
  obtain ⟨⟨y, s2⟩, e2, hm⟩ := bd_some hm
  cases hm
  refine h1 B H W s (Ex.refl B) N.ex N.w N.d N.p x s1 e1 _ fun v1 B1 H1 W1 sw1 p1 hv1 => ?_
  refine h2 B1 H1 W1 s1 sw1.g.b sw1.g.e sw1.w sw1.d p1 y s2 e2 _ fun v2 B2 H2 W2 sw2 p2 hv2 => ?_
  refine ⟨.ref p, hs, by show 3 ≤ sizeLine; decide, fun a na => ?_⟩
  have N2 := (N.step sw1 p1).step sw2 p2
  have g3 : Gr noM B2 H2 (upd B2 a (.tup [v1, v2, .ref p])) (upd H2 a (.tup [v1, v2, .ref p])) := Gr.new N2.ex na
  have N3 := N2.pure g3
  obtain ⟨V1, V2, hV, dV, q1, q2⟩ := N3.p
  subst hV
  have eb : Ex B2 (upd B2 a (.tup [v1, v2, .ref p])) := g3.b
  exact q (.ref a) V1 V2 _ _ N3.sw dV q1 ⟨p, ⟨a, v1, v2, .ref p, rfl, .inl (.inl upd_same), Rp.mono (sw2.g.b.trans eb) hv1, Rp.mono eb hv2, rfl⟩, q2⟩
end
end Cf

set_option Elab.async false
set_option linter.all false
set_option maxRecDepth 100000
set_option maxHeartbeats 4000000
namespace Cf
open PySem L2
open Rp (rp)
open RpL (rpl)
open Enc (enc)
section
variable {K : Fg} {M : Ms} {Bs Hs W : Hp} {σ : L2.St} {B H B' H' : Hp} {te ta tb tc tk tv : TE} {tas : TA} {α β γ δ τ τ' ρ S S' S1 S2 Z : Type} {P : Ow S} {P' : Ow S'} {s : S} {D : Ends}
/-- a[::-1] -/
theorem co_rev [Rp α] {m : Option (List α)} (h : Cp K te σ B m) : Co K (tRevL K te) σ B (m.bind fun xs => some xs.reverse) := fun B1 H1 b e ys em Q q => by
  obtain ⟨xs, e1, em⟩ := bd_some em
  cases em
  refine h B1 H1 b e xs e1 _ fun v B2 H2 g2 hv => ?_
  obtain ⟨a, vs, rfl, hs, hp⟩ := hv
  refine ⟨a, vs, rfl, sq_lst (g2.e _ _ hs), fun p np => ?_⟩
  exact q p _ B2 _ (g2.trans (Gr.newM g2.e np)) (g2.fresh np) (g2.e.none np) upd_same (pr_rev hp)
theorem Gr.setM {B1 H1 : Hp} {p : Addr} {o : HO} (x : Gr M B H B1 H1) (f : H p = none) (n : B1 p = none) : Gr M B H B1 (upd H1 p o) :=
  ⟨x.s, x.b, fun a u m h => by
    rw [upd_ne (ne_of_none h f)]
    exact x.h a u m h, x.e.mut n, x.n, fun a h => by
    rw [upd_ne (ne_free f h)]
    exact x.k a h⟩
/-- d = {k: v} -/
theorem st_mkD1 [OwOk P] [Rp α] {m1 : Option Int} {m2 : Option α} {m' : Option (List (Int × α) × S)} {k : List (Int × α) × S → Option ρ} {r : ρ} {i : Nat} (hm : m'.bind k = some r) (N : Now M Bs Hs P W B H s) (h1 : Cp K tk σ B m1) (h2 : Cp K tv σ B m2) (he : (o2 m1 m2 fun k x => some ([(k, x)], s)) = m')
    (q : ∀ xs p W1 B1 H1, k (xs, s) = some r → Now M Bs Hs (star P (OwD (α := α) K p)) W1 B1 H1 (s, xs) → Ex B B1 → Hs p = none → D.nx (σ.set i (some (.ref p))) H1) : tAsg (tDisp [(tk, tv)]) (gName i) D σ H := by
  subst he
  obtain ⟨⟨xs, s1⟩, e0, hm⟩ := bd_some hm
  obtain ⟨j, x, e1, e2, e3⟩ := o2_some e0
  cases e3
  intro p np
  have g1 : Gr noM B H B (upd H p (.dK [])) := Gr.newM N.ex np
  show tk σ _ fun x H1 => tv σ H1 fun y H2 => _
  refine h1 B _ (Ex.refl B) g1.e j e1 _ fun v B2 H2 g2 hv => ?_
  refine h2 B2 H2 g2.b g2.e x e2 _ fun u B3 H3 g3 hu => ?_
  cases (show v = .int j from hv)
  have hp : H3 p = some (.dK []) := g3.exH _ _ (g2.exH _ _ upd_same)
  have nb2 : B2 p = none := g2.n p (nn upd_same) (N.ex.none np)
  have nb : B3 p = none := g3.n p (nn (g2.exH _ _ upd_same)) nb2
  refine ⟨hp, [(.inl j, u)], rfl, by show 1 ≤ 15; decide, ?_⟩
  have G : Gr (dom emp) B H B3 (upd H3 p (.dK [(.inl j, u)])) := (((g1.trans g2).trans g3).setM np nb).mono fun a h => h.elim
  have sw : Sw emp B H (sing p (.dK [(.inl j, u)])) B3 (upd H3 p (.dK [(.inl j, u)])) := ⟨G, fun a o h => by
    have := sing_dom (nn h)
    subst this
    rw [sing_at] at h
    rw [upd_same]
    exact h, fun a h => by
    have := sing_dom h
    subst this
    exact nb, fun a h => by
    have := sing_dom h
    subst this
    exact .inr np⟩
  exact q _ p _ B3 _ hm (N.beside sw (R := OwD (α := α) K p) ⟨_, rfl, .cons hu .nil⟩) ((g2.b).trans g3.b) (N.g.fresh np)
end
end Cf

set_option Elab.async false
set_option linter.all false
set_option maxRecDepth 100000
set_option maxHeartbeats 4000000
namespace Cf
open PySem L2
open Rp (rp)
open RpL (rpl)
open Enc (enc)
/-! ### tuples of equal items -/
structure Tu (α : Type) where
  l : List α
  deriving DecidableEq
instance {α : Type} [Rp α] : Rp (Tu α) := ⟨fun K B v x => ∃ a vs, v = .ref a ∧ SqT K B a vs ∧ Paired (rp K B) vs x.l, fun e ⟨a, vs, h, s, p⟩ => ⟨a, vs, h, sqt_mono e s, p.mono fun _ _ => Rp.mono e⟩⟩
section
variable {K : Fg} {σ : L2.St} {B : Hp} {S : Type} {P : Ow S} {ta tas : TA} {te : TE}
theorem cp_tup1 [Rp α] {m : Option (α × Unit)} (h : Ca K tas σ B m) : Cp K (tTup tas) σ B (m.bind fun t => some (Tu.mk [t.1])) := fun B1 H1 b e z em Q q => by
  obtain ⟨t, e1, em⟩ := bd_some em
  cases em
  refine h B1 H1 b e t e1 _ fun vs B2 H2 g2 hv => ?_
  obtain ⟨v1, _, rfl, h1, h2⟩ := hv
  cases h2
  exact ⟨by show 1 ≤ sizeLine; decide, fun p np => q _ (upd B2 p (.tup [v1])) _ (g2.trans (Gr.new g2.e np)) ⟨p, [v1], rfl, .inl (.inl upd_same), .cons (Rp.mono (Ex.new (g2.e.none np)) h1) .nil⟩⟩
theorem co_listofT [Rp α] {m : Option (Tu α)} (h : Cp K te σ B m) : Co K (tCB (RListOf K) (tCons te tNil)) σ B (m.bind fun x => some x.l) := fun B1 H1 b e xs em Q q => by
  obtain ⟨x, e1, em⟩ := bd_some em
  cases em
  refine h B1 H1 b e x e1 _ fun v B2 H2 g2 hv => ?_
  obtain ⟨a, vs, rfl, s, p⟩ := hv
  exact ⟨a, vs, rfl, .inr (sqt_mono g2.e s), fun l nl => q l vs B2 _ (g2.trans (Gr.newM g2.e nl)) (g2.fresh nl) (g2.e.none nl) upd_same p⟩
end
/-! ### a default -/
/-- the object at a is an empty tuple -/
def tupEB (K : Fg) (a : Addr) : Bool := match K.lookup a with
  | some ⟨.type c, _, .seq its _, _⟩ => decide (c = "tuple") && decide (its.size = 0)
  | _ => false
def TupE (K : Fg) (a : Addr) : Prop := ∃ (o : Obj) (its : Array Value) (n : Nat), K.lookup a = some o ∧ o.cls = .type "tuple" ∧ o.data = .seq its n ∧ its.size = 0
theorem tupE_ok {K : Fg} {a : Addr} (h : tupEB K a = true) : TupE K a := by
  unfold tupEB at h
  split at h
  next c od its n sl e =>
    rw [Bool.and_eq_true, decide_eq_true_eq, decide_eq_true_eq] at h
    obtain ⟨rfl, h2⟩ := h
    exact ⟨_, its, n, e, rfl, rfl, h2⟩
  next => cases h
theorem TupE.rp {K : Fg} {a : Addr} (h : TupE K a) {α : Type} [Rp α] (B : Hp) : rp K B (.ref a) (Tu.mk ([] : List α)) := by
  obtain ⟨o, its, n, e, h1, h2, h3⟩ := h
  have : its.toList = [] := List.eq_nil_of_length_eq_zero (by rw [Array.length_toList]; exact h3)
  exact ⟨a, [], rfl, .inr ⟨o, its, n, e, h1, h2, by rw [h3]; exact Nat.zero_le _, by rw [this]; exact .nil⟩, .nil⟩
/-- the module's name x is a def whose last defaults fill up -/
structure FcD (P : Program) (w : World) (K : Fg) (mg : Str → Option Value) (base : Heap) (k : Nat) (x : Str) (ps : List Str) (dvs : List V) (sp : Sp) : Prop where
  ex : ∃ f fd ds, FnOk P w K mg base CX0 k f fd ps sp ∧ mg x = some (.ref f) ∧ PySem.W.keepIn K (.ref f) = true ∧ Vals dvs ds ∧ Binds K fd ps ds
theorem pe_fcD {X : Cx} {k j : Nat} {x : Str} {ps : List Str} {dvs : List V} {sp : Sp} {p pos : Pos} {e : Expr} {es : List Expr} {t : TA} (c : FcD X.prog X.w X.K X.mg X.base k x ps dvs sp) (hr : Room j X.A) (hk : k ≤ j) (hg : Gl X x) (ha : PA X (e :: es) t)
    (hdb : (x == ("__debug__" : Str)) = false := by decide) (he : starEach (e :: es) X.env = (false, eval e X.env) :: starEach es X.env := by rfl)
    (hpl : (backTo pos (starEach es X.env)).any (·.1) = false := by rfl) : PE X (.Call (.Name x p) (e :: es) [] pos) (tCall sp dvs E0 t) := by
  obtain ⟨f, fd, ds, F, hm, hkp, hd, hb⟩ := c.ex
  exact pe_call F (hr.mono hk) hg hm hkp hb hd pass0 ha hdb he hpl
theorem fcD_of {P : Program} {w : World} {K : Fg} {mg : Str → Option Value} {base : Heap} {k : Nat} {x qual : Str} {pa : Arguments} {bd : List Stmt} {sc : Scope} {dvs : List V} {ps : List Str} {sp : Sp} {f : Addr} {fd : FuncData} (F : FunD K x qual pa bd sc dvs [] f fd) (ok : FnOk P w K mg base CX0 k f fd ps sp) (g : mg x = some (.ref f)) (n j : Nat) (hd : dvs ≠ []) (hn : n + (dvs.length - j) = ps.length)
    (h : ∀ (T : Addr) (kV doc pm : Value) (an : Option Addr) (cdv ct : Value) (us its : List Value), us.length = n → its.length = dvs.length →
      ∃ k, bindArgs (PySem.W.fnOf x qual pa bd sc (.ref T) kV doc pm an cdv ct) ⟨us, []⟩ = seqItems? (.ref T) >>= k ∧ k (some its.toArray) = pure (ps.zip (us ++ its.drop j))) : FcD P w K mg base k x ps (dvs.drop j) sp := by
  obtain ⟨ds, h1, h2⟩ := FunD.binds1 F n j hd hn h
  exact ⟨f, fd, ds, ok, g, F.kp, h1, h2⟩
theorem fc_ofD {P : Program} {w : World} {K : Fg} {mg : Str → Option Value} {base : Heap} {k : Nat} {x qual : Str} {pa : Arguments} {bd : List Stmt} {sc : Scope} {dv : V} {ps : List Str} {sp : Sp} {f : Addr} {fd : FuncData} (F : FunD K x qual pa bd sc [dv] [] f fd) (ok : FnOk P w K mg base CX0 k f fd ps sp) (g : mg x = some (.ref f))
    (h : ∀ (T : Addr) (kV doc pm : Value) (an : Option Addr) (cdv ct : Value) (us its : List Value), us.length = ps.length → its.length = [dv].length →
      ∃ k, bindArgs (PySem.W.fnOf x qual pa bd sc (.ref T) kV doc pm an cdv ct) ⟨us, []⟩ = seqItems? (.ref T) >>= k ∧ k (some its.toArray) = pure (ps.zip (us ++ its.drop 1))) : Fc P w K mg base k x ps sp := by
  obtain ⟨ds, h1, h2⟩ := FunD.binds1 F ps.length 1 (by simp) (by simp) h
  cases (show Vals [] ds from h1)
  exact ⟨f, fd, ok, g, F.kp, h2⟩
section
variable {K : Fg} {σ : L2.St} {B : Hp} {S : Type} {P : Ow S} {tas : TA} {E : XK}
theorem cp_callD2 [Rp α] [Rp β] [Rp δ] [Rp γ] {f : α × β × δ × Unit → Option γ} {dv : V} {d : δ} {m : Option (α × β × Unit)} (hd : ∀ B, rp K B dv d) (ha : Ca K tas σ B m) : Cp K (tCall (spP K f) [dv] E tas) σ B (m.bind fun t => f (t.1, t.2.1, d, ())) := fun B1 H1 b eh z e Q q => by
  obtain ⟨x, e1, e2⟩ := bd_some e
  refine ha B1 H1 b eh x e1 _ fun vs B2 H2 g2 hv => ?_
  obtain ⟨v1, _, rfl, h1, v2, _, rfl, h2, h3⟩ := hv
  cases h3
  exact ⟨B2, _, z, g2.e, ⟨v1, _, rfl, h1, v2, _, rfl, h2, dv, [], rfl, hd _, rfl⟩, e2, fun v B3 H3 g3 h3 => q v B3 H3 (g2.trans g3) h3⟩
theorem cp_callD20 [Rp α] [Rp β] [Rp δ] [Rp γ] {f : α × β × δ × Unit → Option γ} {dv : V} {d : δ} {t : α × β × Unit} (hd : ∀ B, rp K B dv d) (ha : Ca K tas σ B (some t)) : Cp K (tCall (spP K f) [dv] E tas) σ B (f (t.1, t.2.1, d, ())) := cp_callD2 hd ha
theorem cs_callD2 [Rp α] [Rp β] [Rp δ] [Rp γ] [OwOk P] {f : α × β × δ × Unit → Option γ} {dv : V} {d : δ} {m : S → Option ((α × β × Unit) × S)} (hd : ∀ B, rp K B dv d) (ha : Csa K P tas σ B m) : Cs K P (tCall (spP K f) [dv] E tas) σ B (fun s => (m s).bind fun p => (f (p.1.1, p.1.2.1, d, ())).bind fun z => some (z, p.2)) := fun B1 H1 W s b e w d_ p z s' em Q q => by
  obtain ⟨⟨x, s1⟩, e1, em⟩ := bd_some em
  obtain ⟨z', e2, em⟩ := bd_some em
  cases em
  refine ha B1 H1 W s b e w d_ p x _ e1 _ fun vs B2 H2 W2 sw p2 hv => ?_
  obtain ⟨v1, _, rfl, h1, v2, _, rfl, h2, h3⟩ := hv
  cases h3
  exact ⟨B2, _, z, sw.g.e, ⟨v1, _, rfl, h1, v2, _, rfl, h2, dv, [], rfl, hd _, rfl⟩, e2, fun t B3 H3 g3 ht => q t B3 H3 W2 (sw.trans (Sw.pure g3 sw.w sw.d)) (OwOk.mono g3.b p2) ht⟩
end
theorem rc_lenT3 {K : Fg} [Rp α] [Rp β] [Rp γ] : Rcp K (RLen K) (fun t : (T3 α β γ) × Unit => some (3 : Int)) := fun B H t z vs e h ez Q q => by
  cases ez
  obtain ⟨v, us, rfl, h1, h2⟩ := h
  cases (show us = [] from h2)
  obtain ⟨a, u1, u2, u3, rfl, s, _⟩ := h1
  exact ⟨_, 3, rfl, .inr ⟨_, sqt_mono e s, rfl⟩, q _ B H (Gr.refl e) rfl⟩
end Cf

set_option Elab.async false
set_option linter.all false
set_option maxRecDepth 100000
set_option maxHeartbeats 4000000
namespace Cf
open PySem PySem.Spec PyProof.Rows L2
/-! ### defs that are called where no repr is under way -/
/-- the promise of a def, where no guard stands on the stack -/
structure FnG (P : Program) (w : World) (K : Fg) (mg : Str → Option Value) (base : Heap) (k : Nat) (f : Addr) (fd : FuncData) (ps : List Str) (sp : Sp) : Prop where
  many : ∀ vs H Q E, sp vs H Q E → vs.length = ps.length
  goes : ∀ (A : Around) (outer : List Env) (s : Shared) (H : Hp) (args : Args) (us : List Value) (vs : List V) (Q : VK) (E : XK), A.guards = some [] → Room k A → Env0 P w K mg base A outer s H → BindsTo s fd args (ps.zip us) → Vals vs us → sp vs H Q E →
    codeAny (model P w) A (.call (.ref f) args) (CR CX0 outer P w H s Q E) s
theorem FnG.of {P : Program} {w : World} {K : Fg} {mg : Str → Option Value} {base : Heap} {k : Nat} {f : Addr} {fd : FuncData} {ps : List Str} {sp : Sp} (F : FnOk P w K mg base CX0 k f fd ps sp) : FnG P w K mg base k f fd ps sp :=
  ⟨F.len, fun A outer s H args us vs Q E _ => F.run A outer s H args us vs Q E⟩
theorem FnG.up {P : Program} {w : World} {K : Fg} {mg : Str → Option Value} {base : Heap} {j k : Nat} {f : Addr} {fd : FuncData} {ps : List Str} {sp : Sp} (F : FnG P w K mg base j f fd ps sp) (h : j ≤ k) : FnG P w K mg base k f fd ps sp :=
  ⟨F.many, fun A outer s H args us vs Q E hg hr => F.goes A outer s H args us vs Q E hg (hr.mono h)⟩
theorem deeper_guards {A : Around} (env : Env) (h : A.guards = some []) : (A.deeper env).guards = some [] := h
/-- a body that keeps the promise -/
theorem fnG_of {P : Program} {w : World} {K : Fg} {mg : Str → Option Value} {base : Heap} {x qual : Str} {pa : Arguments} {bd : List Stmt} {sc : Scope} {dvs : List V} {kws : List (Str × V)} {f : Addr} {fd : FuncData} {N ps : List Str} {k : Nat} {sp : Sp}
    (F : FunD K x qual pa bd sc dvs kws f fd) (S : FnScope N ps sc) (hm : ∀ vs H Q E, sp vs H Q E → vs.length = ps.length)
    (body : ∀ (cdv : Value) (A : Around) (outer : List Env) (s : Shared) (H : Hp) (vs : List V) (Q : VK) (E : XK), (A.deeper (envOfC qual sc s.heap.objs.size f cdv)).guards = some [] → Room k (A.deeper (envOfC qual sc s.heap.objs.size f cdv)) → sp vs H Q E →
      ∃ t, PSs (cxOf CX0 P w K mg base N qual sc f cdv A outer s H E) bd t ∧ t { nx := fun _ H' => Q .non H', rt := Q } (start N vs) H) : FnG P w K mg base (k + 1) f fd ps sp := by
  obtain ⟨_, _, _, _, _, _, _, cdv, _, _, rfl, lk, cd, _, _⟩ := F.ex
  refine ⟨hm, fun A outer s H args us vs Q E hg hr e0 hb rv hs => ?_⟩
  have old : ∀ {b : Addr} {o : Obj}, base.get? b = some o → s.heap.get? b = some o := fun {b o} e => (e0.bs b o e).1
  have kin := e0.mod.kin.keeps fun b o e => old e
  obtain ⟨t, pt, ht⟩ := body cdv A outer s H vs Q E (deeper_guards _ hg) (hr.deeper _) hs
  refine codeAny_call_function hr.depth (kin _ _ lk) rfl S.co S.gen rfl (PySem.W.codeRec_of kin cd) (hb _ _ _ _ (wpAny_newFunctionEnv_cells S.kind ?_ fun env he s1 x1 => ?_))
  · intro y hy
    cases S.par y.1 (List.of_mem_zip (show (y.1, y.2) ∈ _ from hy)).1 with
    | inl q => exact .inl q
    | inr q => exact .inr ⟨q, PySem.W.cellsFrom_some _ _ _ (.inl q)⟩
  · cases he
    have I1 := inv_start (CX := CX0) (E := E) S hr.hd e0 (hm _ _ _ _ hs) rv x1
    refine ⟨(e0.mod.nolimit.keeps fun b o e => old e).keeps x1.toInCall.keep, codeAny_func (wpAny_mono (pt.run [] s1 (start N vs) H _ I1 ht) ?_ fun e s' z => z)⟩
    intro fl s' z
    cases fl with
    | ret u =>
      obtain ⟨v, _, H', J, r, q⟩ := z
      exact ⟨v, H', J.os, J.bare, J.base, J.hok, r, q⟩
    | next =>
      obtain ⟨_, H', J, q⟩ := z
      exact ⟨.non, H', J.os, J.bare, J.base, J.hok, rfl, q⟩
    | brk =>
      obtain ⟨_, _, _, q⟩ := z
      exact False.elim q
    | cont =>
      obtain ⟨_, _, _, q⟩ := z
      exact False.elim q
/-- the module's name x is such a def -/
structure FcG (P : Program) (w : World) (K : Fg) (mg : Str → Option Value) (base : Heap) (k : Nat) (x : Str) (ps : List Str) (sp : Sp) : Prop where
  ex : ∃ f fd, FnG P w K mg base k f fd ps sp ∧ mg x = some (.ref f) ∧ PySem.W.keepIn K (.ref f) = true ∧ Binds K fd ps []
theorem pe_fcG {X : Cx} {k j : Nat} {x : Str} {ps : List Str} {sp : Sp} {p pos : Pos} {e : Expr} {es : List Expr} {t : TA} (c : FcG X.prog X.w X.K X.mg X.base k x ps sp) (gd : X.A.guards = some []) (hr : Room j X.A) (hk : k ≤ j) (hg : Gl X x) (ha : PA X (e :: es) t)
    (hdb : (x == ("__debug__" : Str)) = false := by decide) (he : starEach (e :: es) X.env = (false, eval e X.env) :: starEach es X.env := by rfl)
    (hpl : (backTo pos (starEach es X.env)).any (·.1) = false := by rfl) : PE X (.Call (.Name x p) (e :: es) [] pos) (tCall sp [] E0 t) := by
  obtain ⟨f, fd, F, hm, hkp, hb⟩ := c.ex
  refine ⟨fun pins s σ H Q I h => wpAny_Call_Name_kw (ld_glob I hg hm ?_ hdb)⟩
  refine PySem.W.callWith_K (h₀ := X.base) I.ok.mod.kin hkp (thn (ha.run pos pins s σ H _ I h) fun us s1 ⟨vs, H1, I1, r, q⟩ => ⟨I1.kIn, ?_⟩) he hpl
  have q' : sp vs H1 Q E0 := by rw [← List.append_nil vs]; exact q
  have hl : (us ++ []).length = ps.length := by rw [List.append_nil, ← r.length]; exact F.many _ _ _ _ q'
  have hb' := hb s1 us I1.kIn hl
  rw [List.append_nil] at hb'
  refine wpAny_call (codeAny_mono (F.goes X.A X.stack s1 H1 ⟨us, []⟩ us vs Q E0 gd (hr.mono hk) I1.env0 hb' r q') fun r s' z => ?_)
  cases r with
  | error e => exact pass0 pins σ H1 s1 e s' I1 z
  | ok fl =>
    cases fl with
    | ret u => exact I1.after z
    | next => exact z.elim
    | brk => exact z.elim
    | cont => exact z.elim
theorem fcG_of {P : Program} {w : World} {K : Fg} {mg : Str → Option Value} {base : Heap} {k : Nat} {x qual : Str} {pa : Arguments} {bd : List Stmt} {sc : Scope} {ps : List Str} {sp : Sp} {f : Addr} {fd : FuncData} (F : FunD K x qual pa bd sc [] [] f fd) (ok : FnG P w K mg base k f fd ps sp) (g : mg x = some (.ref f))
    (h : ∀ (kV doc pm : Value) (an : Option Addr) (cdv ct : Value) (us : List Value), us.length = ps.length → bindArgs (PySem.W.fnOf x qual pa bd sc .none kV doc pm an cdv ct) ⟨us, []⟩ = pure (ps.zip us)) : FcG P w K mg base k x ps sp :=
  ⟨f, fd, ok, g, F.kp, F.bindsN h⟩
/-! ### the end of a law with one table -/
/-- the heap that is told: the table at t, the script at a unless it is known -/
def hpT (K : Fg) (t a : Addr) (vs : List Value) (ns : List Int) : Hp := fun b =>
  if b = t then some (.tbl #[]) else if b = a ∧ K.lookup a = none then some (.frz { cls := .type "list", data := .seq vs.toArray } (.lst (ns.map V.int))) else none
theorem hpT_some {K : Fg} {t a b : Addr} {vs : List Value} {ns : List Int} {u : HO} (h : hpT K t a vs ns b = some u) : (b = t ∧ u = .tbl #[]) ∨ (b ≠ t ∧ b = a ∧ K.lookup a = none ∧ u = .frz { cls := .type "list", data := .seq vs.toArray } (.lst (ns.map V.int))) := by
  unfold hpT at h
  split at h
  next q => exact .inl ⟨q, (Option.some.inj h).symm⟩
  next q =>
    split at h
    next q2 => exact .inr ⟨q, q2.1, q2.2, (Option.some.inj h).symm⟩
    next => cases h
/-- the call of the law's def -/
theorem law_G {P : Program} {w : World} {K : Fg} {mg mb : Str → Option Value} {k : Nat} {fa a c t : Addr} {fd : FuncData} {x : Str} {sp : Sp} {s : Shared} {vs : List Value} {ns : List Int}
    (kin : K.In s.heap) (nsg : s.heap.Ns mainGlobals mg) (nsb : s.heap.Ns builtinsNs mb) (bb : ∀ x : Str, x ≠ "__name__" → mb x = bootBuiltins x) (lim : s.heap.NoLimit) (gens : s.gens = #[])
    (ht : s.heap.get? t = some { cls := .none, data := .fields #[] }) (kt : K.lookup t = none) (hc : PySem.W.CodeHd s.heap c t)
    (bm : ∃ (bm : Addr) (ob : Obj), mg "__builtins__" = some (.ref bm) ∧ bm ≠ builtinsNs ∧ s.heap.get? bm = some ob ∧ ob.cls = .type "module" ∧ ob.dict = some builtinsNs ∧ ob.data = .plain)
    (ha : s.heap.get? a = some { cls := .type "list", data := .seq vs.toArray }) (hi : IntsAre vs ns) (hl : ns.length ≤ sizeLine) (hr : Room k callerA)
    (F : ∀ base : Heap, K.In base → base.Ns mainGlobals mg → GxR.TabB base mg c t → FnG P w K mg base k fa fd [x] sp) (hb : ∀ (s : Shared) (u : Value), BindsTo s fd ⟨[u], []⟩ [(x, u)])
    (hsp : ∀ H : Hp, H t = some (.tbl #[]) → SqL K H a (ns.map V.int) → sp [.ref a] H (fun v _ => v = .bl true) fun _ _ _ => False) :
    codeAny (model P w) callerA (.call (.ref fa) ⟨[.ref a], []⟩) (fun r s' => r = .ok (.ret (.bool true)) ∧ OldK s.heap s'.heap ∧ s'.os = s.os ∧ AllBare s'.gens) s := by
  have rv := vals_ints hi
  have ne : a ≠ t := fun z => by
    rw [z, ht] at ha
    cases ha
  obtain ⟨H, eH⟩ : ∃ H, H = hpT K t a vs ns := ⟨_, rfl⟩
  have Ht : H t = some (.tbl #[]) := by rw [eH]; exact if_pos rfl
  have other : ∀ {b : Addr} {o : Obj}, s.heap.get? b = some o → (∀ xs n, o.data ≠ .seq xs n) → (∀ xs, o.data ≠ .fields xs) → H b = none := fun {b o} e h1 h2 => by
    cases q : H b with
    | none => rfl
    | some u =>
      rw [eH] at q
      rcases hpT_some q with ⟨z, _⟩ | ⟨_, z, _⟩
      · rw [z, ht] at e
        cases e
        exact (h2 _ rfl).elim
      · rw [z, ha] at e
        cases e
        exact (h1 _ _ rfl).elim
  have stay : ∀ {b : Addr} {o : Obj}, s.heap.get? b = some o → H b = none → (hidT s.heap H).get? b = some o := fun e n => hidT_get e n
  have dicts : ∀ {b : Addr} {m : Str → Option Value}, s.heap.Ns b m → (hidT s.heap H).Ns b m := fun {b m} ⟨o, es, n, e, d, z⟩ =>
    ⟨o, es, n, stay e (other e (fun xs n q => by rw [d] at q; cases q) fun xs q => by rw [d] at q; cases q), d, z⟩
  have kin' : K.In (hidT s.heap H) := fun b o e => stay (kin b o e) (by
    cases q : H b with
    | none => rfl
    | some u =>
      rw [eH] at q
      rcases hpT_some q with ⟨z, _⟩ | ⟨_, z, z2, _⟩
      · rw [z, kt] at e
        cases e
      · rw [z, z2] at e
        cases e)
  have md : L2.Mod K mg (hidT s.heap H) := ⟨kin', dicts nsg, ⟨mb, dicts nsb, bb⟩, by
    obtain ⟨mc, l1, l2⟩ := lim
    exact ⟨mc, dicts l1, l2⟩⟩
  have tb : GxR.TabB (hidT s.heap H) mg c t := by
    obtain ⟨og, es, n, eg, dg, _⟩ := nsg
    refine ⟨?_, ?_, fun z => ?_⟩
    · obtain ⟨o, us, file, tf, flags, tg, inF, text, tt, e1, r1, r2, r3, r⟩ := hc
      refine ⟨o, us, file, tf, flags, tg, inF, text, tt, stay e1 ?_, r1, r2, r3, r⟩
      cases q : H c with
      | none => rfl
      | some u =>
        rw [eH] at q
        rcases hpT_some q with ⟨z, _⟩ | ⟨_, z, _⟩
        · rw [z, ht] at e1
          cases e1
          cases r1
        · rw [z, ha] at e1
          cases e1
          simp at r1
    · obtain ⟨b, ob, b1, b2, b3, b4, b5, b6⟩ := bm
      refine ⟨b, ob, b1, b2, fun z => ?_, fun z => ?_, stay b3 (other b3 (fun xs n q => by rw [b6] at q; cases q) fun xs q => by rw [b6] at q; cases q), b4, b5, b6⟩
      · rw [z, eg] at b3
        cases b3
        rw [dg] at b6
        cases b6
      · rw [z, ht] at b3
        cases b3
        cases b6
    · rw [z, ht] at eg
      cases eg
      cases dg
  have hok : HOk P w H s.heap := fun b u q => by
    rw [eH] at q
    rcases hpT_some q with ⟨z, z2⟩ | ⟨_, z, _, z2⟩
    · rw [z, z2]
      exact ht
    · rw [z, z2]
      exact ⟨ha, by rw [List.length_map]; exact hl, vs, _, rv, ha⟩
  have scr : SqL K H a (ns.map V.int) := by
    cases q : K.lookup a with
    | none => exact .inl (.inr ⟨{ cls := .type "list", data := .seq vs.toArray }, by rw [eH]; exact (if_neg ne).trans (if_pos ⟨rfl, q⟩)⟩)
    | some o =>
      have e := kin a o q
      rw [ha] at e
      cases e
      exact .inr ⟨_, vs.toArray, _, q, rfl, rfl, rfl, by rw [List.size_toArray, hi.length]; exact hl, rv⟩
  have e0 : Env0 P w K mg (hidT s.heap H) callerA [] s H := ⟨rfl, md, fun b o e => of_hidT e, Nat.le_of_eq (hidT_size _ _), trivial, fun b z => (List.not_mem_nil z).elim, hok, .of_eq gens⟩
  refine codeAny_mono ((F _ kin' (dicts nsg) tb).goes callerA [] s H ⟨[.ref a], []⟩ [.ref a] [.ref a] _ _ rfl hr e0 (hb s (.ref a)) (.cons rfl .nil) (hsp H Ht scr)) fun r s' z => ?_
  cases r with
  | error e => exact False.elim z
  | ok fl =>
    cases fl with
    | next => exact z.elim
    | brk => exact z.elim
    | cont => exact z.elim
    | ret u =>
      obtain ⟨v, H', os, bare, un, hok', r', q⟩ := z
      cases (show v = .bl true from q)
      cases (show u = Value.bool true from r')
      have tbl : ∃ more : Array Value, s'.heap.get? t = some { cls := .none, data := .fields more } := by
        obtain ⟨more, z⟩ := un.tbls t #[] Ht
        exact ⟨_, hok' t _ z⟩
      have same : ∀ b o, b ≠ t → s.heap.get? b = some o → s'.heap.get? b = some o := fun b o nb e => by
        cases q : H b with
        | none => exact un.keep b o e q (fun z => (List.not_mem_nil z).elim) List.not_mem_nil
        | some u =>
          have q' := q
          rw [eH] at q'
          rcases hpT_some q' with ⟨z, _⟩ | ⟨_, _, _, z⟩
          · exact absurd z nb
          · rw [z] at q
            obtain ⟨e1, _⟩ := hok b _ q
            obtain ⟨e2, _⟩ := hok' b _ (un.frzs b _ _ q)
            rw [e] at e1
            cases e1
            exact e2
      obtain ⟨more, hmore⟩ := tbl
      refine ⟨rfl, ⟨fun b o e => ?_, fun b o e => ?_⟩, os, bare⟩
      · by_cases z : b = t
        · rw [z] at e ⊢
          rw [ht] at e
          cases e
          exact .inr (.inl ⟨(hc.tab ht).isCodeTable, rfl, #[], more, rfl, by rw [Array.empty_append]; exact hmore⟩)
        · exact .inl (same b o z e)
      · by_cases z : b = t
        · rw [z]
          exact ⟨_, hmore⟩
        · exact ⟨o, same b o z e⟩
theorem walk_G {l : PySem.W.OpenLaw} {n k : Nat} {q : Program} {loose : List Str} {XP : (Str → Option Value) → Heap → Prop} {YP : World → Heap → Prop} {d : DefRec} {x : Str} (hn : l.most = some n) (hn2 : n ≤ sizeLine) (hdf : d.params.defaults = []) (hr : Room k callerA)
    (F : ∀ (w : World) (mg : Str → Option Value) (fa : Addr) (h : Heap), YP w h → h.Ns mainGlobals mg → mg d.name = some (.ref fa) → ∃ (K : Fg) (c t : Addr) (fd : FuncData) (sp : Sp), K.In h ∧ h.get? t = some { cls := .none, data := .fields #[] } ∧ K.lookup t = none ∧ PySem.W.CodeHd h c t ∧
      (∀ (s : Shared) (u : Value), BindsTo s fd ⟨[u], []⟩ [(x, u)]) ∧ (∀ (H : Hp) (a : Addr) (ns : List Int), ns.length ≤ n → H t = some (.tbl #[]) → SqL K H a (ns.map V.int) → sp [.ref a] H (fun v _ => v = .bl true) fun _ _ _ => False) ∧
      ∀ base : Heap, K.In base → base.Ns mainGlobals mg → GxR.TabB base mg c t → FnG l.prog w K mg base k fa fd [x] sp) :
    PySem.W.WalkO q loose XP YP l.row.toRowW d [] (fun f vs => PySem.call f vs) :=
  Att.attach_callB hn hdf fun w s₀ s₁ mg mb fa o pm cd doc a vs ns G Y ho hd hcd hmg hobj hints hlen hbits hg => by
    obtain ⟨K, c, t, fd, sp, kin, ht, kt, hc, hb, hsp, hF⟩ := F w mg fa _ Y G.T.g hmg
    exact law_G kin G.T.g G.T.b G.T.builtins G.T.nolimit hg ht kt hc G.T.bmain hobj hints (Nat.le_trans hlen hn2) hr hF hb fun H hH hS => hsp H a ns hlen hH hS
/-! ### repr of lists and tuples -/
def dispD : PyData → Bool
  | .list _ => true
  | .tuple _ => true
  | _ => false
def okR (d : PyData) : Bool := dispD d && (d.showable && (!d.hasDict && (decide (d.depth ≤ 64) && decide (d.shown.length ≤ sizeLine))))
def RReprD (K : Fg) : List V → Hp → VK → Prop := fun xs H Q => ∃ x d, xs = [x] ∧ Dp K H x d ∧ okR d = true ∧ Q (.str d.shown) H
theorem call_reprD {X : Cx} {K : Fg} {j : Nat} (h : X.K = K) (gd : X.A.guards = some []) (hr : Room j X.A) : CallR X (.builtin "repr") (RReprD K) := by
  subst h
  intro pins s σ H xs us Q I r h
  obtain ⟨x, d, rfl, hd, ok, q⟩ := h
  obtain ⟨u, rfl, ru⟩ := vals1 r
  obtain ⟨as, rd⟩ := Dp.reads I d x u hd ru
  unfold okR at ok
  rw [Bool.and_eq_true, Bool.and_eq_true, Bool.and_eq_true, Bool.and_eq_true, decide_eq_true_eq, decide_eq_true_eq, Bool.not_eq_true'] at ok
  obtain ⟨k1, k2, k3, k4, k5⟩ := ok
  have hu := hr.un
  have isr : ∃ a, u = .ref a := by
    cases hd with
    | lst hs _ => exact ⟨_, ru⟩
    | tup hs _ => exact ⟨_, ru⟩
    | _ => cases k1
  obtain ⟨a, rfl⟩ := isr
  exact repr_of_reads' rd k2 (PyData.noDict_hsm k3) gd (by omega) (fun _ _ e => e) (fun h' u tk hk => ⟨.str _, H, I.kept hk, ⟨_, rfl⟩, q⟩) k5
def preprD {α : Type} [Enc α] (x : α) : Option Str := if okR (Enc.enc x) = true then some (Enc.enc x).shown else none
theorem rc_reprD {K : Fg} {α : Type} [Enc α] : Rcp K (RReprD K) (fun t : α × Unit => preprD t.1) := fun B H t z vs e h ez Q q => by
  obtain ⟨v, us, rfl, h1, h2⟩ := h
  cases (show us = [] from h2)
  obtain ⟨hc, ez⟩ := if_some ez
  cases ez
  exact ⟨_, _, rfl, Enc.to (Rp.mono e h1), hc, q _ B H (Gr.refl e) rfl⟩
end Cf

set_option Elab.async false
set_option linter.all false
set_option maxRecDepth 100000
set_option maxHeartbeats 4000000
namespace Cf
open PySem L2
open Rp (rp)
open RpL (rpl)
open Enc (enc)
def enumL {α : Type} (xs : List α) : List (Int × α) := xs.zipIdx.map fun p => ((p.2 : Int), p.1)
theorem enumL_len {α : Type} (xs : List α) : (enumL xs).length = xs.length := by
  unfold enumL
  rw [List.length_map, List.length_zipIdx]
theorem enumL_get {α : Type} {xs : List α} {i : Nat} {p : Int × α} (h : (enumL xs)[i]? = some p) : p.1 = (i : Int) ∧ xs[i]? = some p.2 := by
  unfold enumL at h
  rw [List.getElem?_map, List.getElem?_zipIdx] at h
  cases q : xs[i]? with
  | none => rw [q] at h; cases h
  | some x =>
    rw [q] at h
    cases h
    exact ⟨by show ((0 + i : Nat) : Int) = _; omega, rfl⟩
section
variable {K : Fg} {σ : L2.St} {B H : Hp} {te : TE} {g : V → L2.St → Hp → (L2.St → Hp → Prop) → Prop} {ts : TS} {D : Ends} {S R ρ α : Type}
theorem ite_go {a : Addr} {vs : List V} {i : Nat} (h : SqL K H a vs) (hi : i < vs.length) : (Ite K a).go i H := ⟨vs, vs[i], h, List.getElem?_eq_getElem hi⟩
theorem ite_stop {a : Addr} {vs : List V} {i : Nat} (h : SqL K H a vs) (hi : vs.length ≤ i) : (Ite K a).stop i H := ⟨vs, h, hi⟩
/-- for i, x in enumerate(a list that is known) -/
theorem st_forF_enum [Rp α] {mi mi' : Option (List α)} {b : Int × α → S → Option (Fl S R)} {s0 : S} {k : Fl S R → Option ρ} {r : ρ} (I : Hp → S → Hp → L2.St → Hp → Prop)
    (hst : ∀ Be s B σ H T u, I Be s B σ H → H T = none → I Be s (upd B T u) σ (upd H T u)) (hm : ((mi'.bind fun x => some (enumL x)).bind fun xs => (forF b xs s0).bind k) = some r) (e : Ex B H) (hc : Cp K te σ B mi) (he : mi = mi')
    (hx : ∀ Be s B σ H, I Be s B σ H → Ex Be B ∧ Ex B H) (h0 : ∀ Be H1, Gr noM B H Be H1 → I Be s0 Be σ H1)
    (hs : ∀ Be x s B σ H v c (N : L2.St → Hp → Prop), I Be s B σ H → rp K B v x → b x s = some c → (∀ s2 B2 σ2 H2, c = .nx s2 → I Be s2 B2 σ2 H2 → N σ2 H2) → (∀ s2 B2 σ2 H2, c = .bk s2 → I Be s2 B2 σ2 H2 → D.nx σ2 H2) →
      (∀ r', c = .rt r' → k (.rt r') = some r) → g v σ H fun σ2 H2 => ts { D with nx := N, ct := N, bk := D.nx } σ2 H2)
    (hd : ∀ Be s B σ H, k (.nx s) = some r → I Be s B σ H → D.nx σ H) : tFor (iEnum K (tCons te tNil)) g ts D σ H := by
  subst he
  obtain ⟨ys, e0, e2⟩ := bd_some hm
  obtain ⟨xs, e1, e3⟩ := bd_some e0
  cases e3
  refine hc B H (Ex.refl B) e xs e1 _ fun v Be H1 g1 hv => ?_
  obtain ⟨a, vs, rfl, hS, hp⟩ := hv
  have hl := pr_len hp
  have hl2 := enumL_len xs
  refine ⟨a, vs, rfl, sq_lst (g1.e _ _ hS), forF_run (K := K) (xs := enumL xs) (B := Be) (I Be) (fun i s B σ H hI hi => ?_) (fun i s B σ H hI hi => ?_) (fun i x s B σ H v H' hI hxi y => ?_) e2 (h0 Be H1 g1) (fun x s B σ H v c N => hs Be x s B σ H v c N) (fun s B σ H => hd Be s B σ H)⟩
  · obtain ⟨x1, x2⟩ := hx _ _ _ _ _ hI
    exact ite_go (sq_lst ((x1.trans x2) _ _ hS)) (by omega)
  · obtain ⟨x1, x2⟩ := hx _ _ _ _ _ hI
    exact ite_stop (sq_lst ((x1.trans x2) _ _ hS)) (by omega)
  · obtain ⟨x1, x2⟩ := hx _ _ _ _ _ hI
    obtain ⟨T, y, rfl, nT, rfl, hy⟩ := y
    obtain ⟨q1, q2⟩ := enumL_get hxi
    obtain ⟨w, hw, hr⟩ := pr_get hp q2
    have ew := hy vs (sq_lst ((x1.trans x2) _ _ hS))
    rw [hw] at ew
    cases ew
    refine ⟨_, hst _ _ _ _ _ _ (.tup [.int (i : Int), y]) hI nT, T, .int (i : Int), y, rfl, .inl (.inl upd_same), ?_, Rp.mono (x1.trans (Ex.new (x2.none nT))) hr⟩
    rw [q1]
    rfl
theorem st_forN_enum [Rp α] {mi mi' : Option (List α)} {b : Int × α → S → Option S} {s0 : S} {k : S → Option ρ} {r : ρ} (I : Hp → S → Hp → L2.St → Hp → Prop)
    (hst : ∀ Be s B σ H T u, I Be s B σ H → H T = none → I Be s (upd B T u) σ (upd H T u)) (hm : ((mi'.bind fun x => some (enumL x)).bind fun xs => (forN b xs s0).bind k) = some r) (e : Ex B H) (hc : Cp K te σ B mi) (he : mi = mi')
    (hx : ∀ Be s B σ H, I Be s B σ H → Ex Be B ∧ Ex B H) (h0 : ∀ Be H1, Gr noM B H Be H1 → I Be s0 Be σ H1)
    (hs : ∀ Be x s B σ H v s' (N : L2.St → Hp → Prop), I Be s B σ H → rp K B v x → b x s = some s' → (∀ B2 σ2 H2, I Be s' B2 σ2 H2 → N σ2 H2) → g v σ H fun σ2 H2 => ts { D with nx := N, ct := N, bk := D.nx } σ2 H2)
    (hd : ∀ Be s B σ H, k s = some r → I Be s B σ H → D.nx σ H) : tFor (iEnum K (tCons te tNil)) g ts D σ H := by
  subst he
  obtain ⟨ys, e0, e2⟩ := bd_some hm
  obtain ⟨xs, e1, e3⟩ := bd_some e0
  cases e3
  refine hc B H (Ex.refl B) e xs e1 _ fun v Be H1 g1 hv => ?_
  obtain ⟨a, vs, rfl, hS, hp⟩ := hv
  have hl := pr_len hp
  have hl2 := enumL_len xs
  refine ⟨a, vs, rfl, sq_lst (g1.e _ _ hS), forN_run (K := K) (xs := enumL xs) (B := Be) (I Be) (fun i s B σ H hI hi => ?_) (fun i s B σ H hI hi => ?_) (fun i x s B σ H v H' hI hxi y => ?_) e2 (h0 Be H1 g1) (fun x s B σ H v s' N => hs Be x s B σ H v s' N) (fun s B σ H => hd Be s B σ H)⟩
  · obtain ⟨x1, x2⟩ := hx _ _ _ _ _ hI
    exact ite_go (sq_lst ((x1.trans x2) _ _ hS)) (by omega)
  · obtain ⟨x1, x2⟩ := hx _ _ _ _ _ hI
    exact ite_stop (sq_lst ((x1.trans x2) _ _ hS)) (by omega)
  · obtain ⟨x1, x2⟩ := hx _ _ _ _ _ hI
    obtain ⟨T, y, rfl, nT, rfl, hy⟩ := y
    obtain ⟨q1, q2⟩ := enumL_get hxi
    obtain ⟨w, hw, hr⟩ := pr_get hp q2
    have ew := hy vs (sq_lst ((x1.trans x2) _ _ hS))
    rw [hw] at ew
    cases ew
    refine ⟨_, hst _ _ _ _ _ _ (.tup [.int (i : Int), y]) hI nT, T, .int (i : Int), y, rfl, .inl (.inl upd_same), ?_, Rp.mono (x1.trans (Ex.new (x2.none nT))) hr⟩
    rw [q1]
    rfl
end
end Cf

set_option Elab.async false
set_option linter.all false
set_option maxRecDepth 100000
set_option maxHeartbeats 4000000
namespace Cf
open PySem L2
open Rp (rp)
open RpL (rpl)
open Enc (enc)
/-! ### a def that changes a new list (third) and an object (fourth) -/
def spML {S α β γ ε : Type} [Rp α] [Rp β] [Rp γ] [Rp ε] (K : Fg) (Pb : Addr → Ow S) (f : S × List ε → α × β × Unit → Option (γ × (S × List ε))) : Sp := fun vs H Q _ => ∃ p pa u0 u1 W B s t r s', vs = [u0, u1, .ref p, .ref pa] ∧ Ex B H ∧ Ex W H ∧ Dj W B ∧ star (Pb pa) (OwL (α := ε) K p) W B s ∧ rp K B u0 t.1 ∧ rp K B u1 t.2.1 ∧ f s t = some (r, s') ∧
  ∀ v W' B' H', Sw W B H W' B' H' → star (Pb pa) (OwL (α := ε) K p) W' B' s' → rp K B' v r → Q v H'
section
variable {K : Fg} {σ : L2.St} {W W' W2 B H B' H' : Hp} {te ta tb tc : TE} {tas : TA} {α β γ ε τ S S' : Type} {P' : Ow S'} {p : Addr} {o : HO}
theorem Sw.less (x : Sw W B H W' B' H') (h : ∀ a o, W2 a = some o → W' a = some o) : Sw W B H W2 B' H' :=
  ⟨x.g, fun a o e => x.w a o (h a o e), fun a e => x.d a (by
    cases q : W2 a with
    | none => exact absurd q e
    | some o => rw [h a o q]; simp), fun a e => x.f a (by
    cases q : W2 a with
    | none => exact absurd q e
    | some o => rw [h a o q]; simp)⟩
theorem Sw.one (x : Sw W B H W' B' H') (hp : H p = none) (hb : B' p = none) (hh : H' p = some o) (hw : W' p = none) : Sw W B H (uni W' (sing p o)) B' H' :=
  ⟨x.g, fun a u e => by
    cases q : W' a with
    | some u' =>
      rw [uni_l q] at e
      cases e
      exact x.w a _ q
    | none =>
      rw [uni_r q] at e
      have ea := sing_dom (nn e)
      subst ea
      rw [sing_at] at e
      cases e
      exact hh, fun a e => by
    cases q : W' a with
    | some u' => exact x.d a (nn q)
    | none =>
      rw [uni_r q] at e
      rw [sing_dom e]
      exact hb, fun a e => by
    cases q : W' a with
    | some u' => exact x.f a (nn q)
    | none =>
      rw [uni_r q] at e
      rw [sing_dom e]
      exact .inr hp⟩
theorem cs_callML [Rp α] [Rp β] [Rp γ] [Rp ε] {Pb : Addr → Ow S} {a : Addr} {get : S' → S} {put : S' → S → S'} {f : S × List ε → α × β × Unit → Option (γ × (S × List ε))} {i : Nat} {m0 : S' → Option (α × S')} {m1 : S' → Option (β × S')} {m2 : S' → Option (List ε × S')} {E : XK} (l : Ln P' (Pb a) get put) (hs : σ[i]? = some (some (.ref a)))
    (h0 : Cs K P' ta σ B m0) (h1 : Cs K P' tb σ B m1) (h2 : Cso K P' tc σ B m2) :
    Cs K P' (tCall (spML K Pb f) [] E (tCons ta (tCons tb (tCons tc (tCons (tVar i) tNil))))) σ B (fun s => (m0 s).bind fun x => (m1 x.2).bind fun y => (m2 y.2).bind fun z => (f (get z.2, z.1) (x.1, y.1, ())).bind fun r => some (r.1, put z.2 r.2.1)) := fun B1 H1 W s b e w d p z s' em Q q => by
  obtain ⟨⟨x0, s0⟩, e0, em⟩ := bd_some em
  obtain ⟨⟨x1, s1⟩, e1, em⟩ := bd_some em
  obtain ⟨⟨x2, s2⟩, e2, em⟩ := bd_some em
  obtain ⟨⟨y, s3, l3⟩, e3, em⟩ := bd_some em
  cases em
  refine h0 B1 H1 W s b e w d p x0 s0 e0 _ fun v0 B2 H2 W2 sw2 p2 hv0 => ?_
  refine h1 B2 H2 W2 s0 (b.trans sw2.g.b) sw2.g.e sw2.w sw2.d p2 x1 s1 e1 _ fun v1 B3 H3 W3 sw3 p3 hv1 => ?_
  have b3 := b.trans (sw2.g.b.trans sw3.g.b)
  refine h2 B3 H3 W3 s1 b3 sw3.g.e sw3.w sw3.d p3 x2 s2 e2 _ fun pl us B4 H4 W4 sw4 p4 n1 n2 n3 hh hp => ?_
  refine ⟨.ref a, hs, ?_⟩
  obtain ⟨V1, V2, hV, dV, q1, back⟩ := l.open_ W4 B4 s2 p4
  subst hV
  have nV1 : V1 pl = none := by
    cases q : V1 pl with
    | none => rfl
    | some o => rw [uni_l q] at n3; cases n3
  have nV2 : V2 pl = none := by rw [uni_r nV1] at n3; exact n3
  have n0 : H1 pl = none := by
    cases q : H1 pl with
    | none => rfl
    | some o => exact absurd n1 (sw3.g.k pl (sw2.g.k pl (nn q)))
  have sw := ((sw2.trans sw3).trans sw4).one n0 n2 hh n3
  have dS : Dj V1 (sing pl (.lst us)) := fun c h => by
    cases q : sing pl (.lst us) c with
    | none => rfl
    | some o =>
      rw [sing_dom (nn q)] at h
      exact absurd nV1 h
  have dS2 : Dj (sing pl (.lst us)) V2 := fun c h => by rw [sing_dom h]; exact nV2
  have e5 : ∀ X1 X2 : Hp, Dj X2 V2 → uni (uni X1 X2) V2 = uni (uni X1 V2) X2 := fun X1 X2 dj => by rw [uni_assoc, uni_comm dj, ← uni_assoc]
  have e6 := e5 V1 (sing pl (.lst us)) dS2
  rw [← e6] at sw
  have dVV : Dj (uni V1 (sing pl (.lst us))) V2 := dj_uni dV dS2
  refine ⟨pl, a, v0, v1, uni V1 (sing pl (.lst us)), B4, (get s2, x2), (x0, x1, ()), y, (s3, l3), rfl, sw4.g.e, fun c o h => sw.w c o (uni_l h), dj_l sw.d, ⟨V1, _, rfl, dS, q1, us, rfl, hp⟩, Rp.mono (sw3.g.b.trans sw4.g.b) hv0, Rp.mono sw4.g.b hv1, e3, fun v W' B5 H5 yy p5 hr => ?_⟩
  have w2 : Ex V2 H4 := fun c o h => sw.w c o (by rw [uni_r (dVV.symm c (nn h))]; exact h)
  obtain ⟨y2, dj⟩ := yy.beside w2 dVV (dj_r dVV sw.d)
  obtain ⟨X1, X2, hX, dX, pX, _⟩ := p5
  subst hX
  have dj1 : Dj X1 V2 := fun c h => dj c (uni_dom_l h)
  have dj2 : Dj X2 V2 := fun c h => dj c (uni_dom_r dX h)
  refine q v B5 H5 (uni X1 V2) ((sw.trans y2).less fun c o h => ?_) (back X1 B5 s3 yy.g.b dj1 pX) hr
  rw [e5 X1 X2 dj2]
  exact uni_l h
end
end Cf

set_option Elab.async false
set_option linter.all false
set_option maxRecDepth 100000
set_option maxHeartbeats 4000000
namespace Cf
open PySem L2
open Rp (rp)
open RpL (rpl)
open Enc (enc)
section
variable {K : Fg} {σ : L2.St} {B H : Hp} {te ta tb tc tw tx : TE} {tt : TT} {tas : TA} {α β γ S R ρ : Type} {g g1 : TG} {ts : TS} {D : Ends} {vs vs1 : List Nat} {P : Ow S}
/-- [x for row in rows for x in row] -/
def pflat (xs : List (List α)) : Option (List α) := if xs.flatten.length < 1000000 then some xs.flatten else none
theorem flat_take {xs : List (List α)} {i : Nat} {x : List α} (h : xs[i]? = some x) : (xs.take (i + 1)).flatten = (xs.take i).flatten ++ x := by
  rw [List.take_succ, h]
  simp
theorem flat_le {xs : List (List α)} {i j : Nat} {x : List α} (h : xs[i]? = some x) : ((xs.take i).flatten ++ x.take j).length ≤ xs.flatten.length := by
  have e : xs.flatten = ((xs.take i).flatten ++ x) ++ (xs.drop (i + 1)).flatten := by
    rw [← flat_take h, ← List.flatten_append, List.take_append_drop]
  rw [e, List.length_append, List.length_append, List.length_append, List.length_take]
  omega
theorem co_flat [Rp α] {mi : Option (List (List α))} (hc : Cp K ta σ B mi)
    (hs : ∀ (x : List α) B1 v, Ex B B1 → rp K B1 v x → ∃ σ2, (∀ H (Q : L2.St → Hp → Prop), Ex B1 H → Q σ2 H → g v (wipe σ vs) H Q) ∧ wipe σ2 vs = wipe σ vs ∧ Cp K tw σ2 B1 (some x) ∧
      ∀ (y : α) B2 u, Ex B1 B2 → rp K B2 u y → ∃ σ3, (∀ H (Q : L2.St → Hp → Prop), Ex B2 H → Q σ3 H → g1 u (wipe σ2 vs1) H Q) ∧ wipe σ3 vs1 = wipe σ2 vs1 ∧ Cp K tx σ3 B2 (some y)) :
    Co K (tLc2 (iList K ta) g tYes (iList K tw) g1 tYes tx vs vs1) σ B (mi.bind pflat) := fun B1 H1 b e ys em Q q => by
  obtain ⟨xs, e1, em⟩ := bd_some em
  obtain ⟨hl, e2⟩ := if_some em
  subst e2
  refine hc B1 H1 b e xs e1 _ fun v B2 H2 g2 hv => ?_
  obtain ⟨a, ws, rfl, hS, hp⟩ := hv
  have hlw := pr_len hp
  refine ⟨a, rfl, ⟨ws, sq_lst (g2.e _ _ hS)⟩, fun D nD => ?_⟩
  refine ⟨fun i m H => m = xs.length - i ∧ i ≤ xs.length ∧ ∃ B us, Gr noM B2 H2 B H ∧ B D = none ∧ H D = some (.lst us) ∧ Paired (rp K B) us (xs.take i).flatten, ⟨_, rfl, Nat.zero_le _, B2, [], Gr.newM g2.e nD, g2.e.none nD, upd_same, .nil⟩, ?_⟩
  rintro i m H ⟨rfl, hi, B3, us, G, nb, hD, pr⟩
  have hS3 : SqL K H a ws := sq_lst ((G.b.trans G.e) _ _ hS)
  by_cases hlt : i < xs.length
  · have hx : xs[i]? = some xs[i] := List.getElem?_eq_getElem hlt
    refine .inr ⟨itl_go hS3 (by omega), fun H' => i + 1 ≤ xs.length ∧ ∃ B us, Gr noM B2 H2 B H' ∧ B D = none ∧ H' D = some (.lst us) ∧ Paired (rp K B) us (xs.take (i + 1)).flatten, fun H' h => ⟨xs.length - (i + 1), by omega, rfl, h.1, h.2⟩, fun v H' y => ?_⟩
    obtain ⟨eH, y⟩ := y
    subst eH
    obtain ⟨w, hw, hr⟩ := pr_get hp hx
    have ew := y ws hS3
    rw [hw] at ew
    cases ew
    obtain ⟨σ2, hg, hwp, htw, hin⟩ := hs xs[i] B3 _ ((b.trans g2.b).trans G.b) (Rp.mono G.b hr)
    refine hg H' _ G.e ⟨hwp, tyes_ok ?_⟩
    rw [if_pos rfl]
    refine htw B3 H' (Ex.refl B3) G.e xs[i] rfl _ fun v4 B4 H4 g4 h4 => ?_
    obtain ⟨a4, w4, rfl, hS4, hp4⟩ := h4
    have hl4 := pr_len hp4
    refine ⟨a4, rfl, ⟨w4, sq_lst (g4.e _ _ hS4)⟩, ?_⟩
    refine ⟨fun j k H => k = xs[i].length - j ∧ j ≤ xs[i].length ∧ ∃ B us, Gr noM B2 H2 B H ∧ Ex B4 B ∧ B D = none ∧ H D = some (.lst us) ∧ Paired (rp K B) us ((xs.take i).flatten ++ xs[i].take j), ⟨_, rfl, Nat.zero_le _, B4, us, G.trans g4, Ex.refl B4, g4.n D (nn hD) nb, g4.exH D _ hD, ?_⟩, ?_⟩
    · rw [List.take_zero, List.append_nil]
      exact pr_mono g4.b pr
    · rintro j k H5 ⟨rfl, hj, B5, us5, G5, x45, nb5, hD5, pr5⟩
      have hS5 : SqL K H5 a4 w4 := sq_lst ((x45.trans G5.e) _ _ hS4)
      by_cases hjt : j < xs[i].length
      · have hx5 : xs[i][j]? = some xs[i][j] := List.getElem?_eq_getElem hjt
        refine .inr ⟨itl_go hS5 (by omega), fun H' => j + 1 ≤ xs[i].length ∧ ∃ B us, Gr noM B2 H2 B H' ∧ Ex B4 B ∧ B D = none ∧ H' D = some (.lst us) ∧ Paired (rp K B) us ((xs.take i).flatten ++ xs[i].take (j + 1)), fun H' h => ⟨xs[i].length - (j + 1), by omega, rfl, h.1, h.2⟩, fun v5 H' y5 => ?_⟩
        obtain ⟨eH5, y5⟩ := y5
        subst eH5
        obtain ⟨w5, hw5, hr5⟩ := pr_get hp4 hx5
        have ew5 := y5 w4 hS5
        rw [hw5] at ew5
        cases ew5
        obtain ⟨σ3, hg3, hwp3, htx⟩ := hin xs[i][j] B5 _ (g4.b.trans x45) (Rp.mono x45 hr5)
        refine hg3 H' _ G5.e ⟨hwp3, tyes_ok ?_⟩
        rw [if_pos rfl]
        refine htx B5 H' (Ex.refl B5) G5.e _ rfl _ fun v6 B6 H6 g6 h6 => ?_
        have hD6 : H6 D = some (.lst us5) := g6.exH D _ hD5
        have nb6 : B6 D = none := g6.n D (nn hD5) nb5
        have hul := pr_len pr5
        have hfl := flat_le (j := j) hx
        have G6 := G5.trans g6
        refine ⟨us5, hD6, Nat.lt_of_lt_of_le (show us5.length < 1000000 by omega) (by decide), hjt, B6, us5 ++ [v6], ?_, x45.trans g6.b, nb6, upd_same, ?_⟩
        · refine ⟨G6.s, G6.b, fun c o m h => ?_, G6.e.mut nb6, G6.n, fun c h => ?_⟩
          · rw [upd_ne (ne_of_none h nD)]
            exact G6.h c o m h
          · by_cases ec : c = D
            · subst ec
              exact absurd nD h
            · rw [upd_ne ec]
              exact G6.k c h
        · rw [List.take_succ, hx5]
          show Paired (rp K B6) (us5 ++ [v6]) ((xs.take i).flatten ++ (xs[i].take j ++ [xs[i][j]]))
          rw [← List.append_assoc]
          exact pr_app (pr_mono g6.b pr5) (.cons h6 .nil)
      · refine .inl ⟨itl_stop hS5 (by omega), hlt, B5, us5, G5, nb5, hD5, ?_⟩
        rw [flat_take hx]
        rw [show xs[i].take j = xs[i] from List.take_of_length_le (by omega)] at pr5
        exact pr5
  · rw [List.take_of_length_le (by omega)] at pr
    exact .inl ⟨itl_stop hS3 (by omega), q D us B3 H (g2.trans G) (g2.fresh nD) nb hD pr⟩
/-- [f for x in range(lo, hi) if t] -/
theorem co_lcR2 [Rp β] {mi : Option (Int × Int × Unit)} {t : Int → Option Bool} {f : Int → Option β} (hc : Ca K tas σ B mi)
    (hs : ∀ x B1 v, Ex B B1 → rp K B1 v x → ∃ σ2, (∀ H (Q : L2.St → Hp → Prop), Ex B1 H → Q σ2 H → g v (wipe σ vs) H Q) ∧ wipe σ2 vs = wipe σ vs ∧ Ct tt σ2 B1 (t x) ∧ Cp K te σ2 B1 (f x)) :
    Co K (tLc (iRng2 tas) g tt te vs) σ B (mi.bind fun n => (prange2 n.1 n.2.1).bind fun xs => (pbig xs).bind fun xs => lcF t f xs) := fun B1 H1 b e ys em Q q => by
  obtain ⟨n, e1, em⟩ := bd_some em
  obtain ⟨xs, e2, em⟩ := bd_some em
  obtain ⟨hb, e2⟩ := if_some e2
  subst e2
  obtain ⟨xs', e2, em⟩ := bd_some em
  obtain ⟨hl, e2⟩ := if_some e2
  subst e2
  refine hc B1 H1 b e n e1 _ fun ws B2 H2 g2 hv => ?_
  obtain ⟨v1, _, rfl, h1, v2, _, rfl, h2, h3⟩ := hv
  cases h3
  cases (show v1 = .int n.1 from h1)
  cases (show v2 = .int n.2.1 from h2)
  have hn := rangeL_len n.1 n.2.1
  refine ⟨n.1, n.2.1, rfl, ⟨by omega, by omega, by omega, by omega⟩, lc_run (K := K) (xs := rangeL n.1 n.2.1) (B1 := B2) hl (fun i B H x1 x2 hi => (by rw [hn] at hi; exact hi)) (fun i B H x1 x2 hi => (by rw [hn] at hi; exact hi))
    (fun i x B H v H' x1 x2 hxi y => ?_) em g2.e (fun x B H v x1 x2 hv bb tb hex Qy Qn hy hn => ?_) fun D us B3 H3 g3 f n hD pr => q D us B3 H3 (g2.trans g3) (g2.fresh f) n hD pr⟩
  · obtain ⟨eH, ev⟩ := itr_yld _ hxi y
    subst eH
    exact ⟨B, Gr.refl x2, ev⟩
  · obtain ⟨σ2, hg, hw, ht, hf⟩ := hs x B v ((b.trans g2.b).trans x1) hv
    refine hg H _ x2 ⟨hw, ht B H (Ex.refl B) x2 _ tb _ fun B3 H3 g3 => ?_⟩
    cases bb with
    | true =>
      rw [if_pos rfl]
      obtain ⟨y, hfx⟩ := hex rfl
      exact hf B3 H3 g3.b g3.e y hfx _ fun v2 B4 H4 g4 h4 => hy rfl y hfx v2 B4 H4 (g3.trans g4) h4
    | false =>
      rw [if_neg Bool.false_ne_true]
      exact hn rfl B3 H3 g3
/-- for x, y in zip(two lists that are known) -/
theorem st_forF_zip [Rp α] [Rp β] {mi mi' : Option (List α × List β × Unit)} {b : α × β → S → Option (Fl S R)} {s0 : S} {k : Fl S R → Option ρ} {r : ρ} (I : Hp → S → Hp → L2.St → Hp → Prop)
    (hst : ∀ Be s B σ H T u, I Be s B σ H → H T = none → I Be s (upd B T u) σ (upd H T u)) (hm : ((mi'.bind fun x => some (x.1.zip x.2.1)).bind fun xs => (forF b xs s0).bind k) = some r) (e : Ex B H) (hc : Ca K tas σ B mi) (he : mi = mi')
    (hx : ∀ Be s B σ H, I Be s B σ H → Ex Be B ∧ Ex B H) (h0 : ∀ Be H1, Gr noM B H Be H1 → I Be s0 Be σ H1)
    (hs : ∀ Be x s B σ H v c (N : L2.St → Hp → Prop), I Be s B σ H → rp K B v x → b x s = some c → (∀ s2 B2 σ2 H2, c = .nx s2 → I Be s2 B2 σ2 H2 → N σ2 H2) → (∀ s2 B2 σ2 H2, c = .bk s2 → I Be s2 B2 σ2 H2 → D.nx σ2 H2) →
      (∀ r', c = .rt r' → k (.rt r') = some r) → g v σ H fun σ2 H2 => ts { D with nx := N, ct := N, bk := D.nx } σ2 H2)
    (hd : ∀ Be s B σ H, k (.nx s) = some r → I Be s B σ H → D.nx σ H) : tFor (iZip K tas) g ts D σ H := by
  subst he
  obtain ⟨ys, e0, e2⟩ := bd_some hm
  obtain ⟨⟨xs, zs, un⟩, e1, e3⟩ := bd_some e0
  cases e3
  refine hc B H (Ex.refl B) e _ e1 _ fun v Be H1 g1 hv => ?_
  obtain ⟨v1, _, rfl, h1, v2, _, rfl, h2, h3⟩ := hv
  cases h3
  obtain ⟨a1, w1, rfl, hS1, hp1⟩ := h1
  obtain ⟨a2, w2, rfl, hS2, hp2⟩ := h2
  have hl1 : w1.length = xs.length := pr_len hp1
  have hl2 : w2.length = zs.length := pr_len hp2
  have hlz : (xs.zip zs).length = min xs.length zs.length := List.length_zip
  refine ⟨a1, a2, w1, w2, rfl, sq_lst (g1.e _ _ hS1), sq_lst (g1.e _ _ hS2), forF_run (K := K) (xs := xs.zip zs) (B := Be) (I Be) (fun i s B σ H hI hi => ?_) (fun i s B σ H hI hi => ?_) (fun i x s B σ H v H' hI hxi y => ?_) e2 (h0 Be H1 g1) (fun x s B σ H v c N => hs Be x s B σ H v c N) (fun s B σ H => hd Be s B σ H)⟩
  · obtain ⟨x1, x2⟩ := hx _ _ _ _ _ hI
    have hi' : i < (xs.zip zs).length := hi
    rw [hlz] at hi'
    have i1 : i < w1.length := by omega
    have i2 : i < w2.length := by omega
    exact ⟨w1, w2, w1[i], w2[i], sq_lst ((x1.trans x2) _ _ hS1), sq_lst ((x1.trans x2) _ _ hS2), List.getElem?_eq_getElem i1, List.getElem?_eq_getElem i2⟩
  · obtain ⟨x1, x2⟩ := hx _ _ _ _ _ hI
    have hi' : (xs.zip zs).length ≤ i := hi
    rw [hlz] at hi'
    exact ⟨w1, w2, sq_lst ((x1.trans x2) _ _ hS1), sq_lst ((x1.trans x2) _ _ hS2), by omega⟩
  · obtain ⟨x1, x2⟩ := hx _ _ _ _ _ hI
    obtain ⟨T, y1, y2, rfl, nT, rfl, hy1, hy2⟩ := y
    obtain ⟨q1, q2⟩ : xs[i]? = some x.1 ∧ zs[i]? = some x.2 := by
      have := List.getElem?_zip_eq_some.mp (show (xs.zip zs)[i]? = some (x.1, x.2) from hxi)
      exact this
    obtain ⟨u1, hw1, hr1⟩ := pr_get hp1 q1
    obtain ⟨u2, hw2, hr2⟩ := pr_get hp2 q2
    have ew1 := hy1 w1 (sq_lst ((x1.trans x2) _ _ hS1))
    have ew2 := hy2 w2 (sq_lst ((x1.trans x2) _ _ hS2))
    rw [hw1] at ew1
    rw [hw2] at ew2
    cases ew1
    cases ew2
    have xT : Ex Be (upd B T (.tup [y1, y2])) := x1.trans (Ex.new (x2.none nT))
    exact ⟨_, hst _ _ _ _ _ _ (.tup [y1, y2]) hI nT, T, y1, y2, rfl, .inl (.inl upd_same), Rp.mono xT hr1, Rp.mono xT hr2⟩
/-- [x, ..] with effects, a new list -/
theorem cso_lst [Rp α] [OwOk P] {ta : TA} {m : S → Option (List α × S)} (h : Csl K P σ B ta m) : Cso K P (tLst ta) σ B (fun s => (m s).bind fun p => (plst p.1).bind fun z => some (z, p.2)) := fun B1 H1 W s b e w d p xs s' em Q q => by
  obtain ⟨⟨ys, s1⟩, e1, em⟩ := bd_some em
  obtain ⟨z, e2, em⟩ := bd_some em
  cases em
  obtain ⟨hl, e2⟩ := if_some e2
  subst e2
  refine h.run B1 H1 W s b e w d p ys _ e1 _ fun vs B2 H2 W2 sw p2 hp => ⟨?_, fun c np => ?_⟩
  · have := pr_len hp
    have hl : ys.length < 1000000 := hl
    exact Nat.le_trans (show vs.length ≤ 1000000 by omega) (by decide)
  · have n1 : H1 c = none := by
      cases q : H1 c with
      | none => rfl
      | some o => exact absurd np (sw.g.k c (nn q))
    have nW : W2 c = none := by
      cases q : W2 c with
      | none => rfl
      | some o => rw [sw.w c o q] at np; cases np
    have sw2 : Sw W2 B2 H2 W2 B2 (upd H2 c (.lst vs)) := Sw.pure (Gr.newM sw.g.e np) sw.w sw.d
    exact q c vs B2 _ W2 (sw.trans sw2) p2 n1 (sw.g.e.none np) nW upd_same hp
end
end Cf

set_option Elab.async false
set_option linter.all false
set_option maxRecDepth 100000
set_option maxHeartbeats 4000000
namespace Cf
open PySem L2
open Rp (rp)
open RpL (rpl)
open Enc (enc)
/-! ### sets of whole numbers, one's own -/
def OwUI (P : Program) (w : World) (a : Addr) : Ow (List Int) := fun W B xs => ∃ (S : Key → Bool) (n : Nat), W = sing a (SetK P w a S n) ∧ (∀ i : Int, S (.inl i) = decide (i ∈ xs)) ∧ n ≤ xs.length
instance {P : Program} {w : World} {a : Addr} : OwOk (OwUI P w a) := ⟨fun e h => h, fun {W B s b o} ⟨S, n, h, _, _⟩ e => by
  subst h
  have := sing_dom (nn e)
  subst this
  rw [sing_at] at e
  cases e
  rfl⟩
section
variable {K : Fg} {Pg : Program} {w : World} {M : Ms} {Bs Hs W : Hp} {σ : L2.St} {B H B' H' : Hp} {te ta tb : TE} {α β ρ S S' : Type} {P : Ow S} {s : S} {D : Ends}
theorem cs_iuin {a : Addr} {get : S → List Int} {put : S → List Int → S} {i : Nat} {m : S → Option (Int × S)} (l : Ln P (OwUI Pg w a) get put) (hs : σ[i]? = some (some (.ref a))) (hc : Cs K P ta σ B m) :
    Cs K P (tOp (rSInK Pg w false) ta (tVar i)) σ B (fun s => (m s).bind fun p => some (umem p.1 (get p.2), p.2)) := fun B1 H1 W s b e wx d p z s' em Q q => by
  obtain ⟨⟨x, s1⟩, e1, em⟩ := bd_some em
  cases em
  refine hc B1 H1 W s b e wx d p x _ e1 _ fun v B2 H2 W2 sw p2 hv => ⟨.ref a, hs, ?_⟩
  obtain ⟨V1, V2, hV, dV, ⟨T, n, h1, h2, h3⟩, _⟩ := l.open_ W2 B2 _ p2
  subst hV h1
  cases (show v = .int x from hv)
  refine ⟨.inl x, a, T, n, rfl, rfl, sw.w a _ (uni_l sing_at), q _ B2 H2 _ sw p2 ?_⟩
  show V.bl _ = V.bl _
  rw [if_neg (by decide), h2]
  rfl
theorem cs_iunin {a : Addr} {get : S → List Int} {put : S → List Int → S} {i : Nat} {m : S → Option (Int × S)} (l : Ln P (OwUI Pg w a) get put) (hs : σ[i]? = some (some (.ref a))) (hc : Cs K P ta σ B m) :
    Cs K P (tOp (rSInK Pg w true) ta (tVar i)) σ B (fun s => (m s).bind fun p => some (!umem p.1 (get p.2), p.2)) := fun B1 H1 W s b e wx d p z s' em Q q => by
  obtain ⟨⟨x, s1⟩, e1, em⟩ := bd_some em
  cases em
  refine hc B1 H1 W s b e wx d p x _ e1 _ fun v B2 H2 W2 sw p2 hv => ⟨.ref a, hs, ?_⟩
  obtain ⟨V1, V2, hV, dV, ⟨T, n, h1, h2, h3⟩, _⟩ := l.open_ W2 B2 _ p2
  subst hV h1
  cases (show v = .int x from hv)
  refine ⟨.inl x, a, T, n, rfl, rfl, sw.w a _ (uni_l sing_at), q _ B2 H2 _ sw p2 ?_⟩
  show V.bl _ = V.bl _
  rw [if_pos rfl, h2]
  rfl
theorem cs_iuadd {a : Addr} {get : S → List Int} {put : S → List Int → S} {i : Nat} {m : S → Option (Int × S)} (l : Ln P (OwUI Pg w a) get put) (hs : σ[i]? = some (some (.ref a))) (hc : Cs K P te σ B m) :
    Cs K P (tSAddK Pg w (tVar i) (tCons te tNil)) σ B (fun s => (m s).bind fun p => (padd (get p.2) p.1).bind fun q => some ((), put p.2 q)) := fun B1 H1 W s b e wx d p z s' em Q q => by
  obtain ⟨⟨x, s1⟩, e1, em⟩ := bd_some em
  obtain ⟨ys, e2, em⟩ := bd_some em
  cases em
  obtain ⟨hl, e2⟩ := if_some e2
  refine ⟨.ref a, hs, ?_, ?_⟩
  · obtain ⟨V1, V2, hV, dV, ⟨T, n, h1, h2, h3⟩, _⟩ := l.open_ W B1 _ p
    subst hV h1
    exact ⟨a, T, n, rfl, wx a _ (uni_l sing_at)⟩
  refine hc B1 H1 W s b e wx d p x _ e1 _ fun v B2 H2 W2 sw p2 hv => ?_
  obtain ⟨V1, V2, hV, dV, ⟨T, n, h1, h2, h3⟩, back⟩ := l.open_ W2 B2 _ p2
  subst hV h1
  cases (show v = .int x from hv)
  have hl : (get s1).length < 75 := hl
  refine ⟨a, .inl x, T, n, rfl, rfl, sw.w a _ (uni_l sing_at), Nat.lt_of_lt_of_le (show n + 1 < 77 by omega) (by decide), ?_⟩
  have hd : uni (sing a (SetK Pg w a T n)) V2 a ≠ none := nn (uni_l sing_at)
  have y := sw_upd (o := SetK Pg w a (fun j => T j || decide (j = .inl x)) (if T (.inl x) = true then n else n + 1)) sw.g.e sw.w sw.d hd
  rw [upd_uni (V1 := emp)] at y
  have dj : Dj (sing a (SetK Pg w a (fun j => T j || decide (j = .inl x)) (if T (.inl x) = true then n else n + 1))) V2 := fun b h => dV b (by rw [sing_dom h]; exact nn sing_at)
  refine q .non B2 _ _ (sw.trans y) (back _ B2 _ (Ex.refl B2) dj ⟨_, _, rfl, fun j => ?_, ?_⟩) rfl
  · rw [← e2, h2]
    have ej : decide ((Sum.inl j : Key) = .inl x) = decide (j = x) := decide_eq_decide.mpr ⟨fun h => Sum.inl.inj h, fun h => by rw [h]⟩
    rw [ej]
    by_cases hx : x ∈ get s1
    · rw [if_pos hx]
      by_cases hj : j = x
      · subst hj
        rw [decide_eq_true hx]
        rfl
      · rw [decide_eq_false hj, Bool.or_false]
    · rw [if_neg hx, Bool.eq_iff_iff, Bool.or_eq_true, decide_eq_true_eq, decide_eq_true_eq, decide_eq_true_eq, List.mem_append, List.mem_singleton]
  · rw [← e2, h2]
    by_cases hx : x ∈ get s1
    · rw [if_pos hx, if_pos (decide_eq_true hx)]
      exact h3
    · rw [if_neg hx, if_neg (by simpa using hx)]
      show n + 1 ≤ (get s1 ++ [x]).length
      rw [List.length_append, List.length_singleton]
      omega
/-- seen = set() -/
theorem st_mkUI [OwOk P] {k : List Int × S → Option ρ} {r : ρ} {i : Nat} (hm : (some (([] : List Int), s)).bind k = some r) (N : Now M Bs Hs P W B H s)
    (q : ∀ p W1 H1, k ([], s) = some r → Now M Bs Hs (star P (OwUI Pg w p)) W1 B H1 (s, []) → Hs p = none → D.nx (σ.set i (some (.ref p))) H1) : tAsg (tCB (rSet0K Pg w) tNil) (gName i) D σ H := by
  refine ⟨rfl, fun p np => ?_⟩
  have fp : Hs p = none := N.g.fresh np
  have nW : W p = none := by
    cases hh : W p with
    | none => rfl
    | some o =>
      rw [N.w p o hh] at np
      cases np
  obtain ⟨Z, eZ⟩ : ∃ Z, Z = SetK Pg w p (fun _ => false) 0 := ⟨_, rfl⟩
  rw [← eZ]
  have sw : Sw W B H (uni W (sing p Z)) B (upd H p Z) := ((Sw.refl N.ex N.w N.d).trans (Sw.pure (Gr.newM N.ex np) N.w N.d)).one np (N.ex.none np) upd_same nW
  have dj : Dj W (sing p Z) := fun a h => by
    by_cases ea : a = p
    · subst ea
      exact absurd nW h
    · exact sing_ne ea
  exact q p _ _ hm (N.step sw ⟨W, _, rfl, dj, N.p, ⟨_, 0, by rw [eZ], fun i => rfl, Nat.le_refl _⟩⟩) fp
end
end Cf

set_option Elab.async false
set_option linter.all false
set_option maxRecDepth 100000
set_option maxHeartbeats 4000000
namespace Cf
open PySem L2
open Rp (rp)
open RpL (rpl)
open Enc (enc)
section
variable {K : Fg} {σ : L2.St} {B H : Hp} {te : TE} {ts : List TE}
/-! ### f-strings of texts and whole numbers -/
def pfmtS (x : Str) : Option Str := if x.length ≤ sizeLine then some x else none
def pjs : Str → List Str → Option Str
  | acc, [] => some acc
  | acc, y :: ys => if (acc ++ y).length ≤ sizeLine then pjs (acc ++ y) ys else none
inductive Jp (K : Fg) (σ : L2.St) (B : Hp) : List TE → Option (List Str) → Prop where
  | nil : Jp K σ B [] (some [])
  | cons {t : TE} {m : Option Str} {ts : List TE} {ms : Option (List Str)} (h : Cp K t σ B m) (r : Jp K σ B ts ms) : Jp K σ B (t :: ts) (o2 m ms fun x y => some (x :: y))
theorem if_some' {α : Type} {c : Prop} [Decidable c] {m : Option α} {z : α} (h : (if c then m else none) = some z) : c ∧ m = some z := by
  by_cases hc : c
  · rw [if_pos hc] at h
    exact ⟨hc, h⟩
  · rw [if_neg hc] at h
    cases h
theorem jp_run {ms : Option (List Str)} (h : Jp K σ B ts ms) : ∀ (B1 H1 : Hp), Ex B B1 → Ex B1 H1 → ∀ (acc : Str) (ys : List Str) (z : Str), ms = some ys → pjs acc ys = some z → ∀ Q : Str → Hp → Prop, (∀ B2 H2, Gr noM B1 H1 B2 H2 → Q z H2) → tJs ts acc σ H1 Q := by
  induction h with
  | nil =>
    intro B1 H1 b e acc ys z em ez Q q
    cases em
    cases ez
    exact q B1 H1 (Gr.refl e)
  | cons h r ih =>
    intro B1 H1 b e acc ys z em ez Q q
    obtain ⟨x, ys', e1, e2, e3⟩ := o2_some em
    cases e3
    refine h B1 H1 b e x e1 _ fun v B2 H2 g2 hv => ?_
    obtain ⟨hl, ez⟩ := if_some' ez
    exact ⟨x, hv, hl, ih B2 H2 (b.trans g2.b) g2.e (acc ++ x) ys' z e2 ez Q fun B3 H3 g3 => q B3 H3 (g2.trans g3)⟩
theorem cp_joined {ms : Option (List Str)} (h : Jp K σ B ts ms) : Cp K (fun σ H Q => tJs ts Str.empty σ H fun out H1 => Q (.str out) H1) σ B (ms.bind (pjs Str.empty)) := fun B1 H1 b e z em Q q => by
  obtain ⟨ys, e1, e2⟩ := bd_some em
  exact jp_run h B1 H1 b e Str.empty ys z e1 e2 _ fun B2 H2 g2 => q (.str z) B2 H2 g2 rfl
theorem cp_fmtI {m : Option Int} (h : Cp K te σ B m) : Cp K (tFmt te) σ B (m.bind preprI) := fun B1 H1 b e z em Q q => by
  obtain ⟨i, e1, e2⟩ := bd_some em
  obtain ⟨hl, e2⟩ := if_some e2
  cases e2
  refine h B1 H1 b e i e1 _ fun v B2 H2 g2 hv => ?_
  cases (show v = .int i from hv)
  exact .inr ⟨i, rfl, hl, q _ B2 H2 g2 rfl⟩
theorem cp_fmtS {m : Option Str} (h : Cp K te σ B m) : Cp K (tFmt te) σ B (m.bind pfmtS) := fun B1 H1 b e z em Q q => by
  obtain ⟨x, e1, e2⟩ := bd_some em
  obtain ⟨hl, e2⟩ := if_some e2
  subst e2
  refine h B1 H1 b e x e1 _ fun v B2 H2 g2 hv => ?_
  cases (show v = .str x from hv)
  exact .inl ⟨x, rfl, hl, q _ B2 H2 g2 rfl⟩
end
end Cf

set_option Elab.async false
set_option linter.all false
set_option maxRecDepth 100000
set_option maxHeartbeats 4000000
namespace Cf
open PySem L2
open Rp (rp)
open RpL (rpl)
open Enc (enc)
/-! ### lists of one's own that a def with a table hands back, alone or first in a pair -/
def RT2 {β S : Type} [Rp β] (K : Fg) (Pb : Addr → Ow S) : V → Ow (S × β) := fun v W B x => ∃ p, rp K B v ((At.mk p, x.2) : At × β) ∧ Pb p W B x.1
section
variable {K : Fg} {M : Ms} {Bs Hs W W' : Hp} {σ : L2.St} {B H B' H' : Hp} {te ta tb tc : TE} {tas : TA} {α β γ δ τ τ' ρ S S' S1 S2 Z : Type} {P : Ow S} {P' : Ow S'} {s : S} {D : Ends} {p : Addr} {o : HO}
theorem Now.t2 [Rp β] {Pb : Addr → Ow S'} {v : V} {x : S × (S' × β)} (N : Now M Bs Hs (star P (RT2 K Pb v)) W B H x) : ∃ p, rp K B v ((At.mk p, x.2.2) : At × β) ∧ Now M Bs Hs (star P (Pb p)) W B H (x.1, x.2.1) := by
  obtain ⟨W1, W2, h, d, p1, p, hv, p2⟩ := N.p
  exact ⟨p, hv, N.g, N.w, N.d, ⟨W1, W2, h, d, p1, p2⟩, N.f⟩
/-- return (what stands at a place, x) -/
theorem st_retT2 [Rp β] {T p : Addr} {Pb : Addr → Ow S} [OwOk (Pb p)] {W0 : Hp} {m1 : Unit × S → Option (β × (Unit × S))} {s : Unit × S} {m' : Option (S × β)} {k : S × β → Option ρ} {r : ρ} {i : Nat} (hm : m'.bind k = some r) (N : Now (dom W0) Bs Hs (star (OwTab T) (Pb p)) W B H s) (hs : σ[i]? = some (some (.ref p))) (h1 : Cs K (star (OwTab T) (Pb p)) te σ B m1)
    (he : ((m1 s).bind fun b => some (b.2.2, b.1)) = m')
    (q : ∀ x v W1 V1 B1 H1, k x = some r → Sw W0 Bs Hs (uni W1 V1) B1 H1 → Dj W1 V1 → OwTab T W1 B1 () → RT2 K Pb v V1 B1 x → D.rt v H1) : tRet (tTup (tCons (tVar i) (tCons te tNil))) D σ H := by
  subst he
  obtain ⟨z, e0, e2⟩ := bd_some hm
  obtain ⟨⟨y, s2⟩, e1, e0⟩ := bd_some e0
  cases e0
  refine ⟨.ref p, hs, ?_⟩
  refine h1 B H W s (Ex.refl B) N.ex N.w N.d N.p y s2 e1 _ fun v2 B2 H2 W2 sw2 p2 hv2 => ?_
  refine ⟨by show 2 ≤ sizeLine; decide, fun a na => ?_⟩
  have N2 := N.step sw2 p2
  have g3 : Gr noM B2 H2 (upd B2 a (.tup [.ref p, v2])) (upd H2 a (.tup [.ref p, v2])) := Gr.new N2.ex na
  have N3 := N2.pure g3
  obtain ⟨V1, V2, hV, dV, q1, q2⟩ := N3.p
  subst hV
  exact q _ (.ref a) V1 V2 _ _ e2 N3.sw dV q1 ⟨p, ⟨a, .ref p, v2, rfl, .inl (.inl upd_same), rfl, Rp.mono g3.b hv2⟩, q2⟩
theorem st_retT2' [Rp β] {T p : Addr} {Pb : Addr → Ow S} [OwOk (Pb p)] {W0 : Hp} {m1 : Unit × S → Option (β × (Unit × S))} {s : Unit × S} {m' : Option (S × β)} {r : S × β} {i : Nat} (hm : m' = some r) (N : Now (dom W0) Bs Hs (star (OwTab T) (Pb p)) W B H s) (hs : σ[i]? = some (some (.ref p))) (h1 : Cs K (star (OwTab T) (Pb p)) te σ B m1)
    (he : ((m1 s).bind fun b => some (b.2.2, b.1)) = m')
    (q : ∀ v W1 V1 B1 H1, Sw W0 Bs Hs (uni W1 V1) B1 H1 → Dj W1 V1 → OwTab T W1 B1 () → RT2 K Pb v V1 B1 r → D.rt v H1) : tRet (tTup (tCons (tVar i) (tCons te tNil))) D σ H :=
  st_retT2 (k := some) (r := r) (by rw [hm]; rfl) N hs h1 he fun x v W1 V1 B1 H1 hk => by
    cases hk
    exact q v W1 V1 B1 H1
/-- return what stands at a place -/
theorem st_retRef {T p : Addr} {Pb : Addr → Ow S} {W0 : Hp} {s : Unit × S} {m' : Option S} {r : S} {i : Nat} (hm : m' = some r) (N : Now (dom W0) Bs Hs (star (OwTab T) (Pb p)) W B H s) (hs : σ[i]? = some (some (.ref p))) (he : some s.2 = m')
    (q : ∀ v W1 V1 B1 H1, Sw W0 Bs Hs (uni W1 V1) B1 H1 → Dj W1 V1 → OwTab T W1 B1 () → RefR Pb v V1 B1 r → D.rt v H1) : tRet (tVar i) D σ H := by
  subst he
  cases hm
  obtain ⟨V1, V2, hV, dV, q1, q2⟩ := N.p
  refine ⟨.ref p, hs, ?_⟩
  have sw := N.sw
  rw [hV] at sw
  exact q (.ref p) V1 V2 B H sw dV q1 ⟨p, rfl, q2⟩
theorem Sw.freeze (x : Sw W B H W' B' H') (hp : H' p = some o) (fp : H p = none) (nb : B' p = none) (nw : W' p = none) : Sw W B H W' (upd B' p o) H' :=
  ⟨x.g.freeze hp fp nb, x.w, fun a h => by
    have : a ≠ p := fun z => by
      subst z
      exact h nw
    rw [upd_ne this]
    exact x.d a h, x.f⟩
/-- f(..) within an expression, its answer a new list that becomes known -/
theorem cs_callTRz [Rp α] [OwOk P] [RpL τ] {T : Addr} {get : S → Unit} {put : S → Unit → S} {f : τ → Option (List α)} {m : S → Option (τ × S)} {E : XK} (l : Ln P (OwTab T) get put) (hu : ∀ s x, put s x = s) (ha : Csa K P tas σ B m) :
    Cs K P (tCall (spTR K T (RefR (OwL (α := α) K)) f) [] E tas) σ B (fun s => (m s).bind fun p => (f p.1).bind fun z => some (z, p.2)) := fun B1 H1 W s b e w d p z s' em Q q => by
  obtain ⟨⟨x, s1⟩, e1, em⟩ := bd_some em
  obtain ⟨z', e3, em⟩ := bd_some em
  cases em
  refine ha B1 H1 W s b e w d p x _ e1 _ fun vs B2 H2 W2 sw p2 hv => ?_
  obtain ⟨V1, V2, hV, dV, pV, back⟩ := l.open_ W2 B2 _ p2
  subst hV
  have w1 : Ex V1 H2 := fun a o h => sw.w a o (uni_l h)
  have w2 : Ex V2 H2 := fun a o h => sw.w a o (by rw [uni_r (dV.symm a (nn h))]; exact h)
  refine ⟨V1, B2, x, z, sw.g.e, w1, dj_l sw.d, pV, (by rw [List.append_nil]; exact hv), e3, fun v V1' Vr B3 H3 sw3 dr p3 hr => ?_⟩
  obtain ⟨pl, rfl, us, hVr, pr⟩ := hr
  subst hVr
  obtain ⟨sw4, dj⟩ := sw3.beside w2 dV (dj_r dV sw.d)
  have dj1 : Dj V1' V2 := fun a h => dj a (uni_dom_l h)
  have inr : uni V1' (sing pl (.lst us)) pl ≠ none := uni_dom_r dr (nn sing_at)
  have nV2 : V2 pl = none := dj pl inr
  have nV1' : V1' pl = none := dr.symm pl (nn sing_at)
  have nV1 : V1 pl = none := by
    obtain ⟨ps, h1, _⟩ := pV
    obtain ⟨ps', h1', _⟩ := p3
    rw [h1]
    rw [h1'] at nV1'
    by_cases eT : pl = T
    · subst eT
      rw [sing_at] at nV1'
      cases nV1'
    · exact sing_ne eT
  have fH2 : H2 pl = none := by
    rcases sw4.f pl (uni_dom_l inr) with h | h
    · exact absurd (show uni V1 V2 pl = none by rw [uni_r nV1]; exact nV2) h
    · exact h
  have fH1 : H1 pl = none := by
    cases q : H1 pl with
    | none => rfl
    | some o => exact absurd fH2 (sw.g.k pl (nn q))
  have hp3 : H3 pl = some (.lst us) := sw3.w pl _ (by rw [uni_r nV1']; exact sing_at)
  have nb3 : B3 pl = none := sw3.d pl inr
  have swL : Sw W B1 H1 (uni V1' V2) B3 H3 := (sw.trans sw4).less fun a o h => by
    cases q : V1' a with
    | some o' =>
      rw [uni_l q] at h
      cases h
      exact uni_l (uni_l q)
    | none =>
      rw [uni_r q] at h
      have : uni V1' (sing pl (.lst us)) a = none := by
        cases q2 : uni V1' (sing pl (.lst us)) a with
        | none => rfl
        | some o2 => exact absurd (dj a (nn q2)) (by rw [h]; simp)
      rw [uni_r this]
      exact h
  have nW : uni V1' V2 pl = none := by rw [uni_r nV1']; exact nV2
  have swF := swL.freeze hp3 fH1 nb3 nW
  have pb2 := back V1' B3 () sw3.g.b dj1 p3
  rw [hu] at pb2
  exact q (.ref pl) _ _ _ swF (OwOk.mono (Ex.new nb3) pb2) ⟨pl, us, rfl, upd_same, pr_mono (Ex.new nb3) pr⟩
/-- a, b = f(..), where the answer is a pair whose first is one's own -/
theorem st_callTRt2 [OwOk P] [RpL τ] [Rp β] {T : Addr} {get : S → Unit} {put : S → Unit → S} {Pb : Addr → Ow S2} {f : τ → Option (S2 × β)} {m : S → Option (τ × S)} {m' : Option ((S2 × β) × S)} {k : (S2 × β) × S → Option ρ} {r : ρ} {i j : Nat} {E : XK} (l : Ln P (OwTab T) get put) (hu : ∀ s x, put s x = s)
    (hm : m'.bind k = some r) (N : Now M Bs Hs P W B H s) (ha : Csa K P tas σ B m) (he : ((m s).bind fun p => (f p.1).bind fun z => some (z, p.2)) = m')
    (q : ∀ x s1 p v2 W1 B1 H1, k (x, s1) = some r → Now M Bs Hs (star P (Pb p)) W1 B1 H1 (s1, x.1) → Ex B B1 → rp K B1 v2 x.2 → D.nx ((σ.set i (some (.ref p))).set j (some v2)) H1) : tAsg (tCall (spTR K T (RT2 K Pb) f) [] E tas) (gTup K 2 (gCons (gName i) (gCons (gName j) gNil))) D σ H := by
  subst he
  obtain ⟨⟨z0, s0⟩, e0, e2⟩ := bd_some hm
  obtain ⟨⟨x, s1⟩, e1, e0⟩ := bd_some e0
  obtain ⟨z, e3, e0⟩ := bd_some e0
  obtain ⟨rfl, rfl⟩ : z = z0 ∧ s1 = s0 := by
    cases e0
    exact ⟨rfl, rfl⟩
  refine ha B H W s (Ex.refl B) N.ex N.w N.d N.p x s1 e1 _ fun vs B2 H2 W2 sw p2 hv => ?_
  have N1 := N.step sw p2
  obtain ⟨V1, V2, hV, dV, pV, back⟩ := l.open_ W2 B2 s1 p2
  subst hV
  have w1 : Ex V1 H2 := fun a o h => sw.w a o (uni_l h)
  have w2 : Ex V2 H2 := fun a o h => sw.w a o (by rw [uni_r (dV.symm a (nn h))]; exact h)
  refine ⟨V1, B2, x, z, sw.g.e, w1, dj_l sw.d, pV, (by rw [List.append_nil]; exact hv), e3, fun v V1' Vr B3 H3 sw3 dr p3 hr => ?_⟩
  obtain ⟨sw4, dj⟩ := sw3.beside w2 dV (dj_r dV sw.d)
  have dj1 : Dj V1' V2 := fun a h => dj a (uni_dom_l h)
  have djr : Dj Vr V2 := fun a h => dj a (uni_dom_r dr h)
  have pb2 := back V1' B3 () sw3.g.b dj1 p3
  rw [hu] at pb2
  have e5 : uni (uni V1' Vr) V2 = uni (uni V1' V2) Vr := by
    rw [uni_assoc, uni_comm djr, ← uni_assoc]
  rw [e5] at sw4
  have d5 : Dj (uni V1' V2) Vr := dj_uni dr djr.symm
  obtain ⟨pl, hp, hP⟩ := hr
  have N2 : Now M Bs Hs (star P (Pb pl)) (uni (uni V1' V2) Vr) B3 H3 (s1, z.1) := N1.step sw4 ⟨_, _, rfl, d5, pb2, hP⟩
  refine gtup2 hp N2.ex fun u w hu1 hw => ?_
  cases (show u = .ref pl from hu1)
  exact q z s1 pl w _ B3 H3 e2 N2 (sw.g.b.trans sw3.g.b) hw
/-- t.m(x), where x has effects -/
theorem cs_m1 [Rp β] [Rp γ] [OwOk P] {r : V → List V → Hp → VK → Prop} {f : Str → β → Option γ} {m1 : S → Option (Str × S)} {m2 : S → Option (β × S)} (hr : R2p K (fun x y => r x [y]) f) (ha : Cs K P ta σ B m1) (hb : Cs K P tb σ B m2) : Cs K P (tM1 r ta tb) σ B (fun s => (m1 s).bind fun p => (m2 p.2).bind fun q => (f p.1 q.1).bind fun z => some (z, q.2)) := fun B1 H1 W s b e w d p z s' em Q q => by
  obtain ⟨⟨x, s1⟩, e1, em⟩ := bd_some em
  obtain ⟨⟨y, s2⟩, e2, em⟩ := bd_some em
  obtain ⟨z', e3, em⟩ := bd_some em
  cases em
  refine ha B1 H1 W s b e w d p x s1 e1 _ fun v B2 H2 W2 sw2 p2 hv => ⟨⟨x, hv⟩, ?_⟩
  refine hb B2 H2 W2 s1 (b.trans sw2.g.b) sw2.g.e sw2.w sw2.d p2 y s2 e2 _ fun u B3 H3 W3 sw3 p3 hu => ?_
  exact hr B3 H3 x y z v u sw3.g.e (Rp.mono sw3.g.b hv) hu e3 Q fun w B4 H4 g4 hw => q w B4 H4 W3 ((sw2.trans sw3).trans (Sw.pure g4 sw3.w sw3.d)) (OwOk.mono g4.b p3) hw
end
end Cf

set_option Elab.async false
set_option linter.all false
set_option maxRecDepth 100000
set_option maxHeartbeats 4000000
namespace Cf
open PySem L2
/-! ### what a mirror gives -/
def Ok {α : Type} (m : Option α) (Q : α → Prop) : Prop := ∃ x, m = some x ∧ Q x
section
variable {α β γ S R : Type}
theorem Ok.mono {m : Option α} {Q Q' : α → Prop} (h : Ok m Q) (i : ∀ x, Q x → Q' x) : Ok m Q' := by
  obtain ⟨x, e, q⟩ := h
  exact ⟨x, e, i x q⟩
theorem ok_some {x : α} {Q : α → Prop} : Ok (some x) Q ↔ Q x := ⟨fun ⟨y, e, q⟩ => by cases e; exact q, fun q => ⟨x, rfl, q⟩⟩
theorem ok_bind {m : Option α} {f : α → Option β} {Q : β → Prop} : Ok (Option.bind m f) Q ↔ Ok m fun x => Ok (f x) Q := by
  constructor
  · rintro ⟨y, e, q⟩
    obtain ⟨x, e1, e2⟩ := bd_some e
    exact ⟨x, e1, y, e2, q⟩
  · rintro ⟨x, e1, y, e2, q⟩
    exact ⟨y, by rw [e1]; exact e2, q⟩
theorem ok_if {b : Bool} {m m' : Option α} {Q : α → Prop} : Ok (if b = true then m else m') Q ↔ (b = true → Ok m Q) ∧ (b = false → Ok m' Q) := by
  cases b with
  | true => exact ⟨fun h => ⟨fun _ => h, fun z => nomatch z⟩, fun h => h.1 rfl⟩
  | false => exact ⟨fun h => ⟨(fun z => nomatch z), fun _ => h⟩, fun h => h.2 rfl⟩
theorem Ok.eq {m : Option α} {x : α} (h : Ok m fun y => y = x) : m = some x := by
  obtain ⟨y, e, q⟩ := h
  rw [e, q]
theorem ok_eq {m : Option α} {x : α} {Q : α → Prop} (h : m = some x) : Ok m Q ↔ Q x := by rw [h]; exact ok_some
theorem ok_eq_bind {m : Option α} {x : α} {f : α → Option β} {Q : β → Prop} (h : m = some x) : Ok (Option.bind m f) Q ↔ Ok (f x) Q := by rw [h]; exact Iff.rfl
theorem ok_papp {xs : List α} {x : α} {Q : List α → Prop} (h : xs.length < 1000000) : Ok (papp xs x) Q ↔ Q (xs ++ [x]) := ok_eq (if_pos h)
theorem ok_plst {xs : List α} {Q : List α → Prop} (h : xs.length < 1000000) : Ok (plst xs) Q ↔ Q xs := ok_eq (if_pos h)
theorem ok_pbig {xs : List α} {Q : List α → Prop} (h : xs.length < 1000000) : Ok (pbig xs) Q ↔ Q xs := ok_eq (if_pos h)
theorem ok_padd [DecidableEq α] {xs : List α} {x : α} {Q : List α → Prop} (h : xs.length < 75) : Ok (padd xs x) Q ↔ Q (if x ∈ xs then xs else xs ++ [x]) := ok_eq (if_pos h)
theorem ok_prange1 {n : Int} {Q : List Int → Prop} (h : n.natAbs < 1000000) : Ok (prange1 n) Q ↔ Q (rangeL 0 n) := ok_eq (if_pos (by omega))
theorem ok_prange2 {a b : Int} {Q : List Int → Prop} (h : a.natAbs < 1000000) (h' : b.natAbs < 1000000) : Ok (prange2 a b) Q ↔ Q (rangeL a b) := ok_eq (if_pos (by omega))
theorem ok_pdput {xs : List (Int × α)} {k : Int} {x : α} {Q : List (Int × α) → Prop} (h : xs.length < 1000000) : Ok (pdput xs k x) Q ↔ Q (dput xs k x) := ok_eq (if_pos h)
theorem ok_at {xs : List α} {i : Nat} {x : α} {Q : α → Prop} (h : xs[i]? = some x) : Ok (at? xs (i : Int)) Q ↔ Q x := ok_eq (by unfold at?; rw [if_pos (by omega), Int.toNat_natCast]; exact h)
theorem at_last {xs : List α} : at? xs (-(1 : Int)) = xs[xs.length - 1]? := by
  unfold at?
  rw [if_neg (by omega)]
  cases xs with
  | nil => rfl
  | cons a r =>
    rw [if_pos (by simp only [List.length_cons]; omega)]
    congr 1
    simp only [List.length_cons]
    omega
theorem at_nn {xs : List α} {i : Nat} : at? xs (i : Int) = xs[i]? := by
  unfold at?
  rw [if_pos (by omega), Int.toNat_natCast]
/-! loops -/
theorem ok_forN {b : α → S → Option S} {Q : S → Prop} (I : Nat → S → Prop) : ∀ (xs : List α) (k : Nat) (s : S), I k s → (∀ i x s, xs[i]? = some x → I (k + i) s → Ok (b x s) (I (k + i + 1))) → (∀ s, I (k + xs.length) s → Q s) → Ok (forN b xs s) Q
  | [], k, s, h0, _, hq => ⟨s, rfl, hq s h0⟩
  | x :: xs, k, s, h0, hs, hq => by
    show Ok ((b x s).bind fun s' => forN b xs s') Q
    rw [ok_bind]
    refine (hs 0 x s rfl h0).mono fun s' h' => ok_forN I xs (k + 1) s' h' (fun i y s hy hI => ?_) fun s hI => hq s (by rw [List.length_cons]; rw [show k + (xs.length + 1) = k + 1 + xs.length by omega]; exact hI)
    have := hs (i + 1) y s hy (by rw [show k + (i + 1) = k + 1 + i by omega]; exact hI)
    rw [show k + 1 + i + 1 = k + (i + 1) + 1 by omega]
    exact this
theorem ok_forN0 {b : α → S → Option S} {Q : S → Prop} (I : Nat → S → Prop) {xs : List α} {s : S} (h0 : I 0 s) (hs : ∀ i x s, xs[i]? = some x → I i s → Ok (b x s) (I (i + 1))) (hq : ∀ s, I xs.length s → Q s) : Ok (forN b xs s) Q :=
  ok_forN I xs 0 s h0 (fun i x s hx hI => by rw [Nat.zero_add] at hI ⊢; exact hs i x s hx hI) fun s hI => hq s (by rw [Nat.zero_add] at hI; exact hI)
/-- the same over all items, without a count -/
theorem ok_forNall {b : α → S → Option S} {Q : S → Prop} (I : S → Prop) {xs : List α} {s : S} (h0 : I s) (hs : ∀ x ∈ xs, ∀ s, I s → Ok (b x s) I) (hq : ∀ s, I s → Q s) : Ok (forN b xs s) Q :=
  ok_forN0 (fun _ s => I s) h0 (fun i x s hx hI => hs x (List.mem_of_getElem? hx) s hI) hq
theorem rng_get {n i : Nat} {x : Int} (h : (rangeL 0 (n : Int))[i]? = some x) : x = (i : Int) ∧ i < n := by
  have h1 := (List.getElem?_eq_some_iff.mp h).1
  have h2 := rangeL_len 0 (n : Int)
  have := rangeL_get h
  omega
theorem rng_len (n : Nat) : (rangeL 0 (n : Int)).length = n := by rw [rangeL_len]; omega
/-- over range(n) -/
theorem ok_forNr {b : Int → S → Option S} {Q : S → Prop} (I : Nat → S → Prop) {n : Nat} {s : S} (h0 : I 0 s) (hs : ∀ (i : Nat) s, i < n → I i s → Ok (b (i : Int) s) (I (i + 1))) (hq : ∀ s, I n s → Q s) : Ok (forN b (rangeL 0 (n : Int)) s) Q :=
  ok_forN0 I h0 (fun i x s hx hI => by obtain ⟨rfl, h⟩ := rng_get hx; exact hs i s h hI) fun s hI => hq s (by rw [rng_len] at hI; exact hI)
theorem ok_forF {b : α → S → Option (Fl S R)} {Q : Fl S R → Prop} (I : Nat → S → Prop) : ∀ (xs : List α) (k : Nat) (s : S), I k s →
    (∀ i x s, xs[i]? = some x → I (k + i) s → Ok (b x s) fun c => match c with | .nx s' => I (k + i + 1) s' | .bk s' => Q (.nx s') | .rt r => Q (.rt r)) → (∀ s, I (k + xs.length) s → Q (.nx s)) → Ok (forF b xs s) Q
  | [], k, s, h0, _, hq => ⟨.nx s, rfl, hq s h0⟩
  | x :: xs, k, s, h0, hs, hq => by
    show Ok ((b x s).bind fun c => match c with
      | .nx s' => forF b xs s'
      | .bk s' => some (.nx s')
      | .rt r => some (.rt r)) Q
    rw [ok_bind]
    refine (hs 0 x s rfl h0).mono fun c h' => ?_
    cases c with
    | nx s' =>
      refine ok_forF I xs (k + 1) s' h' (fun i y s hy hI => ?_) fun s hI => hq s (by rw [List.length_cons]; rw [show k + (xs.length + 1) = k + 1 + xs.length by omega]; exact hI)
      have := hs (i + 1) y s hy (by rw [show k + (i + 1) = k + 1 + i by omega]; exact hI)
      rw [show k + 1 + i + 1 = k + (i + 1) + 1 by omega]
      exact this
    | bk s' => exact ok_some.mpr h'
    | rt r => exact ok_some.mpr h'
theorem ok_forF0 {b : α → S → Option (Fl S R)} {Q : Fl S R → Prop} (I : Nat → S → Prop) {xs : List α} {s : S} (h0 : I 0 s)
    (hs : ∀ i x s, xs[i]? = some x → I i s → Ok (b x s) fun c => match c with | .nx s' => I (i + 1) s' | .bk s' => Q (.nx s') | .rt r => Q (.rt r)) (hq : ∀ s, I xs.length s → Q (.nx s)) : Ok (forF b xs s) Q :=
  ok_forF I xs 0 s h0 (fun i x s hx hI => by rw [Nat.zero_add] at hI ⊢; exact hs i x s hx hI) fun s hI => hq s (by rw [Nat.zero_add] at hI; exact hI)
theorem ok_forFr {b : Int → S → Option (Fl S R)} {Q : Fl S R → Prop} (I : Nat → S → Prop) {n : Nat} {s : S} (h0 : I 0 s)
    (hs : ∀ (i : Nat) s, i < n → I i s → Ok (b (i : Int) s) fun c => match c with | .nx s' => I (i + 1) s' | .bk s' => Q (.nx s') | .rt r => Q (.rt r)) (hq : ∀ s, I n s → Q (.nx s)) : Ok (forF b (rangeL 0 (n : Int)) s) Q :=
  ok_forF0 I h0 (fun i x s hx hI => by obtain ⟨rfl, h⟩ := rng_get hx; exact hs i s h hI) fun s hI => hq s (by rw [rng_len] at hI; exact hI)
theorem ok_whN {c : S → Option Bool} {b : S → Option S} {Q : S → Prop} (I : S → Prop) (μ : S → Nat) (h : ∀ s, I s → Ok (c s) fun t => (t = true → Ok (b s) fun s' => I s' ∧ μ s' < μ s) ∧ (t = false → Q s)) : ∀ (m : Nat) (s : S), I s → μ s < m → Ok (whN c b m s) Q
  | 0, s, _, hm => absurd hm (Nat.not_lt_zero _)
  | m + 1, s, hI, hm => by
    show Ok ((c s).bind fun t => if t = true then (b s).bind fun s' => whN c b m s' else some s) Q
    rw [ok_bind]
    refine (h s hI).mono fun t ht => ?_
    rw [ok_if]
    refine ⟨fun e => ?_, fun e => ok_some.mpr (ht.2 e)⟩
    rw [ok_bind]
    exact (ht.1 e).mono fun s' h' => ok_whN I μ h m s' h'.1 (by omega)
theorem ok_lcF {t : α → Option Bool} {f : α → Option β} (c : α → Bool) (g : α → β) {Q : List β → Prop} : ∀ {xs : List α}, (∀ x ∈ xs, t x = some (c x)) → (∀ x ∈ xs, c x = true → f x = some (g x)) → Q ((xs.filter c).map g) → Ok (lcF t f xs) Q := fun {xs} h1 h2 hq => by
  suffices h : lcF t f xs = some ((xs.filter c).map g) from ⟨_, h, hq⟩
  clear hq
  induction xs with
  | nil => rfl
  | cons x xs ih =>
    have ih := ih (fun y hy => h1 y (List.mem_cons_of_mem _ hy)) (fun y hy => h2 y (List.mem_cons_of_mem _ hy))
    show ((t x).bind fun b => if b = true then (f x).bind fun y => (lcF t f xs).bind fun ys => some (y :: ys) else lcF t f xs) = _
    rw [h1 x List.mem_cons_self, Option.bind_some, ih]
    cases hc : c x with
    | true => rw [if_pos rfl, h2 x List.mem_cons_self hc, Option.bind_some, Option.bind_some, List.filter_cons_of_pos hc, List.map_cons]
    | false => rw [if_neg Bool.false_ne_true, List.filter_cons_of_neg (by rw [hc]; exact Bool.false_ne_true)]
end
end Cf

set_option Elab.async false
set_option linter.all false
set_option maxRecDepth 100000
set_option maxHeartbeats 4000000
namespace Mg
/-! ### ways, links, paths of a search: plain mathematics -/
abbrev Spot := Int × Bool
def lnk {α : Type} : List α → List (α × α)
  | a :: b :: r => (a, b) :: lnk (b :: r)
  | _ => []
def links (ways : List (List Int)) : List (Int × Int) := ways.flatMap lnk
theorem nd_ix {α : Type} {l : List α} (h : l.Nodup) {i j : Nat} {a : α} (h1 : l[i]? = some a) (h2 : l[j]? = some a) : i = j :=
  (List.getElem?_inj (List.getElem?_eq_some_iff.mp h1).1 h).mp (h1.trans h2.symm)
theorem nd_of_ix {α : Type} {l : List α} (h : ∀ (i j : Nat) (a : α), l[i]? = some a → l[j]? = some a → i = j) : l.Nodup := by
  rw [List.nodup_iff_pairwise_ne, List.pairwise_iff_getElem]
  intro i j hi hj hij e
  have := h i j l[i] (List.getElem?_eq_getElem hi) (by rw [e]; exact List.getElem?_eq_getElem hj)
  omega
theorem lnk_iff {α : Type} {a b : α} : ∀ {l : List α}, (a, b) ∈ lnk l ↔ ∃ i, l[i]? = some a ∧ l[i + 1]? = some b
  | [] => by simp [lnk]
  | [x] => by simp [lnk]
  | x :: y :: r => by
    show (a, b) ∈ (x, y) :: lnk (y :: r) ↔ _
    rw [List.mem_cons, lnk_iff (l := y :: r)]
    constructor
    · rintro (h | ⟨i, h1, h2⟩)
      · cases h
        exact ⟨0, rfl, rfl⟩
      · exact ⟨i + 1, h1, h2⟩
    · rintro ⟨i, h1, h2⟩
      cases i with
      | zero =>
        cases h1
        cases h2
        exact .inl rfl
      | succ i => exact .inr ⟨i, h1, h2⟩
theorem lnk_len {α : Type} : ∀ l : List α, (lnk l).length = l.length - 1
  | [] => rfl
  | [_] => rfl
  | x :: y :: r => by
    show (lnk (y :: r)).length + 1 = _
    rw [lnk_len (y :: r)]
    rfl
theorem lnk_nd {α : Type} : ∀ {l : List α}, l.Nodup → (lnk l).Nodup
  | [], _ => List.nodup_nil
  | [_], _ => List.nodup_nil
  | x :: y :: r, h => by
    rw [List.nodup_cons] at h
    show ((x, y) :: lnk (y :: r)).Nodup
    rw [List.nodup_cons]
    refine ⟨fun hm => ?_, lnk_nd h.2⟩
    obtain ⟨i, h1, _⟩ := lnk_iff.mp hm
    exact h.1 (List.mem_of_getElem? h1)
theorem links_iff {ways : List (List Int)} {a b : Int} : (a, b) ∈ links ways ↔ ∃ w ∈ ways, ∃ i, w[i]? = some a ∧ w[i + 1]? = some b := by
  unfold links
  rw [List.mem_flatMap]
  exact ⟨fun ⟨w, hw, h⟩ => ⟨w, hw, lnk_iff.mp h⟩, fun ⟨w, hw, h⟩ => ⟨w, hw, lnk_iff.mpr h⟩⟩
theorem fl_parts {α : Type} {L : List (List α)} : L.flatten.Nodup ↔ (∀ l ∈ L, l.Nodup) ∧ L.Pairwise fun l1 l2 => ∀ x ∈ l1, ∀ y ∈ l2, x ≠ y := by
  rw [List.nodup_iff_pairwise_ne, List.pairwise_flatten]
  exact ⟨fun ⟨h1, h2⟩ => ⟨fun l hl => List.nodup_iff_pairwise_ne.mpr (h1 l hl), h2⟩, fun ⟨h1, h2⟩ => ⟨fun l hl => List.nodup_iff_pairwise_ne.mp (h1 l hl), h2⟩⟩
theorem fl_same {α : Type} {L : List (List α)} (h : L.flatten.Nodup) {v w : List α} (hv : v ∈ L) (hw : w ∈ L) {x : α} (h1 : x ∈ v) (h2 : x ∈ w) : v = w := by
  obtain ⟨i, hi⟩ := List.mem_iff_getElem?.mp hv
  obtain ⟨j, hj⟩ := List.mem_iff_getElem?.mp hw
  have hp := (fl_parts.mp h).2
  rw [List.pairwise_iff_getElem] at hp
  obtain ⟨i1, i2⟩ := List.getElem?_eq_some_iff.mp hi
  obtain ⟨j1, j2⟩ := List.getElem?_eq_some_iff.mp hj
  rcases Nat.lt_trichotomy i j with q | q | q
  · exact absurd rfl (hp i j i1 j1 q x (by rw [i2]; exact h1) x (by rw [j2]; exact h2))
  · subst q
    rw [hi] at hj
    exact Option.some.inj hj
  · exact absurd rfl (hp j i j1 i1 q x (by rw [j2]; exact h2) x (by rw [i2]; exact h1))
/-- the spots next to a spot -/
def nx (nb : Int → List Int) (closed : List Int) (tab : Int → Option (Option Int)) : Spot → List Spot
  | (c, true) => ((nb c).filter fun o => !decide (o ∈ closed)).map (fun o => (o, false)) ++ (if (tab c).isSome = true then [(c, false)] else [])
  | (c, false) => match tab c with
    | none => [(c, true)]
    | some none => []
    | some (some p) => [(p, true)]
theorem nx_t (nb : Int → List Int) (closed : List Int) (tab : Int → Option (Option Int)) (c : Int) : nx nb closed tab (c, true) = ((nb c).filter fun o => !decide (o ∈ closed)).map (fun o => (o, false)) ++ (if (tab c).isSome = true then [(c, false)] else []) := rfl
theorem nx_f (nb : Int → List Int) (closed : List Int) (tab : Int → Option (Option Int)) (c : Int) : nx nb closed tab (c, false) = match tab c with
    | none => [(c, true)]
    | some none => []
    | some (some p) => [(p, true)] := rfl
/-- the ways: from their first cells to goals, over cells that are ok, apart -/
structure Ways (nb : Int → List Int) (ok : Int → Prop) (goals : List Int) (ways : List (List Int)) : Prop where
  ne : ∀ w ∈ ways, w ≠ []
  nd : ways.flatten.Nodup
  op : ∀ w ∈ ways, ∀ c ∈ w, ok c
  ad : ∀ a b, (a, b) ∈ links ways → b ∈ nb a
  go : ∀ w ∈ ways, ∀ c, w.getLast? = some c → c ∈ goals
structure Tab (ways : List (List Int)) (tab : Int → Option (Option Int)) : Prop where
  no : ∀ c, tab c = none ↔ ∀ w ∈ ways, c ∉ w
  hd : ∀ c, tab c = some none ↔ ∃ w ∈ ways, w[0]? = some c
  pr : ∀ c p, tab c = some (some p) ↔ (p, c) ∈ links ways
section
variable {nb : Int → List Int} {ok : Int → Prop} {closed goals : List Int} {ways : List (List Int)} {tab : Int → Option (Option Int)}
theorem link_in {a b : Int} (h : (a, b) ∈ links ways) : ∃ w ∈ ways, a ∈ w ∧ b ∈ w := by
  obtain ⟨w, hw, i, h1, h2⟩ := links_iff.mp h
  exact ⟨w, hw, List.mem_of_getElem? h1, List.mem_of_getElem? h2⟩
theorem link_succ (h : ways.flatten.Nodup) {a b c : Int} (h1 : (a, b) ∈ links ways) (h2 : (a, c) ∈ links ways) : b = c := by
  obtain ⟨v, hv, i, i1, i2⟩ := links_iff.mp h1
  obtain ⟨w, hw, j, j1, j2⟩ := links_iff.mp h2
  have e := fl_same h hv hw (List.mem_of_getElem? i1) (List.mem_of_getElem? j1)
  subst e
  have := nd_ix ((fl_parts.mp h).1 v hv) i1 j1
  subst this
  exact Option.some.inj (i2.symm.trans j2)
theorem link_pred (h : ways.flatten.Nodup) {a b c : Int} (h1 : (a, c) ∈ links ways) (h2 : (b, c) ∈ links ways) : a = b := by
  obtain ⟨v, hv, i, i1, i2⟩ := links_iff.mp h1
  obtain ⟨w, hw, j, j1, j2⟩ := links_iff.mp h2
  have e := fl_same h hv hw (List.mem_of_getElem? i2) (List.mem_of_getElem? j2)
  subst e
  have : i = j := by have := nd_ix ((fl_parts.mp h).1 v hv) i2 j2; omega
  subst this
  exact Option.some.inj (i1.symm.trans j1)
theorem link_ne (h : ways.flatten.Nodup) {a b : Int} (h1 : (a, b) ∈ links ways) : a ≠ b := by
  rintro rfl
  obtain ⟨v, hv, i, i1, i2⟩ := links_iff.mp h1
  have := nd_ix ((fl_parts.mp h).1 v hv) i1 i2
  omega
theorem head_no_pred (h : ways.flatten.Nodup) {w : List Int} (hw : w ∈ ways) {a b : Int} (h0 : w[0]? = some b) : (a, b) ∉ links ways := fun h1 => by
  obtain ⟨v, hv, i, i1, i2⟩ := links_iff.mp h1
  have e := fl_same h hv hw (List.mem_of_getElem? i2) (List.mem_of_getElem? h0)
  subst e
  have := nd_ix ((fl_parts.mp h).1 v hv) i2 h0
  omega
theorem on_way (W : Ways nb ok goals ways) {w : List Int} (hw : w ∈ ways) {c : Int} (hc : c ∈ w) : (∃ s, (c, s) ∈ links ways) ∨ c ∈ goals := by
  obtain ⟨i, hi⟩ := List.mem_iff_getElem?.mp hc
  obtain ⟨i1, i2⟩ := List.getElem?_eq_some_iff.mp hi
  by_cases h : i + 1 < w.length
  · exact .inl ⟨w[i + 1], links_iff.mpr ⟨w, hw, i, hi, List.getElem?_eq_getElem h⟩⟩
  · refine .inr (W.go w hw c ?_)
    rw [List.getLast?_eq_getElem?, show w.length - 1 = i by omega]
    exact hi
theorem nx_T {x : Int} {y : Spot} (h : (x, true) ∈ nx nb closed tab y) : y.2 = false ∧ ((tab y.1 = none ∧ x = y.1) ∨ tab y.1 = some (some x)) := by
  obtain ⟨y, o⟩ := y
  cases o with
  | true =>
    rw [nx_t] at h
    rcases List.mem_append.mp h with h | h
    · obtain ⟨z, _, e⟩ := List.mem_map.mp h
      cases e
    · split at h
      · cases List.mem_singleton.mp h
      · cases h
  | false =>
    refine ⟨rfl, ?_⟩
    rw [nx_f] at h
    split at h
    · rename_i e
      cases List.mem_singleton.mp h
      exact .inl ⟨e, rfl⟩
    · cases h
    · rename_i p e
      cases List.mem_singleton.mp h
      exact .inr e
theorem nx_F {x : Int} {y : Spot} (h : (x, false) ∈ nx nb closed tab y) : y.2 = true ∧ ((x ∈ nb y.1 ∧ x ∉ closed) ∨ (x = y.1 ∧ (tab y.1).isSome = true)) := by
  obtain ⟨y, o⟩ := y
  cases o with
  | true =>
    refine ⟨rfl, ?_⟩
    rw [nx_t] at h
    rcases List.mem_append.mp h with h | h
    · obtain ⟨z, hz, e⟩ := List.mem_map.mp h
      cases e
      obtain ⟨h1, h2⟩ := List.mem_filter.mp hz
      exact .inl ⟨h1, by simpa using h2⟩
    · split at h
      · rename_i e
        cases List.mem_singleton.mp h
        exact .inr ⟨rfl, e⟩
      · cases h
  | false =>
    rw [nx_f] at h
    split at h
    · cases List.mem_singleton.mp h
    · cases h
    · cases List.mem_singleton.mp h
theorem nx_out {a b : Int} (h : b ∈ nb a) (hc : b ∉ closed) : (b, false) ∈ nx nb closed tab (a, true) := by
  rw [nx_t]
  exact List.mem_append.mpr (.inl (List.mem_map.mpr ⟨b, List.mem_filter.mpr ⟨h, by simpa using hc⟩, rfl⟩))
theorem nx_back {a : Int} (h : (tab a).isSome = true) : (a, false) ∈ nx nb closed tab (a, true) := by
  rw [nx_t, if_pos h]
  exact List.mem_append.mpr (.inr List.mem_cons_self)
theorem nx_free {a : Int} (h : tab a = none) : (a, true) ∈ nx nb closed tab (a, false) := by
  rw [nx_f, h]
  exact List.mem_cons_self
theorem nx_prev {a p : Int} (h : tab a = some (some p)) : (p, true) ∈ nx nb closed tab (a, false) := by
  rw [nx_f, h]
  exact List.mem_cons_self
/-- a path of the search from c into a goal g -/
structure Aug (nb : Int → List Int) (closed : List Int) (tab : Int → Option (Option Int)) (P : List Spot) (c g : Int) : Prop where
  h0 : P[0]? = some (c, false)
  st : ∀ i a b, P[i]? = some a → P[i + 1]? = some b → b ∈ nx nb closed tab a
  nd : P.Nodup
  la : P[P.length - 1]? = some (g, true)
variable {P : List Spot} {c g : Int}
theorem Aug.more (A : Aug nb closed tab P c g) {i : Nat} {a : Spot} (h : P[i]? = some a) : (i + 1 = P.length ∧ a = (g, true)) ∨ ∃ b, P[i + 1]? = some b ∧ b ∈ nx nb closed tab a := by
  obtain ⟨i1, i2⟩ := List.getElem?_eq_some_iff.mp h
  by_cases h2 : i + 1 < P.length
  · exact .inr ⟨P[i + 1], List.getElem?_eq_getElem h2, A.st i _ _ h (List.getElem?_eq_getElem h2)⟩
  · refine .inl ⟨by omega, ?_⟩
    have := A.la
    rw [show P.length - 1 = i by omega, h] at this
    exact Option.some.inj this
theorem Aug.nextF (A : Aug nb closed tab P c g) {i : Nat} {x : Int} (h : P[i]? = some (x, false)) : ∃ y, P[i + 1]? = some (y, true) ∧ ((tab x = none ∧ y = x) ∨ tab x = some (some y)) := by
  rcases A.more h with ⟨_, e⟩ | ⟨⟨y, o⟩, h1, h2⟩
  · cases e
  · cases o with
    | true => exact ⟨y, h1, (nx_T h2).2⟩
    | false => cases (nx_F h2).1
theorem Aug.nextT (A : Aug nb closed tab P c g) {i : Nat} {x : Int} (h : P[i]? = some (x, true)) : x = g ∨ ∃ y, P[i + 1]? = some (y, false) ∧ ((y ∈ nb x ∧ y ∉ closed) ∨ (y = x ∧ (tab x).isSome = true)) := by
  rcases A.more h with ⟨_, e⟩ | ⟨⟨y, o⟩, h1, h2⟩
  · cases e
    exact .inl rfl
  · cases o with
    | true => cases (nx_T h2).1
    | false => exact .inr ⟨y, h1, (nx_F h2).2⟩
theorem Aug.prevT (A : Aug nb closed tab P c g) {i : Nat} {x : Int} (h : P[i]? = some (x, true)) : ∃ j y, i = j + 1 ∧ P[j]? = some (y, false) ∧ ((tab y = none ∧ x = y) ∨ tab y = some (some x)) := by
  cases i with
  | zero =>
    rw [A.h0] at h
    cases h
  | succ j =>
    have hj : j < P.length := by have := (List.getElem?_eq_some_iff.mp h).1; omega
    obtain ⟨h1, h2⟩ := nx_T (A.st j _ _ (List.getElem?_eq_getElem hj) h)
    refine ⟨j, P[j].1, rfl, ?_, h2⟩
    rw [List.getElem?_eq_getElem hj, ← h1]
def gone (P : List Spot) (a b : Int) : Prop := a ≠ b ∧ ∃ i, P[i]? = some (b, false) ∧ P[i + 1]? = some (a, true)
def new (P : List Spot) (a b : Int) : Prop := a ≠ b ∧ ∃ i, P[i]? = some (a, true) ∧ P[i + 1]? = some (b, false)
/-- the links behind the changes of a path -/
def Nl (ways : List (List Int)) (P : List Spot) (a b : Int) : Prop := ((a, b) ∈ links ways ∧ ¬ gone P a b) ∨ new P a b
theorem Tab.some_of (T : Tab ways tab) {w : List Int} (hw : w ∈ ways) {c : Int} (hc : c ∈ w) : (tab c).isSome = true := by
  cases h : tab c with
  | none => exact absurd hc ((T.no c).mp h w hw)
  | some _ => rfl
theorem Tab.on (T : Tab ways tab) {c : Int} (h : (tab c).isSome = true) : ∃ w ∈ ways, c ∈ w := by
  cases e : tab c with
  | none =>
    rw [e] at h
    cases h
  | some o =>
    cases o with
    | none =>
      obtain ⟨w, hw, h0⟩ := (T.hd c).mp e
      exact ⟨w, hw, List.mem_of_getElem? h0⟩
    | some p =>
      obtain ⟨w, hw, _, hb⟩ := link_in ((T.pr c p).mp e)
      exact ⟨w, hw, hb⟩
/-- a beginning -/
def Beg (ways : List (List Int)) (c b : Int) : Prop := b = c ∨ ∃ w ∈ ways, w[0]? = some b
theorem flow_out (W : Ways nb ok goals ways) (T : Tab ways tab) (A : Aug nb closed tab P c g) {a b d : Int} (h1 : Nl ways P a b) (h2 : Nl ways P a d) : b = d := by
  have key : ∀ {b d}, (a, b) ∈ links ways → ¬ gone P a b → new P a d → False := fun {b d} hl hg ⟨hne, i, i1, i2⟩ => by
    obtain ⟨j, y, ej, j1, j2⟩ := A.prevT i1
    subst ej
    rcases j2 with ⟨e, ey⟩ | e
    · subst ey
      obtain ⟨w, hw, ha, _⟩ := link_in hl
      exact (T.no a).mp e w hw ha
    · have := link_succ W.nd hl ((T.pr _ _).mp e)
      subst this
      exact hg ⟨link_ne W.nd hl, j, j1, i1⟩
  rcases h1 with ⟨h1, g1⟩ | h1
  · rcases h2 with ⟨h2, g2⟩ | h2
    · exact link_succ W.nd h1 h2
    · exact (key h1 g1 h2).elim
  · rcases h2 with ⟨h2, g2⟩ | h2
    · exact (key h2 g2 h1).elim
    · obtain ⟨_, i, i1, i2⟩ := h1
      obtain ⟨_, j, j1, j2⟩ := h2
      have := nd_ix A.nd i1 j1
      subst this
      have := Option.some.inj (i2.symm.trans j2)
      exact congrArg Prod.fst this
theorem flow_in (W : Ways nb ok goals ways) (T : Tab ways tab) (A : Aug nb closed tab P c g) {a b d : Int} (h1 : Nl ways P a d) (h2 : Nl ways P b d) : a = b := by
  have key : ∀ {a b}, (a, d) ∈ links ways → ¬ gone P a d → new P b d → False := fun {a b} hl hg ⟨hne, i, i1, i2⟩ => by
    obtain ⟨y, y1, y2⟩ := A.nextF i2
    rcases y2 with ⟨e, _⟩ | e
    · obtain ⟨w, hw, _, hd⟩ := link_in hl
      exact (T.no d).mp e w hw hd
    · have := link_pred W.nd hl ((T.pr _ _).mp e)
      subst this
      exact hg ⟨link_ne W.nd hl, i + 1, i2, y1⟩
  rcases h1 with ⟨h1, g1⟩ | h1
  · rcases h2 with ⟨h2, g2⟩ | h2
    · exact link_pred W.nd h1 h2
    · exact (key h1 g1 h2).elim
  · rcases h2 with ⟨h2, g2⟩ | h2
    · exact (key h2 g2 h1).elim
    · obtain ⟨_, i, i1, i2⟩ := h1
      obtain ⟨_, j, j1, j2⟩ := h2
      have := nd_ix A.nd i2 j2
      have : i = j := by omega
      subst this
      have := Option.some.inj (i1.symm.trans j1)
      exact congrArg Prod.fst this
theorem flow_beg (W : Ways nb ok goals ways) (T : Tab ways tab) (A : Aug nb closed tab P c g) {a b : Int} (hb : Beg ways c b) : ¬ Nl ways P a b := fun h => by
  rcases h with ⟨hl, hg⟩ | ⟨hne, i, i1, i2⟩
  · rcases hb with rfl | ⟨w, hw, h0⟩
    · obtain ⟨y, y1, y2⟩ := A.nextF A.h0
      rcases y2 with ⟨e, _⟩ | e
      · obtain ⟨w, hw, _, hd⟩ := link_in hl
        exact (T.no b).mp e w hw hd
      · have := link_pred W.nd hl ((T.pr _ _).mp e)
        subst this
        exact hg ⟨link_ne W.nd hl, 0, A.h0, y1⟩
    · exact head_no_pred W.nd hw h0 hl
  · rcases hb with rfl | ⟨w, hw, h0⟩
    · have := nd_ix A.nd i2 A.h0
      omega
    · obtain ⟨y, y1, y2⟩ := A.nextF i2
      have e0 := (T.hd b).mpr ⟨w, hw, h0⟩
      rcases y2 with ⟨e, _⟩ | e <;> rw [e0] at e <;> cases e
theorem flow_ok (W : Ways nb ok goals ways) (T : Tab ways tab) (A : Aug nb closed tab P c g) (hc : ok c) (hs : ∀ a b, ok a → b ∈ nb a → b ∉ closed → ok b) : ∀ {i : Nat} {s : Spot}, P[i]? = some s → ok s.1
  | 0, s, h => by
    rw [A.h0] at h
    cases h
    exact hc
  | i + 1, s, h => by
    have hi : i < P.length := by have := (List.getElem?_eq_some_iff.mp h).1; omega
    have IH := flow_ok W T A hc hs (List.getElem?_eq_getElem hi)
    have st := A.st i _ _ (List.getElem?_eq_getElem hi) h
    obtain ⟨x, o⟩ := s
    cases o with
    | true =>
      obtain ⟨_, h2 | h2⟩ := nx_T st
      · show ok x
        rw [h2.2]
        exact IH
      · obtain ⟨w, hw, hx, _⟩ := link_in ((T.pr _ _).mp h2)
        exact W.op w hw x hx
    | false =>
      obtain ⟨_, h2 | h2⟩ := nx_F st
      · exact hs _ _ IH h2.1 h2.2
      · show ok x
        rw [h2.1]
        exact IH
theorem flow_adj (W : Ways nb ok goals ways) (T : Tab ways tab) (A : Aug nb closed tab P c g) (hc : ok c) (hs : ∀ a b, ok a → b ∈ nb a → b ∉ closed → ok b) {a b : Int} (h : Nl ways P a b) : b ∈ nb a ∧ ok a ∧ ok b := by
  rcases h with ⟨hl, _⟩ | ⟨hne, i, i1, i2⟩
  · obtain ⟨w, hw, ha, hb⟩ := link_in hl
    exact ⟨W.ad _ _ hl, W.op w hw a ha, W.op w hw b hb⟩
  · refine ⟨?_, flow_ok W T A hc hs i1, flow_ok W T A hc hs i2⟩
    obtain ⟨_, h2 | h2⟩ := nx_F (A.st i _ _ i1 i2)
    · exact h2.1
    · exact absurd h2.1.symm hne
theorem flow_thru (W : Ways nb ok goals ways) (T : Tab ways tab) (A : Aug nb closed tab P c g) (hg : g ∈ goals) {b : Int} (h : Beg ways c b ∨ ∃ a, Nl ways P a b) : (∃ d, Nl ways P b d) ∨ b ∈ goals := by
  have out : ∀ {i : Nat}, P[i]? = some (b, true) → ((∃ d, Nl ways P b d) ∨ b ∈ goals) ∨ P[i + 1]? = some (b, false) ∧ (tab b).isSome = true := fun {i} hi => by
    rcases A.nextT hi with rfl | ⟨y, y1, y2⟩
    · exact .inl (.inr hg)
    · by_cases e : y = b
      · subst e
        refine .inr ⟨y1, ?_⟩
        rcases y2 with y2 | y2
        · obtain ⟨j, z, ej, j1, j2⟩ := A.prevT hi
          rcases j2 with ⟨e1, e2⟩ | e1
          · subst e2
            have := nd_ix A.nd y1 j1
            omega
          · obtain ⟨w, hw, hx, _⟩ := link_in ((T.pr _ _).mp e1)
            exact T.some_of hw hx
        · exact y2.2
      · exact .inl (.inl ⟨y, .inr ⟨fun z => e z.symm, i, hi, y1⟩⟩)
  have way : (tab b).isSome = true → ((∃ d, Nl ways P b d) ∨ b ∈ goals) ∨ ∃ i, P[i]? = some (b, true) ∧ P[i + 1]? = some (b, false) := fun hs => by
    obtain ⟨w, hw, hb⟩ := T.on hs
    rcases on_way W hw hb with ⟨s, hl⟩ | h
    · by_cases hgn : gone P b s
      · obtain ⟨_, i, i1, i2⟩ := hgn
        rcases out i2 with h | h
        · exact .inl h
        · exact .inr ⟨i + 1, i2, h.1⟩
      · exact .inl (.inl ⟨s, .inl ⟨hl, hgn⟩⟩)
    · exact .inl (.inr h)
  have free : tab b = none → ∀ {i : Nat}, P[i]? = some (b, false) → (∃ d, Nl ways P b d) ∨ b ∈ goals := fun hn i hi => by
    obtain ⟨y, y1, y2⟩ := A.nextF hi
    rcases y2 with ⟨_, e⟩ | e
    · subst e
      rcases out y1 with h | h
      · exact h
      · rw [hn] at h
        cases h.2
    · rw [hn] at e
      cases e
  rcases h with (rfl | ⟨w, hw, h0⟩) | ⟨a, ⟨hl, hgn⟩ | ⟨hne, i, i1, i2⟩⟩
  · cases e : tab b with
    | none => exact free e A.h0
    | some o =>
      rcases way (by rw [e]; rfl) with h | ⟨i, _, i2⟩
      · exact h
      · have := nd_ix A.nd i2 A.h0
        omega
  · rcases way (T.some_of hw (List.mem_of_getElem? h0)) with h | ⟨i, _, i2⟩
    · exact h
    · obtain ⟨y, y1, y2⟩ := A.nextF i2
      have e0 := (T.hd b).mpr ⟨w, hw, h0⟩
      rcases y2 with ⟨e, _⟩ | e <;> rw [e0] at e <;> cases e
  · obtain ⟨w, hw, _, hb⟩ := link_in hl
    rcases way (T.some_of hw hb) with h | ⟨i, _, i2⟩
    · exact h
    · obtain ⟨y, y1, y2⟩ := A.nextF i2
      rcases y2 with ⟨e, _⟩ | e
      · exact absurd hb ((T.no b).mp e w hw)
      · have := link_pred W.nd hl ((T.pr _ _).mp e)
        subst this
        exact absurd ⟨link_ne W.nd hl, i + 1, i2, y1⟩ hgn
  · cases e : tab b with
    | none => exact free e i2
    | some o =>
      rcases way (by rw [e]; rfl) with h | ⟨k, k1, k2⟩
      · exact h
      · have := nd_ix A.nd k2 i2
        have : k = i := by omega
        subst this
        rw [k1] at i1
        cases i1
        exact absurd rfl hne
theorem beg_free (T : Tab ways tab) (A : Aug nb closed tab P c g) {w : List Int} (hw : w ∈ ways) : w[0]? ≠ some c := fun h0 => by
  obtain ⟨y, y1, y2⟩ := A.nextF A.h0
  have e0 := (T.hd c).mpr ⟨w, hw, h0⟩
  rcases y2 with ⟨e, _⟩ | e <;> rw [e0] at e <;> cases e
end
/-! ### runs along links -/
structure Run (N : Int → Int → Prop) (b : Int) (w : List Int) : Prop where
  hd : w[0]? = some b
  st : ∀ i x y, w[i]? = some x → w[i + 1]? = some y → N x y
section
variable {N : Int → Int → Prop} {b b' : Int} {w w' : List Int}
theorem Run.pre (R : Run N b w) {i : Nat} {x : Int} (h : w[i + 1]? = some x) : ∃ y, w[i]? = some y ∧ N y x := by
  have hi : i < w.length := by have := (List.getElem?_eq_some_iff.mp h).1; omega
  exact ⟨w[i], List.getElem?_eq_getElem hi, R.st i _ _ (List.getElem?_eq_getElem hi) h⟩
theorem run_same (hi : ∀ x y z, N x z → N y z → x = y) (R : Run N b w) (R' : Run N b' w') (h1 : ∀ x, ¬ N x b) (h2 : ∀ x, ¬ N x b') : ∀ (i j : Nat) (x : Int), w[i]? = some x → w'[j]? = some x → b = b' ∧ i = j
  | 0, 0, x, e1, e2 => by
    rw [R.hd] at e1
    rw [R'.hd] at e2
    exact ⟨Option.some.inj (e1.trans e2.symm), rfl⟩
  | 0, j + 1, x, e1, e2 => by
    rw [R.hd] at e1
    cases e1
    obtain ⟨y, _, h⟩ := R'.pre e2
    exact absurd h (h1 y)
  | i + 1, 0, x, e1, e2 => by
    rw [R'.hd] at e2
    cases e2
    obtain ⟨y, _, h⟩ := R.pre e1
    exact absurd h (h2 y)
  | i + 1, j + 1, x, e1, e2 => by
    obtain ⟨y, hy, n1⟩ := R.pre e1
    obtain ⟨z, hz, n2⟩ := R'.pre e2
    have := hi _ _ _ n1 n2
    subst this
    obtain ⟨h, e⟩ := run_same hi R R' h1 h2 i j y hy hz
    exact ⟨h, by omega⟩
theorem run_nd (hi : ∀ x y z, N x z → N y z → x = y) (R : Run N b w) (h1 : ∀ x, ¬ N x b) : w.Nodup := nd_of_ix fun i j x e1 e2 => (run_same hi R R h1 h1 i j x e1 e2).2
theorem run_ext (R : Run N b w) {x y : Int} (hl : w[w.length - 1]? = some x) (h : N x y) : Run N b (w ++ [y]) := by
  have hp : 0 < w.length := by have := (List.getElem?_eq_some_iff.mp R.hd).1; omega
  refine ⟨?_, fun i u v e1 e2 => ?_⟩
  · rw [List.getElem?_append_left hp]
    exact R.hd
  · have hi := (List.getElem?_eq_some_iff.mp e2).1
    rw [List.length_append, List.length_singleton] at hi
    rw [List.getElem?_append_left (by omega)] at e1
    by_cases q : i + 1 < w.length
    · rw [List.getElem?_append_left q] at e2
      exact R.st i u v e1 e2
    · have : i = w.length - 1 := by omega
      subst this
      rw [hl] at e1
      cases e1
      rw [List.getElem?_append_right (by omega), show w.length - 1 + 1 - w.length = 0 by omega] at e2
      cases e2
      exact h
theorem run_len (hi : ∀ x y z, N x z → N y z → x = y) (R : Run N b w) (h1 : ∀ x, ¬ N x b) {L : List (Int × Int)} (hL : ∀ x y, N x y → (x, y) ∈ L) : w.length ≤ L.length + 1 := by
  have h := List.Nodup.length_le_of_subset (lnk_nd (run_nd hi R h1)) (l₂ := L) (fun p hp => by
    obtain ⟨x, y⟩ := p
    obtain ⟨i, e1, e2⟩ := lnk_iff.mp hp
    exact hL _ _ (R.st i x y e1 e2))
  rw [lnk_len] at h
  omega
/-- a run that goes on as long as it can is one -/
theorem run_uniq (ho : ∀ x y z, N x y → N x z → y = z) : ∀ {w w' : List Int} {b : Int}, Run N b w → Run N b w' → (∀ x, w[w.length - 1]? = some x → ∀ y, ¬ N x y) → (∀ x, w'[w'.length - 1]? = some x → ∀ y, ¬ N x y) → w = w'
  | [], _, _, R, _, _, _ => by
    have := R.hd
    cases this
  | _, [], _, _, R', _, _ => by
    have := R'.hd
    cases this
  | [x], [y], b, R, R', _, _ => by
    have e1 := R.hd
    have e2 := R'.hd
    cases e1
    cases e2
    rfl
  | [x], y :: z :: r, b, R, R', h, _ => by
    have e1 := R.hd
    have e2 := R'.hd
    cases e1
    cases e2
    exact absurd (R'.st 0 _ _ rfl rfl) (h x rfl z)
  | x :: z :: r, [y], b, R, R', _, h => by
    have e1 := R.hd
    have e2 := R'.hd
    cases e1
    cases e2
    exact absurd (R.st 0 _ _ rfl rfl) (h x rfl z)
  | x :: z :: r, y :: u :: s, b, R, R', h, h' => by
    have e1 := R.hd
    have e2 := R'.hd
    cases e1
    cases e2
    have e := ho _ _ _ (R.st 0 _ _ rfl rfl) (R'.st 0 _ _ rfl rfl)
    subst e
    have tl : ∀ {t : List Int}, Run N x (x :: z :: t) → Run N z (z :: t) := fun {t} Q => ⟨rfl, fun i p q e1 e2 => Q.st (i + 1) p q e1 e2⟩
    rw [run_uniq ho (tl R) (tl R') (fun p hp => h p hp) (fun p hp => h' p hp)]
end
end Mg

set_option Elab.async false
set_option linter.all false
set_option maxRecDepth 100000
set_option maxHeartbeats 4000000
namespace Mg
/-! ### cuts -/
def Cuts (nb : Int → List Int) (closed src goals K : List Int) : Prop := ∃ R : Int → Prop, (∀ s ∈ src, s ∉ closed → s ∉ K → R s) ∧ (∀ a b, R a → b ∈ nb a → b ∉ closed → b ∉ K → R b) ∧ ∀ g, R g → g ∉ goals
section
variable {nb : Int → List Int} {ok : Int → Prop} {closed src goals K : List Int} {ways : List (List Int)} {tab : Int → Option (Option Int)} {sp : List Spot}
theorem last_get {α : Type} {w : List α} (h : w ≠ []) : ∃ x, w.getLast? = some x ∧ w[w.length - 1]? = some x := by
  have hp : 0 < w.length := List.length_pos_iff.mpr h
  refine ⟨w[w.length - 1], ?_, List.getElem?_eq_getElem (by omega)⟩
  rw [List.getLast?_eq_getElem?]
  exact List.getElem?_eq_getElem (by omega)
theorem head_get {α : Type} {w : List α} (h : w ≠ []) : ∃ x, w[0]? = some x := ⟨w[0]'(List.length_pos_iff.mpr h), List.getElem?_eq_getElem _⟩
/-- what holds at a way's head and goes on along it holds on all of it -/
theorem along {w : List Int} {X : Int → Prop} (h0 : ∀ x, w[0]? = some x → X x) (hs : ∀ (i : Nat) (x y : Int), w[i]? = some x → w[i + 1]? = some y → X x → X y) : ∀ (i : Nat) (x : Int), w[i]? = some x → X x
  | 0, x, e => h0 x e
  | i + 1, x, e => by
    have hi : i < w.length := by have := (List.getElem?_eq_some_iff.mp e).1; omega
    exact hs i w[i] x (List.getElem?_eq_getElem hi) e (along h0 hs i w[i] (List.getElem?_eq_getElem hi))
theorem cut_hit (C : Cuts nb closed src goals K) (W : Ways nb ok goals ways) (ho : ∀ c, ok c → c ∉ closed) (hs : ∀ w ∈ ways, ∀ c, w[0]? = some c → c ∈ src) : ∀ w ∈ ways, ∃ k, k ∈ w ∧ k ∈ K := fun w hw => by
  obtain ⟨R, r0, r1, r2⟩ := C
  refine Classical.byContradiction fun hn => ?_
  have hk : ∀ x ∈ w, x ∉ K := fun x hx hxk => hn ⟨x, hx, hxk⟩
  obtain ⟨x, e1, e2⟩ := last_get (W.ne w hw)
  have := along (w := w) (X := R) (fun x e => r0 x (hs w hw x e) (ho x (W.op w hw x (List.mem_of_getElem? e))) (hk x (List.mem_of_getElem? e)))
    (fun i x y ex ey hx => r1 x y hx (W.ad x y (links_iff.mpr ⟨w, hw, i, ex, ey⟩)) (ho y (W.op w hw y (List.mem_of_getElem? ey))) (hk y (List.mem_of_getElem? ey))) _ x e2
  exact r2 x this (W.go w hw x e1)
theorem pick : ∀ {ways : List (List Int)}, ways.flatten.Nodup → (∀ w ∈ ways, ∃ k, k ∈ w ∧ k ∈ K) → ∃ ks : List Int, ks.length = ways.length ∧ ks.Nodup ∧ ∀ k ∈ ks, k ∈ K ∧ k ∈ ways.flatten
  | [], _, _ => ⟨[], rfl, List.nodup_nil, fun k h => by cases h⟩
  | w :: ways, h, hk => by
    rw [List.flatten_cons, List.nodup_append] at h
    obtain ⟨ks, h1, h2, h3⟩ := pick h.2.1 (fun w hw => hk w (List.mem_cons_of_mem _ hw))
    obtain ⟨k, k1, k2⟩ := hk w List.mem_cons_self
    refine ⟨k :: ks, by rw [List.length_cons, List.length_cons, h1], List.nodup_cons.mpr ⟨fun hm => h.2.2 k k1 k (h3 k hm).2 rfl, h2⟩, fun x hx => ?_⟩
    rw [List.flatten_cons]
    rcases List.mem_cons.mp hx with rfl | hx
    · exact ⟨k2, List.mem_append.mpr (.inl k1)⟩
    · exact ⟨(h3 x hx).1, List.mem_append.mpr (.inr (h3 x hx).2)⟩
theorem hit_le (h : ways.flatten.Nodup) (hk : ∀ w ∈ ways, ∃ k, k ∈ w ∧ k ∈ K) : ways.length ≤ K.length := by
  obtain ⟨ks, h1, h2, h3⟩ := pick h hk
  rw [← h1]
  exact List.Nodup.length_le_of_subset h2 fun k hk => (h3 k hk).1
theorem weak (C : Cuts nb closed src goals K) (W : Ways nb ok goals ways) (ho : ∀ c, ok c → c ∉ closed) (hs : ∀ w ∈ ways, ∀ c, w[0]? = some c → c ∈ src) : ways.length ≤ K.length := hit_le W.nd (cut_hit C W ho hs)
/-- the search's end without a goal -/
structure Shut (nb : Int → List Int) (closed goals : List Int) (tab : Int → Option (Option Int)) (sp : List Spot) : Prop where
  cl : ∀ a ∈ sp, ∀ b ∈ nx nb closed tab a, b ∈ sp
  no : ∀ g ∈ goals, (g, true) ∉ sp
/-- come into, not out of -/
def In (sp : List Spot) (c : Int) : Prop := (c, false) ∈ sp ∧ (c, true) ∉ sp
theorem touch (W : Ways nb ok goals ways) (T : Tab ways tab) (S : Shut nb closed goals tab sp) {w : List Int} (hw : w ∈ ways) : ∀ (i : Nat) (x : Int), w[i]? = some x → (x, false) ∈ sp → ∀ (j : Nat) (y : Int), j < i → w[j]? = some y → (y, true) ∈ sp ∧ (y, false) ∈ sp
  | 0, x, _, _, j, y, hj, _ => absurd hj (Nat.not_lt_zero _)
  | i + 1, x, e, hx, j, y, hj, ey => by
    have hi : i < w.length := by have := (List.getElem?_eq_some_iff.mp e).1; omega
    have ez := List.getElem?_eq_getElem hi
    have t := (T.pr x w[i]).mpr (links_iff.mpr ⟨w, hw, i, ez, e⟩)
    have h1 := S.cl _ hx _ (nx_prev t)
    have h2 := S.cl _ h1 _ (nx_back (T.some_of hw (List.mem_of_getElem? ez)))
    by_cases q : j = i
    · subst q
      rw [ez] at ey
      cases ey
      exact ⟨h1, h2⟩
    · exact touch W T S hw i w[i] ez h2 j y (by omega) ey
theorem in_ex (W : Ways nb ok goals ways) (ho : ∀ c, ok c → c ∉ closed) (S : Shut nb closed goals tab sp) {w : List Int} (hw : w ∈ ways) (h0 : ∀ x, w[0]? = some x → (x, false) ∈ sp) : ∃ m, m ∈ w ∧ In sp m := by
  refine Classical.byContradiction fun hn => ?_
  have hk : ∀ x ∈ w, (x, false) ∈ sp → (x, true) ∈ sp := fun x hx h => Classical.byContradiction fun h2 => hn ⟨x, hx, h, h2⟩
  obtain ⟨x, e1, e2⟩ := last_get (W.ne w hw)
  have := along (w := w) (X := fun x => (x, false) ∈ sp) h0 (fun i x y ex ey hx => S.cl _ (hk x (List.mem_of_getElem? ex) hx) _ (nx_out (W.ad x y (links_iff.mpr ⟨w, hw, i, ex, ey⟩)) (ho y (W.op w hw y (List.mem_of_getElem? ey))))) _ x e2
  exact S.no x (W.go w hw x e1) (hk x (List.mem_of_getElem? e2) this)
theorem in_uniq (W : Ways nb ok goals ways) (T : Tab ways tab) (S : Shut nb closed goals tab sp) {w : List Int} (hw : w ∈ ways) {a b : Int} (ha : a ∈ w) (hb : b ∈ w) (h1 : In sp a) (h2 : In sp b) : a = b := by
  obtain ⟨i, hi⟩ := List.mem_iff_getElem?.mp ha
  obtain ⟨j, hj⟩ := List.mem_iff_getElem?.mp hb
  rcases Nat.lt_trichotomy i j with q | q | q
  · exact absurd (touch W T S hw j b hj h2.1 i a q hi).1 h1.2
  · subst q
    rw [hi] at hj
    exact Option.some.inj hj
  · exact absurd (touch W T S hw i a hi h1.1 j b q hj).1 h2.2
theorem in_way (T : Tab ways tab) (S : Shut nb closed goals tab sp) {a : Int} (h : In sp a) : ∃ w ∈ ways, a ∈ w := by
  cases e : tab a with
  | none => exact absurd (S.cl _ h.1 _ (nx_free e)) h.2
  | some o => exact T.on (by rw [e]; rfl)
theorem in_head (W : Ways nb ok goals ways) (T : Tab ways tab) (S : Shut nb closed goals tab sp) {w : List Int} (hw : w ∈ ways) {a x : Int} (ha : a ∈ w) (h : (a, false) ∈ sp) (hx : w[0]? = some x) : (x, false) ∈ sp := by
  obtain ⟨i, hi⟩ := List.mem_iff_getElem?.mp ha
  cases i with
  | zero =>
    rw [hi] at hx
    cases hx
    exact h
  | succ i => exact (touch W T S hw (i + 1) a hi h 0 x (by omega) hx).2
open Classical in
noncomputable def kc (sp : List Spot) (w : List Int) : Int := if h : ∃ m, m ∈ w ∧ In sp m then choose h else w.headD 0
theorem kc_in {w : List Int} (h : ∃ m, m ∈ w ∧ In sp m) : kc sp w ∈ w ∧ In sp (kc sp w) := by
  unfold kc
  rw [dif_pos h]
  exact Classical.choose_spec h
theorem cut_len (W : Ways nb ok goals ways) (ho : ∀ c, ok c → c ∉ closed) (T : Tab ways tab) (S : Shut nb closed goals tab sp) (h0 : ∀ w ∈ ways, ∀ x, w[0]? = some x → (x, false) ∈ sp) {cut : List Int} (hn : cut.Nodup) (hc : ∀ c, c ∈ cut ↔ In sp c) : cut.length = ways.length := by
  refine Nat.le_antisymm ?_ (hit_le W.nd fun w hw => ?_)
  · rw [← List.length_map (f := kc sp) (as := ways)]
    refine List.Nodup.length_le_of_subset hn fun c h => ?_
    have h := (hc c).mp h
    obtain ⟨w, hw, hcw⟩ := in_way T S h
    obtain ⟨k1, k2⟩ := kc_in ⟨c, hcw, h⟩
    exact List.mem_map.mpr ⟨w, hw, in_uniq W T S hw k1 hcw k2 h⟩
  · obtain ⟨m, h1, h2⟩ := in_ex W ho S hw (h0 w hw)
    exact ⟨m, h1, (hc m).mpr h2⟩
theorem cut_cuts (S : Shut nb closed goals tab sp) (h0 : ∀ s ∈ src, s ∉ closed → (s, false) ∈ sp) {cut : List Int} (hc : ∀ c, In sp c → c ∈ cut) : Cuts nb closed src goals cut := by
  have key : ∀ c, (c, false) ∈ sp → c ∉ cut → (c, true) ∈ sp := fun c h hn => Classical.byContradiction fun h2 => hn (hc c ⟨h, h2⟩)
  exact ⟨fun v => (v, true) ∈ sp, fun s hs h1 h2 => key s (h0 s hs h1) h2, fun a b ha hb h1 h2 => key b (S.cl _ ha _ (nx_out hb h1)) h2, fun g hg hgg => S.no g hgg hg⟩
/-- a cell that has no way more: as many cells as there are ways cut them all off -/
theorem add_cut (W : Ways nb ok goals ways) (T : Tab ways tab) (S : Shut nb closed goals tab sp) {c : Int} (h0 : c ∉ closed → (c, false) ∈ sp) (hs : ∀ s ∈ src, s = c ∨ ∃ w ∈ ways, w[0]? = some s) : ∃ K : List Int, K.length = ways.length ∧ Cuts nb closed src goals K := by
  have key : ∀ c, (c, false) ∈ sp → c ∉ ways.map (kc sp) → (c, true) ∈ sp := fun c h hn => Classical.byContradiction fun h2 => by
    obtain ⟨w, hw, hcw⟩ := in_way T S ⟨h, h2⟩
    obtain ⟨k1, k2⟩ := kc_in ⟨c, hcw, h, h2⟩
    exact hn (List.mem_map.mpr ⟨w, hw, in_uniq W T S hw k1 hcw k2 ⟨h, h2⟩⟩)
  refine ⟨ways.map (kc sp), List.length_map .., fun v => (v, true) ∈ sp, fun s hsr h1 h2 => key s ?_ h2, fun a b ha hb h1 h2 => key b (S.cl _ ha _ (nx_out hb h1)) h2, fun g hg hgg => S.no g hgg hg⟩
  rcases hs s hsr with rfl | ⟨w, hw, e⟩
  · exact h0 h1
  · by_cases h : ∃ m, m ∈ w ∧ In sp m
    · obtain ⟨m, hm, hi⟩ := h
      exact in_head W T S hw hm hi.1 e
    · refine absurd (List.mem_map.mpr ⟨w, hw, ?_⟩) h2
      unfold kc
      rw [dif_neg h]
      cases w with
      | nil => cases e
      | cons a r => exact Option.some.inj e
/-- the cut is the nearest one -/
theorem cut_near (W : Ways nb ok goals ways) (ho : ∀ c, ok c → c ∉ closed) (T : Tab ways tab) (hs : ∀ w ∈ ways, ∀ c, w[0]? = some c → c ∈ src) (ind : ∀ Y : Spot → Prop, (∀ s ∈ src, s ∉ closed → Y (s, false)) → (∀ a b, Y a → b ∈ nx nb closed tab a → Y b) → ∀ s ∈ sp, Y s)
    (S : Shut nb closed goals tab sp) (h0 : ∀ s ∈ src, s ∉ closed → (s, false) ∈ sp) {cut : List Int} (hc : ∀ c, In sp c → c ∈ cut) {X : List Int} {f : List Int → Int} (hf : ∀ w ∈ ways, f w ∈ w) (hX : ∀ x, x ∈ X ↔ ∃ w ∈ ways, f w = x) (C : Cuts nb closed src goals X) : Cuts nb closed src X cut := by
  obtain ⟨R0, a0, a1, a2⟩ := C
  obtain ⟨R, eR⟩ : ∃ R : Int → Prop, R = fun v => R0 v ∧ v ∉ X ∧ v ∉ closed := ⟨_, rfl⟩
  have r0 : ∀ s ∈ src, s ∉ closed → s ∉ X → R s := fun s h1 h2 h3 => by rw [eR]; exact ⟨a0 s h1 h2 h3, h3, h2⟩
  have r1 : ∀ a b, R a → b ∈ nb a → b ∉ closed → b ∉ X → R b := fun a b h1 h2 h3 h4 => by rw [eR] at h1 ⊢; exact ⟨a1 a b h1.1 h2 h3 h4, h4, h3⟩
  have r2 : ∀ g, R g → g ∉ goals := fun g h => by rw [eR] at h; exact a2 g h.1
  have rX : ∀ v, R v → v ∉ X := fun v h => by rw [eR] at h; exact h.2.1
  have onX : ∀ {w x}, w ∈ ways → x ∈ w → x ∈ X → x = f w := fun {w x} hw hx h => by
    obtain ⟨v, hv, e⟩ := (hX x).mp h
    have := fl_same W.nd hw hv hx (by rw [← e]; exact hf v hv)
    subst this
    exact e.symm
  have cl : ∀ {w x}, w ∈ ways → x ∈ w → x ∉ closed := fun hw hx => ho _ (W.op _ hw _ hx)
  -- before the chosen cell
  have bef : ∀ {w : List Int}, w ∈ ways → ∀ (k : Nat), w[k]? = some (f w) → ∀ (i : Nat) (x : Int), i < k → w[i]? = some x → R x := fun {w} hw k hk => by
    have hw0 := (fl_parts.mp W.nd).1 w hw
    have nX : ∀ (i : Nat) (x : Int), i < k → w[i]? = some x → x ∉ X := fun i x hi e h => by
      have := onX hw (List.mem_of_getElem? e) h
      subst this
      have := nd_ix hw0 e hk
      omega
    intro i
    induction i with
    | zero => exact fun x hi e => r0 x (hs w hw x e) (cl hw (List.mem_of_getElem? e)) (nX 0 x hi e)
    | succ i ih =>
      intro x hi e
      have hil : i < w.length := by have := (List.getElem?_eq_some_iff.mp e).1; omega
      have ez := List.getElem?_eq_getElem hil
      exact r1 w[i] x (ih w[i] (by omega) ez) (W.ad _ _ (links_iff.mpr ⟨w, hw, i, ez, e⟩)) (cl hw (List.mem_of_getElem? e)) (nX (i + 1) x hi e)
  -- behind it nothing is reached
  have aft : ∀ {w : List Int}, w ∈ ways → ∀ (k : Nat), w[k]? = some (f w) → ∀ (i : Nat) (x : Int), k < i → w[i]? = some x → ¬ R x := fun {w} hw k hk i x hi e hR => by
    have hw0 := (fl_parts.mp W.nd).1 w hw
    have all : ∀ (d : Nat) (y : Int), w[i + d]? = some y → R y := fun d => by
      induction d with
      | zero =>
        intro y ey
        rw [Nat.add_zero, e] at ey
        cases ey
        exact hR
      | succ d ih =>
        intro y ey
        have hil : i + d < w.length := by have := (List.getElem?_eq_some_iff.mp ey).1; omega
        have ez := List.getElem?_eq_getElem hil
        refine r1 w[i + d] y (ih _ ez) (W.ad _ _ (links_iff.mpr ⟨w, hw, i + d, ez, ey⟩)) (cl hw (List.mem_of_getElem? ey)) fun h => ?_
        have := onX hw (List.mem_of_getElem? ey) h
        subst this
        have := nd_ix hw0 ey hk
        omega
    obtain ⟨z, z1, z2⟩ := last_get (W.ne w hw)
    have hil := (List.getElem?_eq_some_iff.mp e).1
    exact r2 z (all (w.length - 1 - i) z (by rw [show i + (w.length - 1 - i) = w.length - 1 by omega]; exact z2)) (W.go w hw z z1)
  have main : ∀ s ∈ sp, (s.2 = true → R s.1) ∧ (s.2 = false → R s.1 ∨ s.1 ∈ X) := ind _ (fun s h1 h2 => ⟨fun z => (nomatch z), fun _ => by
      by_cases h : s ∈ X
      · exact .inr h
      · exact .inl (r0 s h1 h2 h)⟩) (fun a b ha hb => by
    obtain ⟨v, o⟩ := a
    obtain ⟨u, q⟩ := b
    cases o with
    | true =>
      have hv := ha.1 rfl
      cases q with
      | true => cases (nx_T hb).1
      | false =>
        refine ⟨fun z => (nomatch z), fun _ => ?_⟩
        obtain ⟨_, h | h⟩ := nx_F hb
        · by_cases hx : u ∈ X
          · exact .inr hx
          · exact .inl (r1 v u hv h.1 h.2 hx)
        · rw [h.1]
          exact .inl hv
    | false =>
      cases q with
      | false => cases (nx_F hb).1
      | true =>
        refine ⟨fun _ => ?_, fun z => (nomatch z)⟩
        obtain ⟨_, h | h⟩ := nx_T hb
        · rcases ha.2 rfl with h2 | h2
          · show R u
            rw [h.2]
            exact h2
          · obtain ⟨w, hw, e⟩ := (hX v).mp h2
            exact absurd (by rw [← e]; exact hf w hw) ((T.no v).mp h.1 w hw)
        · obtain ⟨w, hw, i, e1, e2⟩ := links_iff.mp ((T.pr _ _).mp h)
          obtain ⟨k, hk⟩ := List.mem_iff_getElem?.mp (hf w hw)
          have hik : i < k := by
            rcases Nat.lt_or_ge i k with q | q
            · exact q
            · exfalso
              rcases ha.2 rfl with h2 | h2
              · exact aft hw k hk (i + 1) v (by omega) e2 h2
              · have := onX hw (List.mem_of_getElem? e2) h2
                replace this : v = f w := this
                subst this
                have := nd_ix ((fl_parts.mp W.nd).1 w hw) e2 hk
                omega
          exact bef hw k hk i u hik e1)
  obtain ⟨_, b0, b1, _⟩ := cut_cuts (src := src) S h0 hc
  have key : ∀ c, (c, false) ∈ sp → c ∉ cut → (c, true) ∈ sp := fun c h hn => Classical.byContradiction fun h2 => hn (hc c ⟨h, h2⟩)
  exact ⟨fun v => (v, true) ∈ sp, fun s hs h1 h2 => key s (h0 s hs h1) h2, fun a b ha hb h1 h2 => key b (S.cl _ ha _ (nx_out hb h1)) h2, fun g hg hgg => rX g ((main _ hg).1 rfl) hgg⟩
/-! one more closed cell -/
theorem cuts_more {x : Int} (C : Cuts nb (closed ++ [x]) src goals K) : Cuts nb closed src goals (K ++ [x]) := by
  obtain ⟨R, r0, r1, r2⟩ := C
  have h : ∀ {c : Int}, c ∉ closed → c ∉ K ++ [x] → c ∉ closed ++ [x] ∧ c ∉ K := fun {c} h1 h2 => by
    simp only [List.mem_append, List.mem_singleton, not_or] at h2 ⊢
    exact ⟨⟨h1, h2.2⟩, h2.1⟩
  exact ⟨R, fun s hs h1 h2 => r0 s hs (h h1 h2).1 (h h1 h2).2, fun a b ha hb h1 h2 => r1 a b ha hb (h h1 h2).1 (h h1 h2).2, r2⟩
theorem cuts_same {x : Int} (hx : x ∈ closed) (C : Cuts nb (closed ++ [x]) src goals K) : Cuts nb closed src goals K := by
  obtain ⟨R, r0, r1, r2⟩ := C
  have h : ∀ {c : Int}, c ∉ closed → c ∉ closed ++ [x] := fun {c} h1 => by
    simp only [List.mem_append, List.mem_singleton, not_or]
    exact ⟨h1, fun e => h1 (by rw [e]; exact hx)⟩
  exact ⟨R, fun s hs h1 h2 => r0 s hs (h h1) h2, fun a b ha hb h1 h2 => r1 a b ha hb (h h1) h2, r2⟩
theorem cuts_less {x : Int} (C : Cuts nb closed src goals K) : Cuts nb (closed ++ [x]) src goals (K.filter fun c => !decide (c = x)) := by
  obtain ⟨R, r0, r1, r2⟩ := C
  have h : ∀ {c : Int}, c ∉ closed ++ [x] → c ∉ (K.filter fun c => !decide (c = x)) → c ∉ closed ∧ c ∉ K := fun {c} h1 h2 => by
    simp only [List.mem_append, List.mem_singleton, not_or] at h1
    exact ⟨h1.1, fun hk => h2 (List.mem_filter.mpr ⟨hk, by simpa using h1.2⟩)⟩
  exact ⟨R, fun s hs h1 h2 => r0 s hs (h h1 h2).1 (h h1 h2).2, fun a b ha hb h1 h2 => r1 a b ha hb (h h1 h2).1 (h h1 h2).2, r2⟩
end
/-! ### the search -/
/-- in the search -/
structure Exi (N : Spot → List Spot) (st sp : List Spot) (pa : List (Option Int)) (k : Nat) : Prop where
  len : pa.length = sp.length
  nd : sp.Nodup
  sst : ∀ s ∈ st, s ∈ sp
  non : ∀ (i : Nat) s, pa[i]? = some none → sp[i]? = some s → s ∈ st
  som : ∀ (i : Nat) p s, pa[i]? = some (some p) → sp[i]? = some s → ∃ j : Nat, p = (j : Int) ∧ j < i ∧ j ≤ k ∧ ∃ t, sp[j]? = some t ∧ s ∈ N t
  up : ∀ (i j : Nat) p q, i ≤ j → pa[i]? = some (some p) → pa[j]? = some q → ∃ r, q = some r ∧ p ≤ r
  dn : ∀ (i : Nat) a, i < k → sp[i]? = some a → ∀ b ∈ N a, b ∈ sp
  kl : k ≤ sp.length
section
variable {N : Spot → List Spot} {st sp : List Spot} {pa : List (Option Int)} {k : Nat}
theorem exi_start (h : st.Nodup) : Exi N st st (st.map fun _ => none) 0 := by
  have hm : ∀ {i : Nat} {p}, (st.map fun _ => (none : Option Int))[i]? = some (some p) → False := fun {i p} e => by
    rw [List.getElem?_map] at e
    cases q : st[i]? with
    | none => rw [q] at e; cases e
    | some _ => rw [q] at e; cases e
  exact ⟨by rw [List.length_map], h, fun s hs => hs, fun i s _ e => List.mem_of_getElem? e, fun i p s e => (hm e).elim, fun i j p q _ e => (hm e).elim, fun i a h => absurd h (Nat.not_lt_zero _), Nat.zero_le _⟩
theorem exi_add (E : Exi N st sp pa k) {a b : Spot} (ha : sp[k]? = some a) (hb : b ∈ N a) (hn : b ∉ sp) : Exi N st (sp ++ [b]) (pa ++ [some (k : Int)]) k := by
  have hk := (List.getElem?_eq_some_iff.mp ha).1
  have old : ∀ {i : Nat} {s : Spot}, sp[i]? = some s → (sp ++ [b])[i]? = some s := fun {i s} e => by
    rw [List.getElem?_append_left (List.getElem?_eq_some_iff.mp e).1]
    exact e
  have get : ∀ {i : Nat} {s : Spot}, (sp ++ [b])[i]? = some s → sp[i]? = some s ∨ (i = sp.length ∧ s = b) := fun {i s} e => by
    rw [List.getElem?_append] at e
    split at e
    · exact .inl e
    · rw [List.getElem?_singleton] at e
      split at e
      · cases e
        exact .inr ⟨by omega, rfl⟩
      · cases e
  have gp : ∀ {i : Nat} {q}, (pa ++ [some (k : Int)])[i]? = some q → pa[i]? = some q ∨ (i = sp.length ∧ q = some (k : Int)) := fun {i q} e => by
    rw [List.getElem?_append] at e
    split at e
    · exact .inl e
    · rw [List.getElem?_singleton] at e
      split at e
      · cases e
        exact .inr ⟨by rw [← E.len]; omega, rfl⟩
      · cases e
  have pin : ∀ {i : Nat} {q}, pa[i]? = some q → i < sp.length := fun e => by rw [← E.len]; exact (List.getElem?_eq_some_iff.mp e).1
  have sin : ∀ {i : Nat} {q}, sp[i]? = some q → i < sp.length := fun e => (List.getElem?_eq_some_iff.mp e).1
  refine ⟨by rw [List.length_append, List.length_append, E.len]; rfl, ?_, fun s hs => List.mem_append.mpr (.inl (E.sst s hs)), fun i s e1 e2 => ?_, fun i p s e1 e2 => ?_, fun i j p q hij e1 e2 => ?_, fun i c hi e y hy => ?_, ?_⟩
  · rw [List.nodup_append]
    refine ⟨E.nd, by simp, fun x hx y hy e => ?_⟩
    cases List.mem_singleton.mp hy
    subst e
    exact hn hx
  · rcases gp e1 with h1 | ⟨_, h1⟩
    · rcases get e2 with h2 | ⟨h2, _⟩
      · exact E.non i s h1 h2
      · have := pin h1
        omega
    · cases h1
  · rcases gp e1 with h1 | ⟨h0, h1⟩
    · rcases get e2 with h2 | ⟨h2, _⟩
      · obtain ⟨j, z1, z2, z3, t, z4, z5⟩ := E.som i p s h1 h2
        exact ⟨j, z1, z2, z3, t, old z4, z5⟩
      · have := pin h1
        omega
    · cases h1
      rcases get e2 with h2 | ⟨h2, h3⟩
      · have := sin h2
        omega
      · subst h3
        exact ⟨k, rfl, by omega, Nat.le_refl _, a, old ha, hb⟩
  · rcases gp e2 with h2 | ⟨h0, h2⟩
    · rcases gp e1 with h1 | ⟨h3, h1⟩
      · exact E.up i j p q hij h1 h2
      · have := pin h2
        omega
    · refine ⟨(k : Int), h2, ?_⟩
      rcases gp e1 with h1 | ⟨h3, h1⟩
      · have hi := pin h1
        obtain ⟨m, z1, z2, z3, _⟩ := E.som i p _ h1 (List.getElem?_eq_getElem hi)
        omega
      · cases h1
        exact Int.le_refl _
  · rcases get e with h | ⟨h, _⟩
    · exact List.mem_append.mpr (.inl (E.dn i c hi h y hy))
    · have := E.kl
      omega
  · rw [List.length_append]
    have := E.kl
    omega
theorem exi_next (E : Exi N st sp pa k) {a : Spot} (ha : sp[k]? = some a) (h : ∀ b ∈ N a, b ∈ sp) : Exi N st sp pa (k + 1) := by
  refine ⟨E.len, E.nd, E.sst, E.non, fun i p s e1 e2 => ?_, E.up, fun i c hi e y hy => ?_, (List.getElem?_eq_some_iff.mp ha).1⟩
  · obtain ⟨j, z1, z2, z3, z⟩ := E.som i p s e1 e2
    exact ⟨j, z1, z2, by omega, z⟩
  · by_cases q : i = k
    · subst q
      rw [ha] at e
      cases e
      exact h y hy
    · exact E.dn i c (by omega) e y hy
theorem Exi.all (E : Exi N st sp pa sp.length) : ∀ a ∈ sp, ∀ b ∈ N a, b ∈ sp := fun a ha b hb => by
  obtain ⟨i, hi⟩ := List.mem_iff_getElem?.mp ha
  exact E.dn i a (List.getElem?_eq_some_iff.mp hi).1 hi b hb
/-- what holds at the starts and goes on holds at all -/
theorem Exi.ind (E : Exi N st sp pa k) {Y : Spot → Prop} (h0 : ∀ s ∈ st, Y s) (h1 : ∀ a b, Y a → b ∈ N a → Y b) : ∀ s ∈ sp, Y s := by
  have key : ∀ (i : Nat), ∀ s, sp[i]? = some s → Y s := fun i => by
    induction i using Nat.strongRecOn with
    | _ i ih =>
      intro s e
      have hi : i < pa.length := by rw [E.len]; exact (List.getElem?_eq_some_iff.mp e).1
      cases hp : pa[i] with
      | none => exact h0 s (E.non i s (by rw [List.getElem?_eq_getElem hi, hp]) e)
      | some p =>
        obtain ⟨j, _, hj, _, t, ht, hs⟩ := E.som i p s (by rw [List.getElem?_eq_getElem hi, hp]) e
        exact h1 t s (ih j hj t ht) hs
  intro s hs
  obtain ⟨i, hi⟩ := List.mem_iff_getElem?.mp hs
  exact key i s hi
end
end Mg

set_option Elab.async false
set_option linter.all false
set_option maxRecDepth 100000
set_option maxHeartbeats 4000000
namespace Cw
open PySem L2 Cf
open PySem.Spec PyProof.Rows
open Rp (rp)
open RpL (rpl)
def top (i : Nat) : Stmt := PySem.Challenge.pw_clearfloor_k00_rows_written_back.main.body.getD i (.Pass ⟨0, 0, 0, 0⟩)
structure Tx (K : Fg) (mg : Str → Option Value) : Prop where
  free_any : mg "any" = none
  free_int : mg "int" = none
  free_isinstance : mg "isinstance" = none
  free_len : mg "len" = none
  free_list : mg "list" = none
  free_max : mg "max" = none
  free_range : mg "range" = none
  free_str : mg "str" = none
  int_CELL_LIMIT : ∃ t, mg "CELL_LIMIT" = some (.int 120 t)
  int_COLUMN_LIMIT : ∃ t, mg "COLUMN_LIMIT" = some (.int 16 t)
  int_ROW_LIMIT : ∃ t, mg "ROW_LIMIT" = some (.int 16 t)
  int_STATION_LIMIT : ∃ t, mg "STATION_LIMIT" = some (.int 8 t)
  str_CAPITALS : ∃ t, mg "CAPITALS" = some (.str "ABCDEFGHIJKLMNOPQRSTUVWXYZ" t)
  str_SMALL_LETTERS : ∃ t, mg "SMALL_LETTERS" = some (.str "abcdefghijklmnopqrstuvwxyz" t)
section
variable {P : Program} {w : World} {K : Fg} {mg : Str → Option Value} {base : Heap}
def m_l_cell (a_l_script : Scr) (a_l_k : Int) : Option Int :=
 (Option.bind (some ((decide (a_l_k < ((a_l_script.l.length : Int)))))) fun b => if b = true then
 (at? a_l_script.l a_l_k)
 else
 (some (0 : Int)))
abbrev s_l_cell : Stmt := top 22
theorem sc_l_cell : FnScope ["_law_script", "_law_k"] ["_law_script", "_law_k"] (defScope s_l_cell) := ⟨rfl, rfl, rfl, by decide +kernel, rfl, by decide +kernel, by decide +kernel⟩
abbrev sp_l_cell (K : Fg) : Sp := spP K (fun t : Scr × Int × Unit => m_l_cell t.1 t.2.1)
set_option maxHeartbeats 0 in
theorem ok_l_cell {f : Addr} {fd : FuncData} (F : FunD K "_law_cell" "_law_cell" (defArgs s_l_cell) (defBody s_l_cell) (defScope s_l_cell) [] [] f fd) (T : Tx K mg)  : FnOk P w K mg base CX0 1 f fd ["_law_script", "_law_k"] (sp_l_cell K) := by
  have sc := sc_l_cell
  refine F.ok sc (fun vs H Q E h => ?_) (fun cdv A outer s H vs Q E hr h => ?_)
  · obtain ⟨Bs, t, r, ex, ⟨u0, _, rfl, hu0, ⟨u1, _, rfl, hu1, hz⟩⟩, hm, hQ⟩ := h
    cases hz
    rfl
  · obtain ⟨Bs, ⟨a_l_script, a_l_k, ⟨⟩⟩, r, ex, ⟨u0, _, rfl, hu0, ⟨u1, _, rfl, hu1, hz⟩⟩, hm, hQ⟩ := h
    cases hz
    replace hu0 : rp K Bs u0 a_l_script := hu0
    replace hu1 : rp K Bs u1 a_l_k := hu1
    replace hm : m_l_cell a_l_script a_l_k = some r := hm
    obtain ⟨Hs, eHs⟩ : ∃ Hs, Hs = H := ⟨_, rfl⟩
    subst eHs
    have N : Now noM Bs Hs oE emp Bs Hs () := nowE ex
    unfold m_l_cell at hm
    refine ⟨_, PSs.nox (pss_cons (ps_if (pt_cmpR op_lt (pv 1) (pe_callB (call_len_K (K := K) rfl) rfl T.free_len boot_len (pa_cons (pv 0) pa_nil)) (nomark _)) (pss_one (ps_ret (pe_ix (ix_listK (K := K) rfl) (pv 0) (pv 1) (fun _ _ => rfl)))) pss_nil) (pss_one (ps_ret pe_int))), ?_⟩
    refine sq ?_
    refine st_if hm N.ex (ct_test (cp_op r2_lt (cp_var rfl hu1) (cp_cb rc_lenScr (ca_cons (cp_var rfl hu0) ca_nil)))) rfl (fun B1 H2 hc4 hm g3 => ?_) (fun B1 H2 hc4 hm g3 => ?_)
    · replace N := N.pure g3
      replace hu0 := Rp.mono g3.b hu0
      replace hu1 := Rp.mono g3.b hu1
      refine st_ret (K := K) hm N.ex (cp_op r2_ixScr (cp_var rfl hu0) (cp_var rfl hu1)) (by first | rfl | simp only [o2, Option.bind_assoc, Option.bind_some]) fun v B1 H1 g hv => ?_
      exact hQ v B1 H1 (N.g.then g) hv
    · replace N := N.pure g3
      replace hu0 := Rp.mono g3.b hu0
      replace hu1 := Rp.mono g3.b hu1
      refine nxt ?_
      refine gnx ?_
      refine st_ret (K := K) hm N.ex cp_int rfl fun v B1 H1 g hv => ?_
      exact hQ v B1 H1 (N.g.then g) hv
def m_l_digits_b3 (p_l_script : Scr) (p_l_first : Int) (p_l_last : Int) (p_l_k : Int) (p_l_cell_here : Int) (p_l_turn : Int) (p_st : (Unit × (List Int))) (p_l_seed : Int) : Option ((Unit × (List Int)) × Int) :=
 (Option.bind (o2 (o2 (o2 (pmul p_l_seed (16807 : Int)) (pmul (7 : Int) p_l_turn) fun x y => some (x + y)) (some (1 : Int)) fun x y => some (x + y)) (some (2147483647 : Int)) fun x y => pmod x y) fun l_seed129 =>
 (Option.bind (Option.bind (Option.bind (o2 (pdiv l_seed129 (997 : Int)) (some (1000 : Int)) fun x y => pmod x y) fun x => some (x, p_st)) fun p135 => Option.bind (papp p135.2.2 p135.1) fun q136 => some ((), (p135.2.1, q136))) fun p142 =>
 some (p142.2, l_seed129)))
def m_l_digits_b2 (p_l_script : Scr) (p_l_first : Int) (p_l_last : Int) (p_l_k : Int) (p_l_turn : Int) (p_st : (Unit × (List Int))) (p_l_cell_here : Int) : Option ((Unit × (List Int)) × Int) :=
 (Option.bind (some ((decide (p_l_cell_here > (0 : Int))))) fun b => if b = true then
 (Option.bind (Option.bind (Option.bind (pmod p_l_cell_here (1000 : Int)) fun x => some (x, p_st)) fun p86 => Option.bind (papp p86.2.2 p86.1) fun q87 => some ((), (p86.2.1, q87))) fun p99 =>
 (Option.bind (pdiv p_l_cell_here (1000 : Int)) fun l_cell_here93 =>
 some (p99.2, l_cell_here93)))
 else
 some (p_st, p_l_cell_here))
def m_l_digits_b1 (p_l_script : Scr) (p_l_first : Int) (p_l_last : Int) (p_l_k : Int) (p_st : (Unit × (List Int))) : Option ((Unit × (List Int))) :=
 (Option.bind (m_l_cell p_l_script p_l_k) fun l_cell_here23 =>
 (Option.bind (Option.bind (some ((decide (l_cell_here23 < (0 : Int))))) fun b150 => if b150 = true then
 (Option.bind (o2 (some (1 : Int)) (pmul (2 : Int) l_cell_here23) fun x y => some (x - y)) fun l_cell_here39 =>
 (some (p_st, l_cell_here39)))
 else
 (some (p_st, l_cell_here23))) fun z55 =>
 (Option.bind (o2 (some z55.2) (ppow (10 : Int) (18 : Int)) fun x y => some ((decide (x ≥ y)))) fun b => if b = true then
 (Option.bind (Option.bind (some (60 : Int)) fun n => prange1 n) fun xs => Option.bind (forN (fun x (s : (Unit × (List Int)) × Int) => m_l_digits_b2 p_l_script p_l_first p_l_last p_l_k x s.1 s.2) xs (z55.1, z55.2)) fun s100 =>
 some (s100.1))
 else
 (Option.bind (o2 (o2 (o2 (pmul z55.2 (48271 : Int)) (pmul p_l_k (69621 : Int)) fun x y => some (x + y)) (some (11 : Int)) fun x y => some (x + y)) (some (2147483647 : Int)) fun x y => pmod x y) fun l_seed107 =>
 (Option.bind (Option.bind (some (12 : Int)) fun n => prange1 n) fun xs => Option.bind (forN (fun x (s : (Unit × (List Int)) × Int) => m_l_digits_b3 p_l_script p_l_first p_l_last p_l_k z55.2 x s.1 s.2) xs (z55.1, l_seed107)) fun s143 =>
 some (s143.1))))))
def m_l_digits (a_l_script : Scr) (a_l_first : Int) (a_l_last : Int) : Option (List Int) :=
 (Option.bind (some (([] : List Int), ())) fun p160 =>
 (Option.bind (Option.bind (some (a_l_first, a_l_last)) fun n => prange2 n.1 n.2) fun xs => Option.bind (forN (fun x (s : (Unit × (List Int))) => m_l_digits_b1 a_l_script a_l_first a_l_last x s) xs ((p160.2, p160.1))) fun s151 =>
 (some s151.2)))
abbrev s_l_digits : Stmt := top 23
theorem sc_l_digits : FnScope ["_law_script", "_law_first", "_law_last", "_law_digits_here", "_law_k", "_law_cell_here", "_law_turn", "_law_seed"] ["_law_script", "_law_first", "_law_last"] (defScope s_l_digits) := ⟨rfl, rfl, rfl, by decide +kernel, rfl, by decide +kernel, by decide +kernel⟩
abbrev sp_l_digits (K : Fg) : Sp := spP K (fun t : Scr × Int × Int × Unit => m_l_digits t.1 t.2.1 t.2.2.1)
set_option maxHeartbeats 0 in
theorem ok_l_digits {f : Addr} {fd : FuncData} (F : FunD K "_law_digits" "_law_digits" (defArgs s_l_digits) (defBody s_l_digits) (defScope s_l_digits) [] [] f fd) (T : Tx K mg) (c_l_cell : Fc P w K mg base 1 "_law_cell" ["_law_script", "_law_k"] (sp_l_cell K)) : FnOk P w K mg base CX0 2 f fd ["_law_script", "_law_first", "_law_last"] (sp_l_digits K) := by
  have sc := sc_l_digits
  refine F.ok sc (fun vs H Q E h => ?_) (fun cdv A outer s H vs Q E hr h => ?_)
  · obtain ⟨Bs, t, r, ex, ⟨u0, _, rfl, hu0, ⟨u1, _, rfl, hu1, ⟨u2, _, rfl, hu2, hz⟩⟩⟩, hm, hQ⟩ := h
    cases hz
    rfl
  · obtain ⟨Bs, ⟨a_l_script, a_l_first, a_l_last, ⟨⟩⟩, r, ex, ⟨u0, _, rfl, hu0, ⟨u1, _, rfl, hu1, ⟨u2, _, rfl, hu2, hz⟩⟩⟩, hm, hQ⟩ := h
    cases hz
    replace hu0 : rp K Bs u0 a_l_script := hu0
    replace hu1 : rp K Bs u1 a_l_first := hu1
    replace hu2 : rp K Bs u2 a_l_last := hu2
    replace hm : m_l_digits a_l_script a_l_first a_l_last = some r := hm
    obtain ⟨Hs, eHs⟩ : ∃ Hs, Hs = H := ⟨_, rfl⟩
    subst eHs
    have N : Now noM Bs Hs oE emp Bs Hs () := nowE ex
    unfold m_l_digits at hm
    refine ⟨_, PSs.nox (pss_cons (ps_set (i := 3) sc.nd rfl (.inl rfl) (pe_lst pa_nil)) (pss_cons (ps_for PassesOwn.never rfl (pi_range2 rfl T.free_range (pa_cons (pv 1) (pa_cons (pv 2) pa_nil))) (pg_name (i := 4) sc.nd rfl (.inl rfl)) (pss_cons (ps_set (i := 5) sc.nd rfl (.inl rfl) (pe_fc c_l_cell hr (by decide) rfl (pa_cons (pv 0) (pa_cons (pv 4) pa_nil)))) (pss_cons (ps_if (pt_cmpR op_lt (pv 5) pe_int (nomark _)) (pss_one (ps_set (i := 5) sc.nd rfl (.inl rfl) (pe_op op_sub pe_int (pe_op op_mul pe_int (pv 5))))) pss_nil) (pss_one (ps_if (pt_cmpR op_ge (pv 5) (pe_op op_pow pe_int pe_int) (nomark _)) (pss_one (ps_for PassesOwn.never rfl (pi_range1 rfl T.free_range (pa_cons pe_int pa_nil)) (pg_name (i := 6) sc.nd rfl (.inl rfl)) (pss_one (ps_if (pt_cmpR op_gt (pv 5) pe_int (nomark _)) (pss_cons (ps_expr (pe_bm PySem.F.plainAttrs_list PySem.F.slot_list_append PySem.F.type_list_append mt_append (pv 3) (pa_cons (pe_op op_mod (pe_callTy call_int_ rfl T.free_int boot_int (pa_cons (pv 5) pa_nil)) pe_int) pa_nil))) (pss_one (ps_set (i := 5) sc.nd rfl (.inl rfl) (pe_op op_fdiv (pv 5) pe_int)))) pss_nil)))) (pss_cons (ps_set (i := 7) sc.nd rfl (.inl rfl) (pe_op op_mod (pe_callTy call_int_ rfl T.free_int boot_int (pa_cons (pe_op op_add (pe_op op_add (pe_op op_mul (pv 5) pe_int) (pe_op op_mul (pv 4) pe_int)) pe_int) pa_nil)) pe_int)) (pss_one (ps_for PassesOwn.never rfl (pi_range1 rfl T.free_range (pa_cons pe_int pa_nil)) (pg_name (i := 6) sc.nd rfl (.inl rfl)) (pss_cons (ps_set (i := 7) sc.nd rfl (.inl rfl) (pe_op op_mod (pe_callTy call_int_ rfl T.free_int boot_int (pa_cons (pe_op op_add (pe_op op_add (pe_op op_mul (pv 7) pe_int) (pe_op op_mul pe_int (pv 6))) pe_int) pa_nil)) pe_int)) (pss_one (ps_expr (pe_bm PySem.F.plainAttrs_list PySem.F.slot_list_append PySem.F.type_list_append mt_append (pv 3) (pa_cons (pe_op op_mod (pe_callTy call_int_ rfl T.free_int boot_int (pa_cons (pe_op op_fdiv (pv 7) pe_int) pa_nil)) pe_int) pa_nil))))))))))))) (pss_one (ps_ret (pv 3))))), ?_⟩
    refine sq ?_
    refine st_asgL (K := K) hm N (Co.s (co_nil (α := Int))) (by first | rfl | simp only [o2, Option.bind_assoc, Option.bind_some]) fun l_digits_here1 s2 pl3 W4 B5 H6 hm N eb7 fp8 => ?_
    replace hu0 := Rp.mono eb7 hu0
    replace hu1 := Rp.mono eb7 hu1
    replace hu2 := Rp.mono eb7 hu2
    try dsimp only at hm
    refine gnx ?_
    refine sq ?_
    refine st_forN_r2 (K := K) (fun Be (s : (Unit × (List Int))) B σ H => ∃ (W : Hp) (o4 : Option V) (o5 : Option V) (o6 : Option V) (o7 : Option V), Now noM Bs Hs (star oE (OwL (α := Int) K pl3)) W B H s ∧ Ex B5 B ∧ Ex Be B ∧ σ = [some u0, some u1, some u2, some (.ref pl3), o4, o5, o6, o7]) hm N.ex (ca_cons (cp_var rfl hu1) (ca_cons (cp_var rfl hu2) ca_nil)) (by first | rfl | simp only [o2, Option.bind_assoc, Option.bind_some]) (fun Be H1 g => ⟨_, _, _, _, _, N.pure g, g.b, Ex.refl _, rfl⟩) ?_ ?_
    · rintro Be x9 s10 B12 σ H13 v14 c15 N16 ⟨W11, _, _, _, _, N, eb21, ee22, rfl⟩ hv17 hm hn18
      unfold m_l_digits_b1 at hm
      replace hu0 := Rp.mono eb21 hu0
      replace hu1 := Rp.mono eb21 hu1
      replace hu2 := Rp.mono eb21 hu2
      refine gnm ?_
      refine sq ?_
      refine st_asg (K := K) hm N.ex (cp_call0 (ca_cons0 (cp_var rfl hu0) (ca_cons0 (cp_var rfl hv17) ca_nil0))) (by first | rfl | simp only [o2, Option.bind_assoc, Option.bind_some]) fun l_cell_here23 v24 B25 H26 _ hm g27 h28 => ?_
      replace N := N.pure g27
      replace eb21 := eb21.trans g27.b
      replace ee22 := ee22.trans g27.b
      replace hu0 := Rp.mono g27.b hu0
      replace hu1 := Rp.mono g27.b hu1
      replace hu2 := Rp.mono g27.b hu2
      replace hv17 := Rp.mono g27.b hv17
      refine gnx ?_
      refine sq ?_
      refine st_ifJ hm (fun (z : (Unit × (List Int)) × Int) σ H => ∃ (W B : Hp) (w_l_cell_here : V) (o6 : Option V) (o7 : Option V), Now noM Bs Hs (star oE (OwL (α := Int) K pl3)) W B H z.1 ∧ Ex B25 B ∧ σ = [some u0, some u1, some u2, some (.ref pl3), some v14, some w_l_cell_here, o6, o7] ∧ rp K B w_l_cell_here z.2) N.ex (ct_test (cp_op r2_lt (cp_var rfl h28) cp_int)) (by first | rfl | simp only [o2, Option.bind_assoc, Option.bind_some]) ?_ ?_ ?_
      · intro z29 B32 H33 N34 hc35 hm g36 hn37
        have ej38 := g36.b
        replace N := N.pure g36
        replace eb21 := eb21.trans g36.b
        replace ee22 := ee22.trans g36.b
        replace hu0 := Rp.mono g36.b hu0
        replace hu1 := Rp.mono g36.b hu1
        replace hu2 := Rp.mono g36.b hu2
        replace hv17 := Rp.mono g36.b hv17
        replace h28 := Rp.mono g36.b h28
        refine st_asg (K := K) hm N.ex (cp_op r2_sub cp_int (cp_op r2_mul cp_int (cp_var rfl h28))) (by first | rfl | simp only [o2, Option.bind_assoc, Option.bind_some]) fun l_cell_here39 v40 B41 H42 _ hm g43 h44 => ?_
        replace N := N.pure g43
        replace eb21 := eb21.trans g43.b
        replace ee22 := ee22.trans g43.b
        replace ej38 := ej38.trans g43.b
        replace hu0 := Rp.mono g43.b hu0
        replace hu1 := Rp.mono g43.b hu1
        replace hu2 := Rp.mono g43.b hu2
        replace hv17 := Rp.mono g43.b hv17
        cases hm
        exact hn37 _ _ ⟨_, _, v40, _, _, N, ej38, rfl, h44⟩
      · intro z45 B48 H49 N50 hc51 hm g52 hn53
        have ej54 := g52.b
        replace N := N.pure g52
        replace eb21 := eb21.trans g52.b
        replace ee22 := ee22.trans g52.b
        replace hu0 := Rp.mono g52.b hu0
        replace hu1 := Rp.mono g52.b hu1
        replace hu2 := Rp.mono g52.b hu2
        replace hv17 := Rp.mono g52.b hv17
        replace h28 := Rp.mono g52.b h28
        refine nxt ?_
        cases hm
        exact hn53 _ _ ⟨_, _, v24, _, _, N, ej54, rfl, h28⟩
      · rintro z55 σ H58 hm ⟨W56, B57, w60, _, _, N, eb59, rfl, h61⟩
        replace eb21 := eb21.trans eb59
        replace ee22 := ee22.trans eb59
        replace hu0 := Rp.mono eb59 hu0
        replace hu1 := Rp.mono eb59 hu1
        replace hu2 := Rp.mono eb59 hu2
        replace hv17 := Rp.mono eb59 hv17
        refine gnx ?_
        refine st_if hm N.ex (ct_test (cp_op r2_ge (cp_var rfl h61) (cp_op r2_pow cp_int cp_int))) (by first | rfl | simp only [o2, Option.bind_assoc, Option.bind_some]) (fun B62 H63 hc65 hm g64 => ?_) (fun B62 H63 hc65 hm g64 => ?_)
        · replace N := N.pure g64
          replace eb21 := eb21.trans g64.b
          replace ee22 := ee22.trans g64.b
          replace hu0 := Rp.mono g64.b hu0
          replace hu1 := Rp.mono g64.b hu1
          replace hu2 := Rp.mono g64.b hu2
          replace hv17 := Rp.mono g64.b hv17
          replace h61 := Rp.mono g64.b h61
          refine st_forN_r1 (K := K) (fun Be (s : (Unit × (List Int)) × Int) B σ H => ∃ (W : Hp) (w_l_cell_here : V) (o6 : Option V) (o7 : Option V), Now noM Bs Hs (star oE (OwL (α := Int) K pl3)) W B H s.1 ∧ Ex B62 B ∧ Ex Be B ∧ σ = [some u0, some u1, some u2, some (.ref pl3), some v14, some w_l_cell_here, o6, o7] ∧ rp K B w_l_cell_here s.2) hm N.ex (ca_cons cp_int ca_nil) (by first | rfl | simp only [o2, Option.bind_assoc, Option.bind_some]) (fun Be H1 g => ⟨_, w60, _, _, N.pure g, g.b, Ex.refl _, rfl, Rp.mono g.b h61⟩) ?_ ?_
          · rintro Be x66 s67 B69 σ H70 v71 c72 N73 ⟨W68, w80, _, _, N, eb78, ee79, rfl, h81⟩ hv74 hm hn75
            unfold m_l_digits_b2 at hm
            replace eb21 := eb21.trans eb78
            replace ee22 := ee22.trans eb78
            replace hu0 := Rp.mono eb78 hu0
            replace hu1 := Rp.mono eb78 hu1
            replace hu2 := Rp.mono eb78 hu2
            replace hv17 := Rp.mono eb78 hv17
            refine gnm ?_
            refine st_if hm N.ex (ct_test (cp_op r2_gt (cp_var rfl h81) cp_int)) rfl (fun B82 H83 hc85 hm g84 => ?_) (fun B82 H83 hc85 hm g84 => ?_)
            · replace N := N.pure g84
              replace eb21 := eb21.trans g84.b
              replace ee22 := ee22.trans g84.b
              replace eb78 := eb78.trans g84.b
              replace ee79 := ee79.trans g84.b
              replace hu0 := Rp.mono g84.b hu0
              replace hu1 := Rp.mono g84.b hu1
              replace hu2 := Rp.mono g84.b hu2
              replace hv17 := Rp.mono g84.b hv17
              replace h81 := Rp.mono g84.b h81
              replace hv74 := Rp.mono g84.b hv74
              refine sq ?_
              refine st_dropS (K := K) hm N (cs_append ln_r rfl (Cp.s (cp_op r2_mod (cp_int1 (cp_var rfl h81)) cp_int))) (by first | rfl | simp only [o2, Option.bind_assoc, Option.bind_some]) fun _ s88 W89 B90 H91 hm N eb92 => ?_
              try dsimp only at hm
              replace eb21 := eb21.trans eb92
              replace ee22 := ee22.trans eb92
              replace eb78 := eb78.trans eb92
              replace ee79 := ee79.trans eb92
              replace hu0 := Rp.mono eb92 hu0
              replace hu1 := Rp.mono eb92 hu1
              replace hu2 := Rp.mono eb92 hu2
              replace hv17 := Rp.mono eb92 hv17
              replace h81 := Rp.mono eb92 h81
              replace hv74 := Rp.mono eb92 hv74
              refine gnx ?_
              refine st_asg (K := K) hm N.ex (cp_op r2_div (cp_var rfl h81) cp_int) (by first | rfl | simp only [o2, Option.bind_assoc, Option.bind_some]) fun l_cell_here93 v94 B95 H96 _ hm g97 h98 => ?_
              replace N := N.pure g97
              replace eb21 := eb21.trans g97.b
              replace ee22 := ee22.trans g97.b
              replace eb78 := eb78.trans g97.b
              replace ee79 := ee79.trans g97.b
              replace hu0 := Rp.mono g97.b hu0
              replace hu1 := Rp.mono g97.b hu1
              replace hu2 := Rp.mono g97.b hu2
              replace hv17 := Rp.mono g97.b hv17
              replace hv74 := Rp.mono g97.b hv74
              cases hm
              exact hn75 _ _ _ ⟨_, v94, _, _, N, eb78, ee79, rfl, h98⟩
            · replace N := N.pure g84
              replace eb21 := eb21.trans g84.b
              replace ee22 := ee22.trans g84.b
              replace eb78 := eb78.trans g84.b
              replace ee79 := ee79.trans g84.b
              replace hu0 := Rp.mono g84.b hu0
              replace hu1 := Rp.mono g84.b hu1
              replace hu2 := Rp.mono g84.b hu2
              replace hv17 := Rp.mono g84.b hv17
              replace h81 := Rp.mono g84.b h81
              replace hv74 := Rp.mono g84.b hv74
              refine nxt ?_
              cases hm
              exact hn75 _ _ _ ⟨_, w80, _, _, N, eb78, ee79, rfl, h81⟩
          · rintro Be s100 B102 σ H103 hm ⟨W101, w105, _, _, N, eb104, _, rfl, h106⟩
            replace eb21 := eb21.trans eb104
            replace ee22 := ee22.trans eb104
            replace hu0 := Rp.mono eb104 hu0
            replace hu1 := Rp.mono eb104 hu1
            replace hu2 := Rp.mono eb104 hu2
            replace hv17 := Rp.mono eb104 hv17
            cases hm
            exact hn18 _ _ _ ⟨_, _, _, _, _, N, eb21, ee22, rfl⟩
        · replace N := N.pure g64
          replace eb21 := eb21.trans g64.b
          replace ee22 := ee22.trans g64.b
          replace hu0 := Rp.mono g64.b hu0
          replace hu1 := Rp.mono g64.b hu1
          replace hu2 := Rp.mono g64.b hu2
          replace hv17 := Rp.mono g64.b hv17
          replace h61 := Rp.mono g64.b h61
          refine sq ?_
          refine st_asg (K := K) hm N.ex (cp_op r2_mod (cp_int1 (cp_op r2_add (cp_op r2_add (cp_op r2_mul (cp_var rfl h61) cp_int) (cp_op r2_mul (cp_var rfl hv17) cp_int)) cp_int)) cp_int) (by first | rfl | simp only [o2, Option.bind_assoc, Option.bind_some]) fun l_seed107 v108 B109 H110 _ hm g111 h112 => ?_
          replace N := N.pure g111
          replace eb21 := eb21.trans g111.b
          replace ee22 := ee22.trans g111.b
          replace hu0 := Rp.mono g111.b hu0
          replace hu1 := Rp.mono g111.b hu1
          replace hu2 := Rp.mono g111.b hu2
          replace hv17 := Rp.mono g111.b hv17
          replace h61 := Rp.mono g111.b h61
          refine gnx ?_
          refine st_forN_r1 (K := K) (fun Be (s : (Unit × (List Int)) × Int) B σ H => ∃ (W : Hp) (w_l_seed : V) (o6 : Option V), Now noM Bs Hs (star oE (OwL (α := Int) K pl3)) W B H s.1 ∧ Ex B109 B ∧ Ex Be B ∧ σ = [some u0, some u1, some u2, some (.ref pl3), some v14, some w60, o6, some w_l_seed] ∧ rp K B w_l_seed s.2) hm N.ex (ca_cons cp_int ca_nil) (by first | rfl | simp only [o2, Option.bind_assoc, Option.bind_some]) (fun Be H1 g => ⟨_, v108, _, N.pure g, g.b, Ex.refl _, rfl, Rp.mono g.b h112⟩) ?_ ?_
          · rintro Be x113 s114 B116 σ H117 v118 c119 N120 ⟨W115, w127, _, N, eb125, ee126, rfl, h128⟩ hv121 hm hn122
            unfold m_l_digits_b3 at hm
            replace eb21 := eb21.trans eb125
            replace ee22 := ee22.trans eb125
            replace hu0 := Rp.mono eb125 hu0
            replace hu1 := Rp.mono eb125 hu1
            replace hu2 := Rp.mono eb125 hu2
            replace hv17 := Rp.mono eb125 hv17
            replace h61 := Rp.mono eb125 h61
            refine gnm ?_
            refine sq ?_
            refine st_asg (K := K) hm N.ex (cp_op r2_mod (cp_int1 (cp_op r2_add (cp_op r2_add (cp_op r2_mul (cp_var rfl h128) cp_int) (cp_op r2_mul cp_int (cp_var rfl hv121))) cp_int)) cp_int) (by first | rfl | simp only [o2, Option.bind_assoc, Option.bind_some]) fun l_seed129 v130 B131 H132 _ hm g133 h134 => ?_
            replace N := N.pure g133
            replace eb21 := eb21.trans g133.b
            replace ee22 := ee22.trans g133.b
            replace eb125 := eb125.trans g133.b
            replace ee126 := ee126.trans g133.b
            replace hu0 := Rp.mono g133.b hu0
            replace hu1 := Rp.mono g133.b hu1
            replace hu2 := Rp.mono g133.b hu2
            replace hv17 := Rp.mono g133.b hv17
            replace h61 := Rp.mono g133.b h61
            replace hv121 := Rp.mono g133.b hv121
            refine gnx ?_
            refine st_dropS (K := K) hm N (cs_append ln_r rfl (Cp.s (cp_op r2_mod (cp_int1 (cp_op r2_div (cp_var rfl h134) cp_int)) cp_int))) (by first | rfl | simp only [o2, Option.bind_assoc, Option.bind_some]) fun _ s137 W138 B139 H140 hm N eb141 => ?_
            try dsimp only at hm
            replace eb21 := eb21.trans eb141
            replace ee22 := ee22.trans eb141
            replace eb125 := eb125.trans eb141
            replace ee126 := ee126.trans eb141
            replace hu0 := Rp.mono eb141 hu0
            replace hu1 := Rp.mono eb141 hu1
            replace hu2 := Rp.mono eb141 hu2
            replace hv17 := Rp.mono eb141 hv17
            replace h61 := Rp.mono eb141 h61
            replace hv121 := Rp.mono eb141 hv121
            replace h134 := Rp.mono eb141 h134
            cases hm
            exact hn122 _ _ _ ⟨_, v130, _, N, eb125, ee126, rfl, h134⟩
          · rintro Be s143 B145 σ H146 hm ⟨W144, w148, _, N, eb147, _, rfl, h149⟩
            replace eb21 := eb21.trans eb147
            replace ee22 := ee22.trans eb147
            replace hu0 := Rp.mono eb147 hu0
            replace hu1 := Rp.mono eb147 hu1
            replace hu2 := Rp.mono eb147 hu2
            replace hv17 := Rp.mono eb147 hv17
            replace h61 := Rp.mono eb147 h61
            cases hm
            exact hn18 _ _ _ ⟨_, _, _, _, _, N, eb21, ee22, rfl⟩
    · rintro Be s151 B153 σ H154 hm ⟨W152, _, _, _, _, N, eb155, _, rfl⟩
      replace hu0 := Rp.mono eb155 hu0
      replace hu1 := Rp.mono eb155 hu1
      replace hu2 := Rp.mono eb155 hu2
      refine gnx ?_
      obtain ⟨W156, B157, N, eb158, h159⟩ := N.freeze fp8
      replace hu0 := Rp.mono eb158 hu0
      replace hu1 := Rp.mono eb158 hu1
      replace hu2 := Rp.mono eb158 hu2
      refine st_ret (K := K) hm N.ex (cp_var rfl h159) rfl fun v B1 H1 g hv => ?_
      exact hQ v B1 H1 (N.g.then g) hv
end
abbrev s_l_draw : Stmt := top 24
theorem sc_l_draw : FnScope ["_law_box", "_law_many", "_law_at"] ["_law_box", "_law_many"] (defScope s_l_draw) := ⟨rfl, rfl, rfl, by decide +kernel, rfl, by decide +kernel, by decide +kernel⟩
abbrev sp_l_draw (K : Fg) : Sp := spM K (OwBox K) draw
theorem ok_l_draw {P : Program} {w : World} {K : Fg} {mg : Str → Option Value} {base : Heap} {f : Addr} {fd : FuncData} (F : FunD K "_law_draw" "_law_draw" (defArgs s_l_draw) (defBody s_l_draw) (defScope s_l_draw) [] [] f fd) (T : Tx K mg) : FnOk P w K mg base CX0 1 f fd ["_law_box", "_law_many"] (sp_l_draw K) := by
  have sc := sc_l_draw
  refine F.ok sc (fun vs H Q E h => ?_) (fun cdv A outer s H vs Q E hr h => ?_)
  · obtain ⟨a, us, W, B, s, t, r, s', rfl, _, _, _, _, ⟨v, _, rfl, _, hz⟩, _⟩ := h
    cases hz
    rfl
  · obtain ⟨b, us, W, B, rest, ⟨n, ⟨⟩⟩, r, s', rfl, ex, wx, d, ow, ⟨v, _, rfl, hv, hz⟩, hm, hQ⟩ := h
    cases hz
    cases (show v = .int n from hv)
    obtain ⟨u, ds, k, rfl, hu, rfl⟩ := ow
    obtain ⟨da, dvs, rfl, hd, pr⟩ := hu
    have hb : H b = some (.lst [.ref da, .int (k : Int)]) := wx b _ sing_at
    have hbd : da ≠ b := fun z => by
      subst z
      have := d da (nn sing_at)
      rw [hd] at this
      cases this
    have hdH : H da = some (.lst dvs) := ex _ _ hd
    refine ⟨_, PSs.nox (pss_cons (ps_set (i := 2) sc.nd rfl (.inl rfl) (pe_ix (ix_listK (K := K) rfl) (pv 0) pe_int (fun _ _ => rfl)))
      (pss_cons (ps_asg (pe_op op_add (pv 2) pe_int) (pg_sub (pv 0) pe_int set_list))
      (pss_cons (ps_if (pt_cmpR op_lt (pv 2) (pe_callB (call_len_K (K := K) rfl) rfl T.free_len boot_len (pa_cons (pe_ix (ix_listK (K := K) rfl) (pv 0) pe_int (fun _ _ => rfl)) pa_nil)) (nomark _))
        (pss_one (ps_ret (pe_op op_mod (pe_callTy call_int_ rfl T.free_int boot_int (pa_cons (pe_ix (ix_listK (K := K) rfl) (pe_ix (ix_listK (K := K) rfl) (pv 0) pe_int (fun _ _ => rfl)) (pv 2) (fun _ _ => rfl)) pa_nil)) (pv 1)))) pss_nil)
      (pss_one (ps_ret pe_int))))), ?_⟩
    refine ⟨_, rfl, b, _, 1, .int (k : Int), rfl, rfl, sq_lst hb, rfl, ?_⟩
    refine ⟨_, rfl, _, _, rfl, rfl, _, rfl, b, _, 0 + 1, 1, rfl, rfl, hb, rfl, ?_⟩
    have sw := sw_sing (o' := .lst [.ref da, .int ((k : Int) + 1)]) ex wx d
    have hb2 : (upd H b (.lst [.ref da, .int ((k : Int) + 1)])) b = some (.lst [.ref da, .int ((k : Int) + 1)]) := upd_same
    have hd2 : (upd H b (.lst [.ref da, .int ((k : Int) + 1)])) da = some (.lst dvs) := by rw [upd_ne hbd]; exact hdH
    have hl := pr_len pr
    refine ⟨_, rfl, _, rfl, b, _, 0, .ref da, rfl, rfl, sq_lst hb2, rfl, _, dvs.length, rfl, .inl ⟨dvs, sq_lst hd2, rfl⟩, _, _, rfl, rfl, decide ((k : Int) < (dvs.length : Int)), rfl, ?_⟩
    by_cases hk : k < ds.length
    · rw [decide_eq_true (by omega)]
      refine iteT ?_
      have ed : ds.drop k = ds[k] :: ds.drop (k + 1) := List.drop_eq_getElem_cons hk
      rw [ed] at hm
      obtain ⟨x, e1, e2⟩ := bd_some (show ((pmod ds[k] n).bind fun x => some (x, ds.drop (k + 1))) = some (r, s') from hm)
      cases e2
      obtain ⟨hn, e1⟩ := if_some e1
      subst e1
      have hx : at? ds (k : Int) = some ds[k] := by
        unfold at?
        rw [if_pos (by omega), Int.toNat_natCast]
        exact List.getElem?_eq_getElem hk
      obtain ⟨v2, hv2, rv2⟩ := atI_of pr hx
      cases (show v2 = .int _ from rv2)
      refine ⟨_, rfl, b, _, 0, .ref da, rfl, rfl, sq_lst hb2, rfl, _, rfl, da, dvs, (k : Int), _, rfl, rfl, sq_lst hd2, hv2, .inl ⟨_, rfl, _, rfl, _, _, rfl, rfl, hn, ?_⟩⟩
      exact hQ _ _ B _ sw ⟨.ref da, ds, k + 1, rfl, ⟨da, dvs, rfl, hd, pr⟩, rfl⟩ rfl
    · rw [decide_eq_false (by omega)]
      have ed : ds.drop k = [] := List.drop_eq_nil_of_le (by omega)
      rw [ed] at hm
      cases hm
      refine iteF ?_
      exact hQ _ _ B _ sw ⟨.ref da, ds, k + 1, rfl, ⟨da, dvs, rfl, hd, pr⟩, (List.drop_eq_nil_of_le (by omega)).symm⟩ rfl
section
variable {P : Program} {w : World} {K : Fg} {mg : Str → Option Value} {base : Heap}

def n_l_tile (st0 : (List Int)) (a_l_shuts : Int) (a_l_many : Int) : Option (Str × (List Int)) :=
 (Option.bind (Option.bind (draw st0 ((12 : Int), ())) fun q2 => some (q2.1, q2.2)) fun p149 =>
 (Option.bind (some ((decide (p149.1 < a_l_shuts)))) fun b => if b = true then
 (Option.bind (some ("#" : Str)) fun x => some (x, p149.2))
 else
 (Option.bind (Option.bind (some ((decide (p149.1 > (10 : Int))))) fun a => if a = true then (some ((decide (a_l_many > (0 : Int))))) else some false) fun b => if b = true then
 (Option.bind (Option.bind (some (("abc" : Str), p149.2)) fun p21 => Option.bind (Option.bind (draw p21.2 (a_l_many, ())) fun q20 => some (q20.1, q20.2)) fun q22 => Option.bind (atS? p21.1 q22.1) fun z => some (z, q22.2)) fun p31 => some (p31.1, p31.2))
 else
 (Option.bind (Option.bind (some ((decide (p149.1 > (8 : Int))))) fun a => if a = true then (some ((decide (a_l_many > (0 : Int))))) else some false) fun b => if b = true then
 (Option.bind (Option.bind (some (("ABCD" : Str), p149.2)) fun p38 => Option.bind (Option.bind (draw p38.2 (a_l_many, ())) fun q37 => some (q37.1, q37.2)) fun q39 => Option.bind (atS? p38.1 q39.1) fun z => some (z, q39.2)) fun p48 => some (p48.1, p48.2))
 else
 (Option.bind (some ((decide (p149.1 > (7 : Int))))) fun b => if b = true then
 (Option.bind (some ("+" : Str)) fun x => some (x, p149.2))
 else
 (Option.bind (some ("." : Str)) fun x => some (x, p149.2)))))))
def m_l_tile (s : (List Int)) (t : Int × Int × Unit) : Option (Str × (List Int)) := n_l_tile s t.1 t.2.1
abbrev s_l_tile : Stmt := top 25
theorem sc_l_tile : FnScope ["_law_box", "_law_shuts", "_law_many", "_law_kind"] ["_law_box", "_law_shuts", "_law_many"] (defScope s_l_tile) := ⟨rfl, rfl, rfl, by decide +kernel, rfl, by decide +kernel, by decide +kernel⟩
abbrev sp_l_tile (K : Fg) : Sp := spM K (fun pa => (OwBox K pa)) m_l_tile
set_option maxHeartbeats 0 in
theorem ok_l_tile {f : Addr} {fd : FuncData} (F : FunD K "_law_tile" "_law_tile" (defArgs s_l_tile) (defBody s_l_tile) (defScope s_l_tile) [] [] f fd) (T : Tx K mg) (c_l_draw : Fc P w K mg base 1 "_law_draw" ["_law_box", "_law_many"] (sp_l_draw K)) : FnOk P w K mg base CX0 2 f fd ["_law_box", "_law_shuts", "_law_many"] (sp_l_tile K) := by
  have sc := sc_l_tile
  refine F.ok sc (fun vs H Q E h => ?_) (fun cdv A outer s H vs Q E hr h => ?_)
  · obtain ⟨pa, us, W0, Bs, st0, t, r, s9, rfl, _, _, _, _, ⟨u0, _, rfl, hu0, ⟨u1, _, rfl, hu1, hz⟩⟩, _⟩ := h
    cases hz
    rfl
  · obtain ⟨pa, us, W0, Bs, st0, ⟨a_l_shuts, a_l_many, ⟨⟩⟩, r, s9, rfl, ex, wx, dj, ow, ⟨u0, _, rfl, hu0, ⟨u1, _, rfl, hu1, hz⟩⟩, hm, hQ⟩ := h
    cases hz
    replace hu0 : rp K Bs u0 a_l_shuts := hu0
    replace hu1 : rp K Bs u1 a_l_many := hu1
    replace hm : n_l_tile st0 a_l_shuts a_l_many = some (r, s9) := hm
    obtain ⟨Hs, eHs⟩ : ∃ Hs, Hs = H := ⟨_, rfl⟩
    subst eHs
    have N : Now (dom W0) Bs Hs (OwBox K pa) W0 Bs Hs st0 := now0 ex wx dj ow
    unfold n_l_tile at hm
    refine ⟨_, PSs.nox (pss_cons (ps_set (i := 3) sc.nd rfl (.inl rfl) (pe_fc c_l_draw hr (by decide) rfl (pa_cons (pv 0) (pa_cons pe_int pa_nil)))) (pss_cons (ps_if (pt_cmpR op_lt (pv 3) (pv 1) (nomark _)) (pss_one (ps_ret pe_str)) pss_nil) (pss_cons (ps_if (PW.pt (pw_and (pt_cmpR op_gt (pv 3) pe_int (nomark _)) (pw_and1 (pt_cmpR op_gt (pv 2) pe_int (nomark _))))) (pss_one (ps_ret (pe_ix ix_str pe_str (pe_fc c_l_draw hr (by decide) rfl (pa_cons (pv 0) (pa_cons (pv 2) pa_nil))) (fun _ _ => rfl)))) pss_nil) (pss_cons (ps_if (PW.pt (pw_and (pt_cmpR op_gt (pv 3) pe_int (nomark _)) (pw_and1 (pt_cmpR op_gt (pv 2) pe_int (nomark _))))) (pss_one (ps_ret (pe_ix ix_str pe_str (pe_fc c_l_draw hr (by decide) rfl (pa_cons (pv 0) (pa_cons (pv 2) pa_nil))) (fun _ _ => rfl)))) pss_nil) (pss_cons (ps_if (pt_cmpR op_gt (pv 3) pe_int (nomark _)) (pss_one (ps_ret pe_str)) pss_nil) (pss_one (ps_ret pe_str))))))), ?_⟩
    refine sq ?_
    refine st_asgS (K := K) hm N (cs_callM ln_id rfl (csa_cons (Cp.s cp_int) csa_nil)) (by first | rfl | simp only [o2, Option.bind_assoc, Option.bind_some]) fun l_kind3 s4 v5 W6 B7 H8 hm N eb9 h10 => ?_
    try dsimp only at hm
    replace hu0 := Rp.mono eb9 hu0
    replace hu1 := Rp.mono eb9 hu1
    refine gnx ?_
    refine sq ?_
    refine st_if hm N.ex (ct_test (cp_op r2_lt (cp_var rfl h10) (cp_var rfl hu0))) rfl (fun B11 H12 hc14 hm g13 => ?_) (fun B11 H12 hc14 hm g13 => ?_)
    · replace N := N.pure g13
      replace hu0 := Rp.mono g13.b hu0
      replace hu1 := Rp.mono g13.b hu1
      replace h10 := Rp.mono g13.b h10
      refine st_retF (K := K) (m' := (some ("#" : Str))) hm N.ex cp_str rfl fun x v B1 H1 hm g hv => ?_
      cases hm
      replace N := N.pure g
      exact hQ _ _ _ _ N.sw N.p hv
    · replace N := N.pure g13
      replace hu0 := Rp.mono g13.b hu0
      replace hu1 := Rp.mono g13.b hu1
      replace h10 := Rp.mono g13.b h10
      refine nxt ?_
      refine gnx ?_
      refine sq ?_
      refine st_if hm N.ex (ct_and (ct_test (cp_op r2_gt (cp_var rfl h10) cp_int)) (ct_test (cp_op r2_gt (cp_var rfl hu1) cp_int))) (by first | rfl | simp only [o2, Option.bind_assoc, Option.bind_some]) (fun B15 H16 hc18 hm g17 => ?_) (fun B15 H16 hc18 hm g17 => ?_)
      · replace N := N.pure g17
        replace hu0 := Rp.mono g17.b hu0
        replace hu1 := Rp.mono g17.b hu1
        replace h10 := Rp.mono g17.b h10
        refine st_retS (K := K) hm N (cs_op r2_ixS (Cp.s cp_str) (cs_callM ln_id rfl (csa_cons (Cp.s (cp_var rfl hu1)) csa_nil))) (by first | rfl | simp only [o2, Option.bind_assoc, Option.bind_some]) fun x23 s24 v25 W26 B27 H28 hm N eb29 h30 => ?_
        cases hm
        exact hQ _ _ _ _ N.sw N.p h30
      · replace N := N.pure g17
        replace hu0 := Rp.mono g17.b hu0
        replace hu1 := Rp.mono g17.b hu1
        replace h10 := Rp.mono g17.b h10
        refine nxt ?_
        refine gnx ?_
        refine sq ?_
        refine st_if hm N.ex (ct_and (ct_test (cp_op r2_gt (cp_var rfl h10) cp_int)) (ct_test (cp_op r2_gt (cp_var rfl hu1) cp_int))) (by first | rfl | simp only [o2, Option.bind_assoc, Option.bind_some]) (fun B32 H33 hc35 hm g34 => ?_) (fun B32 H33 hc35 hm g34 => ?_)
        · replace N := N.pure g34
          replace hu0 := Rp.mono g34.b hu0
          replace hu1 := Rp.mono g34.b hu1
          replace h10 := Rp.mono g34.b h10
          refine st_retS (K := K) hm N (cs_op r2_ixS (Cp.s cp_str) (cs_callM ln_id rfl (csa_cons (Cp.s (cp_var rfl hu1)) csa_nil))) (by first | rfl | simp only [o2, Option.bind_assoc, Option.bind_some]) fun x40 s41 v42 W43 B44 H45 hm N eb46 h47 => ?_
          cases hm
          exact hQ _ _ _ _ N.sw N.p h47
        · replace N := N.pure g34
          replace hu0 := Rp.mono g34.b hu0
          replace hu1 := Rp.mono g34.b hu1
          replace h10 := Rp.mono g34.b h10
          refine nxt ?_
          refine gnx ?_
          refine sq ?_
          refine st_if hm N.ex (ct_test (cp_op r2_gt (cp_var rfl h10) cp_int)) rfl (fun B49 H50 hc52 hm g51 => ?_) (fun B49 H50 hc52 hm g51 => ?_)
          · replace N := N.pure g51
            replace hu0 := Rp.mono g51.b hu0
            replace hu1 := Rp.mono g51.b hu1
            replace h10 := Rp.mono g51.b h10
            refine st_retF (K := K) (m' := (some ("+" : Str))) hm N.ex cp_str rfl fun x v B1 H1 hm g hv => ?_
            cases hm
            replace N := N.pure g
            exact hQ _ _ _ _ N.sw N.p hv
          · replace N := N.pure g51
            replace hu0 := Rp.mono g51.b hu0
            replace hu1 := Rp.mono g51.b hu1
            replace h10 := Rp.mono g51.b h10
            refine nxt ?_
            refine gnx ?_
            refine st_retF (K := K) (m' := (some ("." : Str))) hm N.ex cp_str rfl fun x v B1 H1 hm g hv => ?_
            cases hm
            replace N := N.pure g
            exact hQ _ _ _ _ N.sw N.p hv
def m_l_used_b2 (p_l_rows_here : (List Str)) (p_l_k : Int) (p_l_row : Str) (p_st : (Unit × (List Int))) : Option ((Unit × (List Int))) :=
 (Option.bind (Option.bind (Option.bind (some ((!decide (p_l_k ∈ p_st.2)))) fun a => if a = true then (Option.bind (o2 (atS? ("ABCD" : Str) p_l_k) (some p_l_row) fun x y => inS x y) fun a => if a = true then some true else (o2 (atS? ("abc" : Str) p_l_k) (some p_l_row) fun x y => inS x y)) else some false) fun x => some (x, p_st)) fun b51 => if b51.1 = true then
 (Option.bind (Option.bind (some (p_l_k, b51.2)) fun p43 => Option.bind (papp p43.2.2 p43.1) fun q44 => some ((), (p43.2.1, q44))) fun p50 =>
 some (p50.2))
 else
 some (b51.2))
def m_l_used_b1 (p_l_rows_here : (List Str)) (p_l_k : Int) (p_st : (Unit × (List Int))) : Option ((Unit × (List Int))) :=
 (Option.bind (some p_l_rows_here) fun xs => Option.bind (forN (fun x (s : (Unit × (List Int))) => m_l_used_b2 p_l_rows_here p_l_k x s) xs (p_st)) fun s52 =>
 some (s52))
def m_l_used (a_l_rows_here : (List Str)) : Option (List Int) :=
 (Option.bind (some (([] : List Int), ())) fun p66 =>
 (Option.bind (Option.bind (some (3 : Int)) fun n => prange1 n) fun xs => Option.bind (forN (fun x (s : (Unit × (List Int))) => m_l_used_b1 a_l_rows_here x s) xs ((p66.2, p66.1))) fun s57 =>
 (some s57.2)))
abbrev s_l_used : Stmt := top 26
theorem sc_l_used : FnScope ["_law_rows_here", "_law_used_here", "_law_k", "_law_row"] ["_law_rows_here"] (defScope s_l_used) := ⟨rfl, rfl, rfl, by decide +kernel, rfl, by decide +kernel, by decide +kernel⟩
abbrev sp_l_used (K : Fg) : Sp := spP K (fun t : (List Str) × Unit => m_l_used t.1)
set_option maxHeartbeats 0 in
theorem ok_l_used {f : Addr} {fd : FuncData} (F : FunD K "_law_used" "_law_used" (defArgs s_l_used) (defBody s_l_used) (defScope s_l_used) [] [] f fd) (T : Tx K mg)  : FnOk P w K mg base CX0 1 f fd ["_law_rows_here"] (sp_l_used K) := by
  have sc := sc_l_used
  refine F.ok sc (fun vs H Q E h => ?_) (fun cdv A outer s H vs Q E hr h => ?_)
  · obtain ⟨Bs, t, r, ex, ⟨u0, _, rfl, hu0, hz⟩, hm, hQ⟩ := h
    cases hz
    rfl
  · obtain ⟨Bs, ⟨a_l_rows_here, ⟨⟩⟩, r, ex, ⟨u0, _, rfl, hu0, hz⟩, hm, hQ⟩ := h
    cases hz
    replace hu0 : rp K Bs u0 a_l_rows_here := hu0
    replace hm : m_l_used a_l_rows_here = some r := hm
    obtain ⟨Hs, eHs⟩ : ∃ Hs, Hs = H := ⟨_, rfl⟩
    subst eHs
    have N : Now noM Bs Hs oE emp Bs Hs () := nowE ex
    unfold m_l_used at hm
    refine ⟨_, PSs.nox (pss_cons (ps_set (i := 1) sc.nd rfl (.inl rfl) (pe_lst pa_nil)) (pss_cons (ps_for PassesOwn.never rfl (pi_range1 rfl T.free_range (pa_cons pe_int pa_nil)) (pg_name (i := 2) sc.nd rfl (.inl rfl)) (pss_one (ps_for PassesOwn.never rfl (pi_list (pv 0)) (pg_name (i := 3) sc.nd rfl (.inl rfl)) (pss_one (ps_if (PW.pt (pw_and (pt_cmpR (op_notIn_seqK (K := K) rfl) (pv 2) (pv 1) rfl) (pw_and1 (PW.pt (pw_or (pt_cmpR op_inS (pe_ix ix_str pe_str (pv 2) (fun _ _ => rfl)) (pv 3) rfl) (pw_or1 (pt_cmpR op_inS (pe_ix ix_str pe_str (pv 2) (fun _ _ => rfl)) (pv 3) rfl))))))) (pss_one (ps_expr (pe_bm PySem.F.plainAttrs_list PySem.F.slot_list_append PySem.F.type_list_append mt_append (pv 1) (pa_cons (pv 2) pa_nil)))) pss_nil))))) (pss_one (ps_ret (pv 1))))), ?_⟩
    refine sq ?_
    refine st_asgL (K := K) hm N (Co.s (co_nil (α := Int))) (by first | rfl | simp only [o2, Option.bind_assoc, Option.bind_some]) fun l_used_here1 s2 pl3 W4 B5 H6 hm N eb7 fp8 => ?_
    replace hu0 := Rp.mono eb7 hu0
    try dsimp only at hm
    refine gnx ?_
    refine sq ?_
    refine st_forN_r1 (K := K) (fun Be (s : (Unit × (List Int))) B σ H => ∃ (W : Hp) (o2 : Option V) (o3 : Option V), Now noM Bs Hs (star oE (OwL (α := Int) K pl3)) W B H s ∧ Ex B5 B ∧ Ex Be B ∧ σ = [some u0, some (.ref pl3), o2, o3]) hm N.ex (ca_cons cp_int ca_nil) (by first | rfl | simp only [o2, Option.bind_assoc, Option.bind_some]) (fun Be H1 g => ⟨_, _, _, N.pure g, g.b, Ex.refl _, rfl⟩) ?_ ?_
    · rintro Be x9 s10 B12 σ H13 v14 c15 N16 ⟨W11, _, _, N, eb21, ee22, rfl⟩ hv17 hm hn18
      unfold m_l_used_b1 at hm
      replace hu0 := Rp.mono eb21 hu0
      refine gnm ?_
      refine st_forN_list (K := K) (fun Be (s : (Unit × (List Int))) B σ H => ∃ (W : Hp) (o3 : Option V), Now noM Bs Hs (star oE (OwL (α := Int) K pl3)) W B H s ∧ Ex B12 B ∧ Ex Be B ∧ σ = [some u0, some (.ref pl3), some v14, o3]) hm N.ex (cp_var rfl hu0) (by first | rfl | simp only [o2, Option.bind_assoc, Option.bind_some]) (fun Be s B σ H h => by obtain ⟨_, _, N, _, ee, _⟩ := h; exact ⟨ee, N.ex⟩) (fun Be H1 g => ⟨_, _, N.pure g, g.b, Ex.refl _, rfl⟩) ?_ ?_
      · rintro Be x23 s24 B26 σ H27 v28 c29 N30 ⟨W25, _, N, eb35, ee36, rfl⟩ hv31 hm hn32
        unfold m_l_used_b2 at hm
        replace eb21 := eb21.trans eb35
        replace ee22 := ee22.trans eb35
        replace hu0 := Rp.mono eb35 hu0
        replace hv17 := Rp.mono eb35 hv17
        refine gnm ?_
        refine st_ifS hm N (cst_view fun W1 B1 s e1 d1 hP => (ct_and (ct_test (cp_op r2_ninL (cp_var rfl (Rp.mono (e1.trans (ex_uni_r d1)) hv17)) (cp_var rfl (ol_rp ln_r hP d1)))) (ct_or (ct_test (cp_op r2_inS (cp_op r2_ixS cp_str (cp_var rfl (Rp.mono (e1.trans (ex_uni_r d1)) hv17))) (cp_var rfl (Rp.mono (e1.trans (ex_uni_r d1)) hv31)))) (ct_test (cp_op r2_inS (cp_op r2_ixS cp_str (cp_var rfl (Rp.mono (e1.trans (ex_uni_r d1)) hv17))) (cp_var rfl (Rp.mono (e1.trans (ex_uni_r d1)) hv31))))))) (by first | rfl | simp only [o2, Option.bind_assoc, Option.bind_some]) (fun s37 W38 B39 H40 hc41 hm N eb42 => ?_) (fun s37 W38 B39 H40 hc41 hm N eb42 => ?_)
        · try dsimp only at hm
          replace eb21 := eb21.trans eb42
          replace ee22 := ee22.trans eb42
          replace eb35 := eb35.trans eb42
          replace ee36 := ee36.trans eb42
          replace hu0 := Rp.mono eb42 hu0
          replace hv17 := Rp.mono eb42 hv17
          replace hv31 := Rp.mono eb42 hv31
          refine st_dropS (K := K) hm N (cs_append ln_r rfl (Cp.s (cp_var rfl hv17))) (by first | rfl | simp only [o2, Option.bind_assoc, Option.bind_some]) fun _ s45 W46 B47 H48 hm N eb49 => ?_
          try dsimp only at hm
          replace eb21 := eb21.trans eb49
          replace ee22 := ee22.trans eb49
          replace eb35 := eb35.trans eb49
          replace ee36 := ee36.trans eb49
          replace hu0 := Rp.mono eb49 hu0
          replace hv17 := Rp.mono eb49 hv17
          replace hv31 := Rp.mono eb49 hv31
          cases hm
          exact hn32 _ _ _ ⟨_, _, N, eb35, ee36, rfl⟩
        · try dsimp only at hm
          replace eb21 := eb21.trans eb42
          replace ee22 := ee22.trans eb42
          replace eb35 := eb35.trans eb42
          replace ee36 := ee36.trans eb42
          replace hu0 := Rp.mono eb42 hu0
          replace hv17 := Rp.mono eb42 hv17
          replace hv31 := Rp.mono eb42 hv31
          refine nxt ?_
          cases hm
          exact hn32 _ _ _ ⟨_, _, N, eb35, ee36, rfl⟩
      · rintro Be s52 B54 σ H55 hm ⟨W53, _, N, eb56, _, rfl⟩
        replace eb21 := eb21.trans eb56
        replace ee22 := ee22.trans eb56
        replace hu0 := Rp.mono eb56 hu0
        replace hv17 := Rp.mono eb56 hv17
        cases hm
        exact hn18 _ _ _ ⟨_, _, _, N, eb21, ee22, rfl⟩
    · rintro Be s57 B59 σ H60 hm ⟨W58, _, _, N, eb61, _, rfl⟩
      replace hu0 := Rp.mono eb61 hu0
      refine gnx ?_
      obtain ⟨W62, B63, N, eb64, h65⟩ := N.freeze fp8
      replace hu0 := Rp.mono eb64 hu0
      refine st_ret (K := K) hm N.ex (cp_var rfl h65) rfl fun v B1 H1 g hv => ?_
      exact hQ v B1 H1 (N.g.then g) hv
def m_l_renamed_b2 (p_l_row : Str) (p_l_used_here : (List Int)) (p_l_new : Str) (p_l_sign : Str) (p_l_at : Int) (p_l_tile_here : Str) : Option (Str) :=
 (Option.bind (Option.bind (o2 (some p_l_sign) (o2 (some ("ABCD" : Str)) (at? p_l_used_here p_l_at) fun x y => atS? x y) fun x y => some ((decide (x = y)))) fun b88 => if b88 = true then
 (Option.bind (atS? ("ABCD" : Str) p_l_at) fun l_tile_here55 =>
 (some (l_tile_here55)))
 else
 (some (p_l_tile_here))) fun z71 =>
 (Option.bind (o2 (some p_l_sign) (o2 (some ("abc" : Str)) (at? p_l_used_here p_l_at) fun x y => atS? x y) fun x y => some ((decide (x = y)))) fun b => if b = true then
 (Option.bind (atS? ("abc" : Str) p_l_at) fun l_tile_here82 =>
 some (l_tile_here82))
 else
 some (z71)))
def m_l_renamed_b1 (p_l_row : Str) (p_l_used_here : (List Int)) (p_l_sign : Str) (p_l_new : Str) : Option (Str) :=
 (Option.bind (some p_l_sign) fun l_tile_here23 =>
 (Option.bind (Option.bind (some ((p_l_used_here.length : Int))) fun n => prange1 n) fun xs => Option.bind (forN (fun x (s : Str) => m_l_renamed_b2 p_l_row p_l_used_here p_l_new p_l_sign x s) xs (l_tile_here23)) fun s89 =>
 (Option.bind (pcat p_l_new s89) fun l_new96 =>
 some (l_new96))))
def m_l_renamed (a_l_row : Str) (a_l_used_here : (List Int)) : Option Str :=
 (Option.bind (some ("" : Str)) fun l_new1 =>
 (Option.bind (Option.bind (some a_l_row) fun x => some (sgns x)) fun xs => Option.bind (forN (fun x (s : Str) => m_l_renamed_b1 a_l_row a_l_used_here x s) xs (l_new1)) fun s102 =>
 (some s102)))
abbrev s_l_renamed : Stmt := top 27
theorem sc_l_renamed : FnScope ["_law_row", "_law_used_here", "_law_new", "_law_sign", "_law_tile_here", "_law_at"] ["_law_row", "_law_used_here"] (defScope s_l_renamed) := ⟨rfl, rfl, rfl, by decide +kernel, rfl, by decide +kernel, by decide +kernel⟩
abbrev sp_l_renamed (K : Fg) : Sp := spP K (fun t : Str × (List Int) × Unit => m_l_renamed t.1 t.2.1)
set_option maxHeartbeats 0 in
theorem ok_l_renamed {f : Addr} {fd : FuncData} (F : FunD K "_law_renamed" "_law_renamed" (defArgs s_l_renamed) (defBody s_l_renamed) (defScope s_l_renamed) [] [] f fd) (T : Tx K mg)  : FnOk P w K mg base CX0 1 f fd ["_law_row", "_law_used_here"] (sp_l_renamed K) := by
  have sc := sc_l_renamed
  refine F.ok sc (fun vs H Q E h => ?_) (fun cdv A outer s H vs Q E hr h => ?_)
  · obtain ⟨Bs, t, r, ex, ⟨u0, _, rfl, hu0, ⟨u1, _, rfl, hu1, hz⟩⟩, hm, hQ⟩ := h
    cases hz
    rfl
  · obtain ⟨Bs, ⟨a_l_row, a_l_used_here, ⟨⟩⟩, r, ex, ⟨u0, _, rfl, hu0, ⟨u1, _, rfl, hu1, hz⟩⟩, hm, hQ⟩ := h
    cases hz
    replace hu0 : rp K Bs u0 a_l_row := hu0
    replace hu1 : rp K Bs u1 a_l_used_here := hu1
    replace hm : m_l_renamed a_l_row a_l_used_here = some r := hm
    obtain ⟨Hs, eHs⟩ : ∃ Hs, Hs = H := ⟨_, rfl⟩
    subst eHs
    have N : Now noM Bs Hs oE emp Bs Hs () := nowE ex
    unfold m_l_renamed at hm
    refine ⟨_, PSs.nox (pss_cons (ps_set (i := 2) sc.nd rfl (.inl rfl) pe_str) (pss_cons (ps_for PassesOwn.never rfl (pi_str (pv 0)) (pg_name (i := 3) sc.nd rfl (.inl rfl)) (pss_cons (ps_set (i := 4) sc.nd rfl (.inl rfl) (pv 3)) (pss_cons (ps_for PassesOwn.never rfl (pi_range1 rfl T.free_range (pa_cons (pe_callB (call_len_K (K := K) rfl) rfl T.free_len boot_len (pa_cons (pv 1) pa_nil)) pa_nil)) (pg_name (i := 5) sc.nd rfl (.inl rfl)) (pss_cons (ps_if (pt_cmpR op_eq (pv 3) (pe_ix ix_str pe_str (pe_ix (ix_listK (K := K) rfl) (pv 1) (pv 5) (fun _ _ => rfl)) (fun _ _ => rfl)) (nomark _)) (pss_one (ps_set (i := 4) sc.nd rfl (.inl rfl) (pe_ix ix_str pe_str (pv 5) (fun _ _ => rfl)))) pss_nil) (pss_one (ps_if (pt_cmpR op_eq (pv 3) (pe_ix ix_str pe_str (pe_ix (ix_listK (K := K) rfl) (pv 1) (pv 5) (fun _ _ => rfl)) (fun _ _ => rfl)) (nomark _)) (pss_one (ps_set (i := 4) sc.nd rfl (.inl rfl) (pe_ix ix_str pe_str (pv 5) (fun _ _ => rfl)))) pss_nil)))) (pss_one (ps_set (i := 2) sc.nd rfl (.inl rfl) (pe_op op_add_str (pv 2) (pv 4))))))) (pss_one (ps_ret (pv 2))))), ?_⟩
    refine sq ?_
    refine st_asg (K := K) hm N.ex cp_str rfl fun l_new1 v2 B3 H4 _ hm g5 h6 => ?_
    replace N := N.pure g5
    replace hu0 := Rp.mono g5.b hu0
    replace hu1 := Rp.mono g5.b hu1
    refine gnx ?_
    refine sq ?_
    refine st_forN_str (K := K) (fun Be (s : Str) B σ H => ∃ (W : Hp) (w_l_new : V) (o3 : Option V) (o4 : Option V) (o5 : Option V), Now noM Bs Hs oE W B H () ∧ Ex B3 B ∧ Ex Be B ∧ σ = [some u0, some u1, some w_l_new, o3, o4, o5] ∧ rp K B w_l_new s) hm N.ex (cp_var rfl hu0) (by first | rfl | simp only [o2, Option.bind_assoc, Option.bind_some]) (fun Be H1 g => ⟨_, v2, _, _, _, N.pure g, g.b, Ex.refl _, rfl, Rp.mono g.b h6⟩) ?_ ?_
    · rintro Be x7 s8 B10 σ H11 v12 c13 N14 ⟨W9, w21, _, _, _, N, eb19, ee20, rfl, h22⟩ hv15 hm hn16
      unfold m_l_renamed_b1 at hm
      replace hu0 := Rp.mono eb19 hu0
      replace hu1 := Rp.mono eb19 hu1
      refine gnm ?_
      refine sq ?_
      refine st_asg (K := K) hm N.ex (cp_var rfl hv15) rfl fun l_tile_here23 v24 B25 H26 _ hm g27 h28 => ?_
      replace N := N.pure g27
      replace eb19 := eb19.trans g27.b
      replace ee20 := ee20.trans g27.b
      replace hu0 := Rp.mono g27.b hu0
      replace hu1 := Rp.mono g27.b hu1
      replace h22 := Rp.mono g27.b h22
      replace hv15 := Rp.mono g27.b hv15
      refine gnx ?_
      refine sq ?_
      refine st_forN_r1 (K := K) (fun Be (s : Str) B σ H => ∃ (W : Hp) (w_l_tile_here : V) (o5 : Option V), Now noM Bs Hs oE W B H () ∧ Ex B25 B ∧ Ex Be B ∧ σ = [some u0, some u1, some w21, some v12, some w_l_tile_here, o5] ∧ rp K B w_l_tile_here s) hm N.ex (ca_cons (cp_cb rc_lenL (ca_cons (cp_var rfl hu1) ca_nil)) ca_nil) (by first | rfl | simp only [o2, Option.bind_assoc, Option.bind_some]) (fun Be H1 g => ⟨_, v24, _, N.pure g, g.b, Ex.refl _, rfl, Rp.mono g.b h28⟩) ?_ ?_
      · rintro Be x29 s30 B32 σ H33 v34 c35 N36 ⟨W31, w43, _, N, eb41, ee42, rfl, h44⟩ hv37 hm hn38
        unfold m_l_renamed_b2 at hm
        replace eb19 := eb19.trans eb41
        replace ee20 := ee20.trans eb41
        replace hu0 := Rp.mono eb41 hu0
        replace hu1 := Rp.mono eb41 hu1
        replace h22 := Rp.mono eb41 h22
        replace hv15 := Rp.mono eb41 hv15
        refine gnm ?_
        refine sq ?_
        refine st_ifJ hm (fun (z : Str) σ H => ∃ (W B : Hp) (w_l_tile_here : V), Now noM Bs Hs oE W B H () ∧ Ex B32 B ∧ σ = [some u0, some u1, some w21, some v12, some w_l_tile_here, some v34] ∧ rp K B w_l_tile_here z) N.ex (ct_test (cp_op r2_eq (cp_var rfl hv15) (cp_op r2_ixS cp_str (cp_op r2_ixL (cp_var rfl hu1) (cp_var rfl hv37))))) (by first | rfl | simp only [o2, Option.bind_assoc, Option.bind_some]) ?_ ?_ ?_
        · intro z45 B48 H49 N50 hc51 hm g52 hn53
          have ej54 := g52.b
          replace N := N.pure g52
          replace eb19 := eb19.trans g52.b
          replace ee20 := ee20.trans g52.b
          replace eb41 := eb41.trans g52.b
          replace ee42 := ee42.trans g52.b
          replace hu0 := Rp.mono g52.b hu0
          replace hu1 := Rp.mono g52.b hu1
          replace h22 := Rp.mono g52.b h22
          replace hv15 := Rp.mono g52.b hv15
          replace h44 := Rp.mono g52.b h44
          replace hv37 := Rp.mono g52.b hv37
          refine st_asg (K := K) hm N.ex (cp_op r2_ixS cp_str (cp_var rfl hv37)) (by first | rfl | simp only [o2, Option.bind_assoc, Option.bind_some]) fun l_tile_here55 v56 B57 H58 _ hm g59 h60 => ?_
          replace N := N.pure g59
          replace eb19 := eb19.trans g59.b
          replace ee20 := ee20.trans g59.b
          replace eb41 := eb41.trans g59.b
          replace ee42 := ee42.trans g59.b
          replace ej54 := ej54.trans g59.b
          replace hu0 := Rp.mono g59.b hu0
          replace hu1 := Rp.mono g59.b hu1
          replace h22 := Rp.mono g59.b h22
          replace hv15 := Rp.mono g59.b hv15
          replace hv37 := Rp.mono g59.b hv37
          cases hm
          exact hn53 _ _ ⟨_, _, v56, N, ej54, rfl, h60⟩
        · intro z61 B64 H65 N66 hc67 hm g68 hn69
          have ej70 := g68.b
          replace N := N.pure g68
          replace eb19 := eb19.trans g68.b
          replace ee20 := ee20.trans g68.b
          replace eb41 := eb41.trans g68.b
          replace ee42 := ee42.trans g68.b
          replace hu0 := Rp.mono g68.b hu0
          replace hu1 := Rp.mono g68.b hu1
          replace h22 := Rp.mono g68.b h22
          replace hv15 := Rp.mono g68.b hv15
          replace h44 := Rp.mono g68.b h44
          replace hv37 := Rp.mono g68.b hv37
          refine nxt ?_
          cases hm
          exact hn69 _ _ ⟨_, _, w43, N, ej70, rfl, h44⟩
        · rintro z71 σ H74 hm ⟨W72, B73, w76, N, eb75, rfl, h77⟩
          replace eb19 := eb19.trans eb75
          replace ee20 := ee20.trans eb75
          replace eb41 := eb41.trans eb75
          replace ee42 := ee42.trans eb75
          replace hu0 := Rp.mono eb75 hu0
          replace hu1 := Rp.mono eb75 hu1
          replace h22 := Rp.mono eb75 h22
          replace hv15 := Rp.mono eb75 hv15
          replace hv37 := Rp.mono eb75 hv37
          refine gnx ?_
          refine st_if hm N.ex (ct_test (cp_op r2_eq (cp_var rfl hv15) (cp_op r2_ixS cp_str (cp_op r2_ixL (cp_var rfl hu1) (cp_var rfl hv37))))) (by first | rfl | simp only [o2, Option.bind_assoc, Option.bind_some]) (fun B78 H79 hc81 hm g80 => ?_) (fun B78 H79 hc81 hm g80 => ?_)
          · replace N := N.pure g80
            replace eb19 := eb19.trans g80.b
            replace ee20 := ee20.trans g80.b
            replace eb41 := eb41.trans g80.b
            replace ee42 := ee42.trans g80.b
            replace hu0 := Rp.mono g80.b hu0
            replace hu1 := Rp.mono g80.b hu1
            replace h22 := Rp.mono g80.b h22
            replace hv15 := Rp.mono g80.b hv15
            replace hv37 := Rp.mono g80.b hv37
            replace h77 := Rp.mono g80.b h77
            refine st_asg (K := K) hm N.ex (cp_op r2_ixS cp_str (cp_var rfl hv37)) (by first | rfl | simp only [o2, Option.bind_assoc, Option.bind_some]) fun l_tile_here82 v83 B84 H85 _ hm g86 h87 => ?_
            replace N := N.pure g86
            replace eb19 := eb19.trans g86.b
            replace ee20 := ee20.trans g86.b
            replace eb41 := eb41.trans g86.b
            replace ee42 := ee42.trans g86.b
            replace hu0 := Rp.mono g86.b hu0
            replace hu1 := Rp.mono g86.b hu1
            replace h22 := Rp.mono g86.b h22
            replace hv15 := Rp.mono g86.b hv15
            replace hv37 := Rp.mono g86.b hv37
            cases hm
            exact hn38 _ _ _ ⟨_, v83, _, N, eb41, ee42, rfl, h87⟩
          · replace N := N.pure g80
            replace eb19 := eb19.trans g80.b
            replace ee20 := ee20.trans g80.b
            replace eb41 := eb41.trans g80.b
            replace ee42 := ee42.trans g80.b
            replace hu0 := Rp.mono g80.b hu0
            replace hu1 := Rp.mono g80.b hu1
            replace h22 := Rp.mono g80.b h22
            replace hv15 := Rp.mono g80.b hv15
            replace hv37 := Rp.mono g80.b hv37
            replace h77 := Rp.mono g80.b h77
            refine nxt ?_
            cases hm
            exact hn38 _ _ _ ⟨_, w76, _, N, eb41, ee42, rfl, h77⟩
      · rintro Be s89 B91 σ H92 hm ⟨W90, w94, _, N, eb93, _, rfl, h95⟩
        replace eb19 := eb19.trans eb93
        replace ee20 := ee20.trans eb93
        replace hu0 := Rp.mono eb93 hu0
        replace hu1 := Rp.mono eb93 hu1
        replace h22 := Rp.mono eb93 h22
        replace hv15 := Rp.mono eb93 hv15
        refine gnx ?_
        refine st_asg (K := K) hm N.ex (cp_op r2_addS (cp_var rfl h22) (cp_var rfl h95)) (by first | rfl | simp only [o2, Option.bind_assoc, Option.bind_some]) fun l_new96 v97 B98 H99 _ hm g100 h101 => ?_
        replace N := N.pure g100
        replace eb19 := eb19.trans g100.b
        replace ee20 := ee20.trans g100.b
        replace hu0 := Rp.mono g100.b hu0
        replace hu1 := Rp.mono g100.b hu1
        replace hv15 := Rp.mono g100.b hv15
        replace h95 := Rp.mono g100.b h95
        cases hm
        exact hn16 _ _ _ ⟨_, v97, _, _, _, N, eb19, ee20, rfl, h101⟩
    · rintro Be s102 B104 σ H105 hm ⟨W103, w107, _, _, _, N, eb106, _, rfl, h108⟩
      replace hu0 := Rp.mono eb106 hu0
      replace hu1 := Rp.mono eb106 hu1
      refine gnx ?_
      refine st_ret (K := K) hm N.ex (cp_var rfl h108) rfl fun v B1 H1 g hv => ?_
      exact hQ v B1 H1 (N.g.then g) hv
def m_l_has_door_b2 (p_l_rows_here : (List Str)) (p_l_row : Str) (p_l_sign : Str) : Option (Fl (Unit) (Bool)) :=
 (Option.bind (inS p_l_sign ("+abc" : Str)) fun b => if b = true then
 (Option.bind (some true) fun x => some (.rt x))
 else
 some (.nx ()))
def m_l_has_door_b1 (p_l_rows_here : (List Str)) (p_l_row : Str) : Option (Fl (Unit) (Bool)) :=
 (Option.bind (Option.bind (some p_l_row) fun x => some (sgns x)) fun xs => Option.bind (forF (fun x (s : Unit) => m_l_has_door_b2 p_l_rows_here p_l_row x) xs ()) fun f => match f with
 | .nx s33 =>
 some (.nx ())
 | .bk _ => none
 | .rt r => some (.rt r))
def m_l_has_door (a_l_rows_here : (List Str)) : Option Bool :=
 (Option.bind (some a_l_rows_here) fun xs => Option.bind (forF (fun x (s : Unit) => m_l_has_door_b1 a_l_rows_here x) xs ()) fun f => match f with
 | .nx s38 =>
 (some false)
 | .bk _ => none
 | .rt r => some r)
abbrev s_l_has_door : Stmt := top 28
theorem sc_l_has_door : FnScope ["_law_rows_here", "_law_row", "_law_sign"] ["_law_rows_here"] (defScope s_l_has_door) := ⟨rfl, rfl, rfl, by decide +kernel, rfl, by decide +kernel, by decide +kernel⟩
abbrev sp_l_has_door (K : Fg) : Sp := spP K (fun t : (List Str) × Unit => m_l_has_door t.1)
set_option maxHeartbeats 0 in
theorem ok_l_has_door {f : Addr} {fd : FuncData} (F : FunD K "_law_has_door" "_law_has_door" (defArgs s_l_has_door) (defBody s_l_has_door) (defScope s_l_has_door) [] [] f fd) (T : Tx K mg)  : FnOk P w K mg base CX0 1 f fd ["_law_rows_here"] (sp_l_has_door K) := by
  have sc := sc_l_has_door
  refine F.ok sc (fun vs H Q E h => ?_) (fun cdv A outer s H vs Q E hr h => ?_)
  · obtain ⟨Bs, t, r, ex, ⟨u0, _, rfl, hu0, hz⟩, hm, hQ⟩ := h
    cases hz
    rfl
  · obtain ⟨Bs, ⟨a_l_rows_here, ⟨⟩⟩, r, ex, ⟨u0, _, rfl, hu0, hz⟩, hm, hQ⟩ := h
    cases hz
    replace hu0 : rp K Bs u0 a_l_rows_here := hu0
    replace hm : m_l_has_door a_l_rows_here = some r := hm
    obtain ⟨Hs, eHs⟩ : ∃ Hs, Hs = H := ⟨_, rfl⟩
    subst eHs
    have N : Now noM Bs Hs oE emp Bs Hs () := nowE ex
    unfold m_l_has_door at hm
    refine ⟨_, PSs.nox (pss_cons (ps_for PassesOwn.never rfl (pi_list (pv 0)) (pg_name (i := 1) sc.nd rfl (.inl rfl)) (pss_one (ps_for PassesOwn.never rfl (pi_str (pv 1)) (pg_name (i := 2) sc.nd rfl (.inl rfl)) (pss_one (ps_if (pt_cmpR op_inS (pv 2) pe_str rfl) (pss_one (ps_ret pe_bl)) pss_nil))))) (pss_one (ps_ret pe_bl))), ?_⟩
    refine sq ?_
    refine st_forF_list (K := K) (fun Be (s : Unit) B σ H => ∃ (W : Hp) (o1 : Option V) (o2 : Option V), Now noM Bs Hs oE W B H () ∧ Ex Bs B ∧ Ex Be B ∧ σ = [some u0, o1, o2]) hm N.ex (cp_var rfl hu0) (by first | rfl | simp only [o2, Option.bind_assoc, Option.bind_some]) (fun Be s B σ H h => by obtain ⟨_, _, _, N, _, ee, _⟩ := h; exact ⟨ee, N.ex⟩) (fun Be H1 g => ⟨_, _, _, N.pure g, g.b, Ex.refl _, rfl⟩) ?_ ?_
    · rintro Be x1 s2 B4 σ H5 v6 c7 N8 ⟨W3, _, _, N, eb13, ee14, rfl⟩ hv9 hm hn10 hk11 ht12
      unfold m_l_has_door_b1 at hm
      replace hu0 := Rp.mono eb13 hu0
      refine gnm ?_
      refine st_forF_str (K := K) (fun Be (s : Unit) B σ H => ∃ (W : Hp) (o2 : Option V), Now noM Bs Hs oE W B H () ∧ Ex B4 B ∧ Ex Be B ∧ σ = [some u0, some v6, o2]) hm N.ex (cp_var rfl hv9) (by first | rfl | simp only [o2, Option.bind_assoc, Option.bind_some]) (fun Be H1 g => ⟨_, _, N.pure g, g.b, Ex.refl _, rfl⟩) ?_ ?_
      · rintro Be x15 s16 B18 σ H19 v20 c21 N22 ⟨W17, _, N, eb27, ee28, rfl⟩ hv23 hm hn24 hk25 ht26
        unfold m_l_has_door_b2 at hm
        replace eb13 := eb13.trans eb27
        replace ee14 := ee14.trans eb27
        replace hu0 := Rp.mono eb27 hu0
        replace hv9 := Rp.mono eb27 hv9
        refine gnm ?_
        refine st_if hm N.ex (ct_test (cp_op r2_inS (cp_var rfl hv23) cp_str)) (by first | rfl | simp only [o2, Option.bind_assoc, Option.bind_some]) (fun B29 H30 hc32 hm g31 => ?_) (fun B29 H30 hc32 hm g31 => ?_)
        · replace N := N.pure g31
          replace eb13 := eb13.trans g31.b
          replace ee14 := ee14.trans g31.b
          replace eb27 := eb27.trans g31.b
          replace ee28 := ee28.trans g31.b
          replace hu0 := Rp.mono g31.b hu0
          replace hv9 := Rp.mono g31.b hv9
          replace hv23 := Rp.mono g31.b hv23
          refine st_retF (K := K) (m' := (some true)) hm N.ex cp_bl rfl fun x v B1 H1 hm g hv => ?_
          cases hm
          have hm := ht26 _ rfl
          cases hm
          have hm := ht12 _ rfl
          cases hm
          exact hQ _ _ _ (N.g.then g) hv
        · replace N := N.pure g31
          replace eb13 := eb13.trans g31.b
          replace ee14 := ee14.trans g31.b
          replace eb27 := eb27.trans g31.b
          replace ee28 := ee28.trans g31.b
          replace hu0 := Rp.mono g31.b hu0
          replace hv9 := Rp.mono g31.b hv9
          replace hv23 := Rp.mono g31.b hv23
          refine nxt ?_
          cases hm
          exact hn24 _ _ _ _ rfl ⟨_, _, N, eb27, ee28, rfl⟩
      · rintro Be s33 B35 σ H36 hm ⟨W34, _, N, eb37, _, rfl⟩
        replace eb13 := eb13.trans eb37
        replace ee14 := ee14.trans eb37
        replace hu0 := Rp.mono eb37 hu0
        replace hv9 := Rp.mono eb37 hv9
        cases hm
        exact hn10 _ _ _ _ rfl ⟨_, _, _, N, eb13, ee14, rfl⟩
    · rintro Be s38 B40 σ H41 hm ⟨W39, _, _, N, eb42, _, rfl⟩
      replace hu0 := Rp.mono eb42 hu0
      refine gnx ?_
      refine st_ret (K := K) hm N.ex cp_bl rfl fun v B1 H1 g hv => ?_
      exact hQ v B1 H1 (N.g.then g) hv
def m_l_with_door_b1 (p_l_rows_here : (List Str)) (p_l_first : Str) (p_l_k : Int) (p_l_tile_here : Str) : Option (Str) :=
 (Option.bind (o2 (some p_l_first) (atS? ("ABCD" : Str) p_l_k) fun x y => some ((decide (x = y)))) fun b => if b = true then
 (Option.bind (atS? ("abc" : Str) p_l_k) fun l_tile_here33 =>
 some (l_tile_here33))
 else
 some (p_l_tile_here))
def m_l_with_door (a_l_rows_here : (List Str)) : Option (List Str) :=
 (Option.bind (o2 (at? a_l_rows_here (0 : Int)) (some (0 : Int)) fun x y => atS? x y) fun l_first1 =>
 (Option.bind (some ("+" : Str)) fun l_tile_here7 =>
 (Option.bind (Option.bind (some (3 : Int)) fun n => prange1 n) fun xs => Option.bind (forN (fun x (s : Str) => m_l_with_door_b1 a_l_rows_here l_first1 x s) xs (l_tile_here7)) fun s39 =>
 (Option.bind (Option.bind (o2 (o2 (some s39) (Option.bind (at? a_l_rows_here (0 : Int)) fun xs => Option.bind (some (some (1 : Int))) fun lo => Option.bind (some none) fun hi => pcutS xs lo hi) fun x y => pcat x y) (some []) fun x y => some (x :: y)) plst) fun x => Option.bind (some (cut a_l_rows_here (some (1 : Int)) none)) fun y => plst (x ++ y)))))
abbrev s_l_with_door : Stmt := top 29
theorem sc_l_with_door : FnScope ["_law_rows_here", "_law_first", "_law_tile_here", "_law_k"] ["_law_rows_here"] (defScope s_l_with_door) := ⟨rfl, rfl, rfl, by decide +kernel, rfl, by decide +kernel, by decide +kernel⟩
abbrev sp_l_with_door (K : Fg) : Sp := spP K (fun t : (List Str) × Unit => m_l_with_door t.1)
set_option maxHeartbeats 0 in
theorem ok_l_with_door {f : Addr} {fd : FuncData} (F : FunD K "_law_with_door" "_law_with_door" (defArgs s_l_with_door) (defBody s_l_with_door) (defScope s_l_with_door) [] [] f fd) (T : Tx K mg)  : FnOk P w K mg base CX0 1 f fd ["_law_rows_here"] (sp_l_with_door K) := by
  have sc := sc_l_with_door
  refine F.ok sc (fun vs H Q E h => ?_) (fun cdv A outer s H vs Q E hr h => ?_)
  · obtain ⟨Bs, t, r, ex, ⟨u0, _, rfl, hu0, hz⟩, hm, hQ⟩ := h
    cases hz
    rfl
  · obtain ⟨Bs, ⟨a_l_rows_here, ⟨⟩⟩, r, ex, ⟨u0, _, rfl, hu0, hz⟩, hm, hQ⟩ := h
    cases hz
    replace hu0 : rp K Bs u0 a_l_rows_here := hu0
    replace hm : m_l_with_door a_l_rows_here = some r := hm
    obtain ⟨Hs, eHs⟩ : ∃ Hs, Hs = H := ⟨_, rfl⟩
    subst eHs
    have N : Now noM Bs Hs oE emp Bs Hs () := nowE ex
    unfold m_l_with_door at hm
    refine ⟨_, PSs.nox (pss_cons (ps_set (i := 1) sc.nd rfl (.inl rfl) (pe_ix ix_str (pe_ix (ix_listK (K := K) rfl) (pv 0) pe_int (fun _ _ => rfl)) pe_int (fun _ _ => rfl))) (pss_cons (ps_set (i := 2) sc.nd rfl (.inl rfl) pe_str) (pss_cons (ps_for PassesOwn.never rfl (pi_range1 rfl T.free_range (pa_cons pe_int pa_nil)) (pg_name (i := 3) sc.nd rfl (.inl rfl)) (pss_one (ps_if (pt_cmpR op_eq (pv 1) (pe_ix ix_str pe_str (pv 3) (fun _ _ => rfl)) (nomark _)) (pss_one (ps_set (i := 2) sc.nd rfl (.inl rfl) (pe_ix ix_str pe_str (pv 3) (fun _ _ => rfl)))) pss_nil))) (pss_one (ps_ret (pe_op op_cat (pe_lst (pa_cons (pe_op op_add_str (pv 2) (pe_slice sl_str (pe_ix (ix_listK (K := K) rfl) (pv 0) pe_int (fun _ _ => rfl)) (po_some pe_int) po_none)) pa_nil)) (pe_slice (sl_listK (K := K) rfl) (pv 0) (po_some pe_int) po_none))))))), ?_⟩
    refine sq ?_
    refine st_asg (K := K) hm N.ex (cp_op r2_ixS (cp_op r2_ixL (cp_var rfl hu0) cp_int) cp_int) (by first | rfl | simp only [o2, Option.bind_assoc, Option.bind_some]) fun l_first1 v2 B3 H4 _ hm g5 h6 => ?_
    replace N := N.pure g5
    replace hu0 := Rp.mono g5.b hu0
    refine gnx ?_
    refine sq ?_
    refine st_asg (K := K) hm N.ex cp_str rfl fun l_tile_here7 v8 B9 H10 _ hm g11 h12 => ?_
    replace N := N.pure g11
    replace hu0 := Rp.mono g11.b hu0
    replace h6 := Rp.mono g11.b h6
    refine gnx ?_
    refine sq ?_
    refine st_forN_r1 (K := K) (fun Be (s : Str) B σ H => ∃ (W : Hp) (w_l_tile_here : V) (o3 : Option V), Now noM Bs Hs oE W B H () ∧ Ex B9 B ∧ Ex Be B ∧ σ = [some u0, some v2, some w_l_tile_here, o3] ∧ rp K B w_l_tile_here s) hm N.ex (ca_cons cp_int ca_nil) (by first | rfl | simp only [o2, Option.bind_assoc, Option.bind_some]) (fun Be H1 g => ⟨_, v8, _, N.pure g, g.b, Ex.refl _, rfl, Rp.mono g.b h12⟩) ?_ ?_
    · rintro Be x13 s14 B16 σ H17 v18 c19 N20 ⟨W15, w27, _, N, eb25, ee26, rfl, h28⟩ hv21 hm hn22
      unfold m_l_with_door_b1 at hm
      replace hu0 := Rp.mono eb25 hu0
      replace h6 := Rp.mono eb25 h6
      refine gnm ?_
      refine st_if hm N.ex (ct_test (cp_op r2_eq (cp_var rfl h6) (cp_op r2_ixS cp_str (cp_var rfl hv21)))) (by first | rfl | simp only [o2, Option.bind_assoc, Option.bind_some]) (fun B29 H30 hc32 hm g31 => ?_) (fun B29 H30 hc32 hm g31 => ?_)
      · replace N := N.pure g31
        replace eb25 := eb25.trans g31.b
        replace ee26 := ee26.trans g31.b
        replace hu0 := Rp.mono g31.b hu0
        replace h6 := Rp.mono g31.b h6
        replace h28 := Rp.mono g31.b h28
        replace hv21 := Rp.mono g31.b hv21
        refine st_asg (K := K) hm N.ex (cp_op r2_ixS cp_str (cp_var rfl hv21)) (by first | rfl | simp only [o2, Option.bind_assoc, Option.bind_some]) fun l_tile_here33 v34 B35 H36 _ hm g37 h38 => ?_
        replace N := N.pure g37
        replace eb25 := eb25.trans g37.b
        replace ee26 := ee26.trans g37.b
        replace hu0 := Rp.mono g37.b hu0
        replace h6 := Rp.mono g37.b h6
        replace hv21 := Rp.mono g37.b hv21
        cases hm
        exact hn22 _ _ _ ⟨_, v34, _, N, eb25, ee26, rfl, h38⟩
      · replace N := N.pure g31
        replace eb25 := eb25.trans g31.b
        replace ee26 := ee26.trans g31.b
        replace hu0 := Rp.mono g31.b hu0
        replace h6 := Rp.mono g31.b h6
        replace h28 := Rp.mono g31.b h28
        replace hv21 := Rp.mono g31.b hv21
        refine nxt ?_
        cases hm
        exact hn22 _ _ _ ⟨_, w27, _, N, eb25, ee26, rfl, h28⟩
    · rintro Be s39 B41 σ H42 hm ⟨W40, w44, _, N, eb43, _, rfl, h45⟩
      replace hu0 := Rp.mono eb43 hu0
      replace h6 := Rp.mono eb43 h6
      refine gnx ?_
      refine st_ret (K := K) hm N.ex (Co.cp (co_cat (Co.cp (co_lst (Cl.cons (cp_op r2_addS (cp_var rfl h45) (cp_sliceS (cp_op r2_ixL (cp_var rfl hu0) cp_int) (cpo_some (K := K) cp_int) cpo_none)) Cl.nil))) (Co.cp (co_slice (cp_var rfl hu0) (cpo_some (K := K) cp_int) cpo_none)))) (by first | rfl | simp only [o2, Option.bind_assoc, Option.bind_some]) fun v B1 H1 g hv => ?_
      exact hQ v B1 H1 (N.g.then g) hv
def m_l_rows_b2 (p_l_high : Int) (p_l_wide : Int) (p_l_shuts : Int) (p_l_many : Int) (p_l_k : Int) (p_l_at : Int) (p_st : ((List Int) × (List Str))) (p_l_row : Str) : Option (((List Int) × (List Str)) × Str) :=
 (Option.bind (Option.bind (some (p_l_row, p_st)) fun p94 => Option.bind (Option.bind (m_l_tile p94.2.1 (p_l_shuts, p_l_many, ())) fun q93 => some (q93.1, (q93.2, p94.2.2))) fun q95 => Option.bind (pcat p94.1 q95.1) fun z => some (z, q95.2)) fun p104 =>
 some (p104.2, p104.1))
def m_l_rows_b1 (p_l_high : Int) (p_l_wide : Int) (p_l_shuts : Int) (p_l_many : Int) (p_l_k : Int) (p_st : ((List Int) × (List Str))) : Option (((List Int) × (List Str))) :=
 (Option.bind (some ("" : Str)) fun l_row69 =>
 (Option.bind (Option.bind (some p_l_wide) fun n => prange1 n) fun xs => Option.bind (forN (fun x (s : ((List Int) × (List Str)) × Str) => m_l_rows_b2 p_l_high p_l_wide p_l_shuts p_l_many p_l_k x s.1 s.2) xs (p_st, l_row69)) fun s105 =>
 (Option.bind (Option.bind (some (s105.2, s105.1)) fun p112 => Option.bind (papp p112.2.2 p112.1) fun q113 => some ((), (p112.2.1, q113))) fun p119 =>
 some (p119.2))))
def n_l_rows (st0 : (List Int))  : Option ((List Str) × (List Int)) :=
 (Option.bind (Option.bind (some ((1 : Int), st0)) fun p3 => Option.bind (Option.bind (draw p3.2 ((5 : Int), ())) fun q2 => some (q2.1, q2.2)) fun q4 => Option.bind (some (p3.1 + q4.1)) fun z => some (z, q4.2)) fun p180 =>
 (Option.bind (Option.bind (some ((1 : Int), p180.2)) fun p15 => Option.bind (Option.bind (draw p15.2 ((6 : Int), ())) fun q14 => some (q14.1, q14.2)) fun q16 => Option.bind (some (p15.1 + q16.1)) fun z => some (z, q16.2)) fun p179 =>
 (Option.bind (Option.bind (some ((2 : Int), p179.2)) fun p27 => Option.bind (Option.bind (draw p27.2 ((3 : Int), ())) fun q26 => some (q26.1, q26.2)) fun q28 => Option.bind (pmul p27.1 q28.1) fun z => some (z, q28.2)) fun p178 =>
 (Option.bind (Option.bind (draw p178.2 ((4 : Int), ())) fun q38 => some (q38.1, q38.2)) fun p177 =>
 (Option.bind (some (([] : List Str), p177.2)) fun p176 =>
 (Option.bind (Option.bind (some p180.1) fun n => prange1 n) fun xs => Option.bind (forN (fun x (s : ((List Int) × (List Str))) => m_l_rows_b1 p180.1 p179.1 p178.1 p177.1 x s) xs ((p176.2, p176.1))) fun s120 =>
 (Option.bind (m_l_used s120.2) fun l_used_here129 =>
 (Option.bind (Option.bind (some s120.2) fun xs => Option.bind (pbig xs) fun xs => lcF (fun x135_l_row => (some true)) (fun x135_l_row => (m_l_renamed x135_l_row l_used_here129)) xs) fun l_rows_here136 =>
 (Option.bind (Option.bind (Option.bind (m_l_has_door l_rows_here136) fun x => some (!x)) fun b175 => if b175 = true then
 (Option.bind (m_l_with_door l_rows_here136) fun l_rows_here152 =>
 (some (s120.1, l_rows_here152)))
 else
 (some (s120.1, l_rows_here136))) fun z168 =>
 (Option.bind (some z168.2) fun x => some (x, z168.1)))))))))))
def m_l_rows (s : (List Int)) (t : Unit) : Option ((List Str) × (List Int)) := n_l_rows s 
abbrev s_l_rows : Stmt := top 30
theorem sc_l_rows : FnScope ["_law_box", "_law_high", "_law_wide", "_law_shuts", "_law_many", "_law_rows_here", "_law_k", "_law_row", "_law_at", "_law_used_here"] ["_law_box"] (defScope s_l_rows) := ⟨rfl, rfl, rfl, by decide +kernel, rfl, by decide +kernel, by decide +kernel⟩
abbrev sp_l_rows (K : Fg) : Sp := spM K (fun pa => (OwBox K pa)) m_l_rows
set_option maxHeartbeats 0 in
theorem ok_l_rows {f : Addr} {fd : FuncData} (F : FunD K "_law_rows" "_law_rows" (defArgs s_l_rows) (defBody s_l_rows) (defScope s_l_rows) [] [] f fd) (T : Tx K mg) (c_l_draw : Fc P w K mg base 1 "_law_draw" ["_law_box", "_law_many"] (sp_l_draw K)) (c_l_has_door : Fc P w K mg base 1 "_law_has_door" ["_law_rows_here"] (sp_l_has_door K)) (c_l_renamed : Fc P w K mg base 1 "_law_renamed" ["_law_row", "_law_used_here"] (sp_l_renamed K)) (c_l_tile : Fc P w K mg base 2 "_law_tile" ["_law_box", "_law_shuts", "_law_many"] (sp_l_tile K)) (c_l_used : Fc P w K mg base 1 "_law_used" ["_law_rows_here"] (sp_l_used K)) (c_l_with_door : Fc P w K mg base 1 "_law_with_door" ["_law_rows_here"] (sp_l_with_door K)) : FnOk P w K mg base CX0 3 f fd ["_law_box"] (sp_l_rows K) := by
  have sc := sc_l_rows
  refine F.ok sc (fun vs H Q E h => ?_) (fun cdv A outer s H vs Q E hr h => ?_)
  · obtain ⟨pa, us, W0, Bs, st0, t, r, s9, rfl, _, _, _, _, hz, _⟩ := h
    cases hz
    rfl
  · obtain ⟨pa, us, W0, Bs, st0, ⟨⟩, r, s9, rfl, ex, wx, dj, ow, hz, hm, hQ⟩ := h
    cases hz
    replace hm : n_l_rows st0  = some (r, s9) := hm
    obtain ⟨Hs, eHs⟩ : ∃ Hs, Hs = H := ⟨_, rfl⟩
    subst eHs
    have N : Now (dom W0) Bs Hs (OwBox K pa) W0 Bs Hs st0 := now0 ex wx dj ow
    unfold n_l_rows at hm
    refine ⟨_, PSs.nox (pss_cons (ps_set (i := 1) sc.nd rfl (.inl rfl) (pe_op op_add pe_int (pe_fc c_l_draw hr (by decide) rfl (pa_cons (pv 0) (pa_cons pe_int pa_nil))))) (pss_cons (ps_set (i := 2) sc.nd rfl (.inl rfl) (pe_op op_add pe_int (pe_fc c_l_draw hr (by decide) rfl (pa_cons (pv 0) (pa_cons pe_int pa_nil))))) (pss_cons (ps_set (i := 3) sc.nd rfl (.inl rfl) (pe_op op_mul pe_int (pe_fc c_l_draw hr (by decide) rfl (pa_cons (pv 0) (pa_cons pe_int pa_nil))))) (pss_cons (ps_set (i := 4) sc.nd rfl (.inl rfl) (pe_fc c_l_draw hr (by decide) rfl (pa_cons (pv 0) (pa_cons pe_int pa_nil)))) (pss_cons (ps_set (i := 5) sc.nd rfl (.inl rfl) (pe_lst pa_nil)) (pss_cons (ps_for PassesOwn.never rfl (pi_range1 rfl T.free_range (pa_cons (pv 1) pa_nil)) (pg_name (i := 6) sc.nd rfl (.inl rfl)) (pss_cons (ps_set (i := 7) sc.nd rfl (.inl rfl) pe_str) (pss_cons (ps_for PassesOwn.never rfl (pi_range1 rfl T.free_range (pa_cons (pv 2) pa_nil)) (pg_name (i := 8) sc.nd rfl (.inl rfl)) (pss_one (ps_set (i := 7) sc.nd rfl (.inl rfl) (pe_op op_add_str (pv 7) (pe_fc c_l_tile hr (by decide) rfl (pa_cons (pv 0) (pa_cons (pv 3) (pa_cons (pv 4) pa_nil)))))))) (pss_one (ps_expr (pe_bm PySem.F.plainAttrs_list PySem.F.slot_list_append PySem.F.type_list_append mt_append (pv 5) (pa_cons (pv 7) pa_nil))))))) (pss_cons (ps_set (i := 9) sc.nd rfl (.inr rfl) (pe_fc c_l_used hr (by decide) rfl (pa_cons (pv 5) pa_nil))) (pss_cons (ps_setLc (i := 5) (own := [("_law_row", 7)]) (g := gName 7) (tt := tYes) rfl sc.nd rfl rfl (sw_true rfl rfl rfl (by decide +kernel)) (pi_listK (K := K) rfl (pv 5)) (blkOk_by (N := ["_law_box", "_law_high", "_law_wide", "_law_shuts", "_law_many", "_law_rows_here", "_law_k", "_law_row", "_law_at", "_law_used_here"]) (sc := defScope s_l_rows) (by decide +kernel)) (fun _ _ _ _ _ => pg_name (i := 7) sc.nd rfl (Or.inl rfl)) (fun _ _ _ _ _ => pts_nil) (fun _ _ _ _ _ => (pe_fc c_l_renamed hr (by decide) rfl (pa_cons (pv 7) (pa_cons (pv 9) pa_nil))))) (pss_cons (ps_if (pt_not (pt_val (pe_fc c_l_has_door hr (by decide) rfl (pa_cons (pv 5) pa_nil)))) (pss_one (ps_set (i := 5) sc.nd rfl (.inl rfl) (pe_fc c_l_with_door hr (by decide) rfl (pa_cons (pv 5) pa_nil)))) pss_nil) (pss_one (ps_ret (pv 5)))))))))))), ?_⟩
    refine sq ?_
    refine st_asgS (K := K) hm N (cs_op r2_add (Cp.s cp_int) (cs_callM ln_id rfl (csa_cons (Cp.s cp_int) csa_nil))) (by first | rfl | simp only [o2, Option.bind_assoc, Option.bind_some]) fun l_high5 s6 v7 W8 B9 H10 hm N eb11 h12 => ?_
    try dsimp only at hm
    refine gnx ?_
    refine sq ?_
    refine st_asgS (K := K) hm N (cs_op r2_add (Cp.s cp_int) (cs_callM ln_id rfl (csa_cons (Cp.s cp_int) csa_nil))) (by first | rfl | simp only [o2, Option.bind_assoc, Option.bind_some]) fun l_wide17 s18 v19 W20 B21 H22 hm N eb23 h24 => ?_
    try dsimp only at hm
    replace h12 := Rp.mono eb23 h12
    refine gnx ?_
    refine sq ?_
    refine st_asgS (K := K) hm N (cs_op r2_mul (Cp.s cp_int) (cs_callM ln_id rfl (csa_cons (Cp.s cp_int) csa_nil))) (by first | rfl | simp only [o2, Option.bind_assoc, Option.bind_some]) fun l_shuts29 s30 v31 W32 B33 H34 hm N eb35 h36 => ?_
    try dsimp only at hm
    replace h12 := Rp.mono eb35 h12
    replace h24 := Rp.mono eb35 h24
    refine gnx ?_
    refine sq ?_
    refine st_asgS (K := K) hm N (cs_callM ln_id rfl (csa_cons (Cp.s cp_int) csa_nil)) (by first | rfl | simp only [o2, Option.bind_assoc, Option.bind_some]) fun l_many39 s40 v41 W42 B43 H44 hm N eb45 h46 => ?_
    try dsimp only at hm
    replace h12 := Rp.mono eb45 h12
    replace h24 := Rp.mono eb45 h24
    replace h36 := Rp.mono eb45 h36
    refine gnx ?_
    refine sq ?_
    refine st_asgL (K := K) hm N (Co.s (co_nil (α := Str))) (by first | rfl | simp only [o2, Option.bind_assoc, Option.bind_some]) fun l_rows_here47 s48 pl49 W50 B51 H52 hm N eb53 fp54 => ?_
    replace h12 := Rp.mono eb53 h12
    replace h24 := Rp.mono eb53 h24
    replace h36 := Rp.mono eb53 h36
    replace h46 := Rp.mono eb53 h46
    try dsimp only at hm
    refine gnx ?_
    refine sq ?_
    refine st_forN_r1 (K := K) (fun Be (s : ((List Int) × (List Str))) B σ H => ∃ (W : Hp) (o6 : Option V) (o7 : Option V) (o8 : Option V) (o9 : Option V), Now (dom W0) Bs Hs (star (OwBox K pa) (OwL (α := Str) K pl49)) W B H s ∧ Ex B51 B ∧ Ex Be B ∧ σ = [some (.ref pa), some v7, some v19, some v31, some v41, some (.ref pl49), o6, o7, o8, o9]) hm N.ex (ca_cons (cp_var rfl h12) ca_nil) (by first | rfl | simp only [o2, Option.bind_assoc, Option.bind_some]) (fun Be H1 g => ⟨_, _, _, _, _, N.pure g, g.b, Ex.refl _, rfl⟩) ?_ ?_
    · rintro Be x55 s56 B58 σ H59 v60 c61 N62 ⟨W57, _, _, _, _, N, eb67, ee68, rfl⟩ hv63 hm hn64
      unfold m_l_rows_b1 at hm
      replace h12 := Rp.mono eb67 h12
      replace h24 := Rp.mono eb67 h24
      replace h36 := Rp.mono eb67 h36
      replace h46 := Rp.mono eb67 h46
      refine gnm ?_
      refine sq ?_
      refine st_asg (K := K) hm N.ex cp_str rfl fun l_row69 v70 B71 H72 _ hm g73 h74 => ?_
      replace N := N.pure g73
      replace eb67 := eb67.trans g73.b
      replace ee68 := ee68.trans g73.b
      replace h12 := Rp.mono g73.b h12
      replace h24 := Rp.mono g73.b h24
      replace h36 := Rp.mono g73.b h36
      replace h46 := Rp.mono g73.b h46
      replace hv63 := Rp.mono g73.b hv63
      refine gnx ?_
      refine sq ?_
      refine st_forN_r1 (K := K) (fun Be (s : ((List Int) × (List Str)) × Str) B σ H => ∃ (W : Hp) (w_l_row : V) (o8 : Option V) (o9 : Option V), Now (dom W0) Bs Hs (star (OwBox K pa) (OwL (α := Str) K pl49)) W B H s.1 ∧ Ex B71 B ∧ Ex Be B ∧ σ = [some (.ref pa), some v7, some v19, some v31, some v41, some (.ref pl49), some v60, some w_l_row, o8, o9] ∧ rp K B w_l_row s.2) hm N.ex (ca_cons (cp_var rfl h24) ca_nil) (by first | rfl | simp only [o2, Option.bind_assoc, Option.bind_some]) (fun Be H1 g => ⟨_, v70, _, _, N.pure g, g.b, Ex.refl _, rfl, Rp.mono g.b h74⟩) ?_ ?_
      · rintro Be x75 s76 B78 σ H79 v80 c81 N82 ⟨W77, w89, _, _, N, eb87, ee88, rfl, h90⟩ hv83 hm hn84
        unfold m_l_rows_b2 at hm
        replace eb67 := eb67.trans eb87
        replace ee68 := ee68.trans eb87
        replace h12 := Rp.mono eb87 h12
        replace h24 := Rp.mono eb87 h24
        replace h36 := Rp.mono eb87 h36
        replace h46 := Rp.mono eb87 h46
        replace hv63 := Rp.mono eb87 hv63
        refine gnm ?_
        refine st_asgS (K := K) hm N (cs_op r2_addS (Cp.s (cp_var rfl h90)) (cs_callM ln_l rfl (csa_cons (Cp.s (cp_var rfl h36)) (csa_cons (Cp.s (cp_var rfl h46)) csa_nil)))) (by first | rfl | simp only [o2, Option.bind_assoc, Option.bind_some]) fun l_row96 s97 v98 W99 B100 H101 hm N eb102 h103 => ?_
        try dsimp only at hm
        replace eb67 := eb67.trans eb102
        replace ee68 := ee68.trans eb102
        replace eb87 := eb87.trans eb102
        replace ee88 := ee88.trans eb102
        replace h12 := Rp.mono eb102 h12
        replace h24 := Rp.mono eb102 h24
        replace h36 := Rp.mono eb102 h36
        replace h46 := Rp.mono eb102 h46
        replace hv63 := Rp.mono eb102 hv63
        replace hv83 := Rp.mono eb102 hv83
        cases hm
        exact hn84 _ _ _ ⟨_, v98, _, _, N, eb87, ee88, rfl, h103⟩
      · rintro Be s105 B107 σ H108 hm ⟨W106, w110, _, _, N, eb109, _, rfl, h111⟩
        replace eb67 := eb67.trans eb109
        replace ee68 := ee68.trans eb109
        replace h12 := Rp.mono eb109 h12
        replace h24 := Rp.mono eb109 h24
        replace h36 := Rp.mono eb109 h36
        replace h46 := Rp.mono eb109 h46
        replace hv63 := Rp.mono eb109 hv63
        refine gnx ?_
        refine st_dropS (K := K) hm N (cs_append ln_r rfl (Cp.s (cp_var rfl h111))) (by first | rfl | simp only [o2, Option.bind_assoc, Option.bind_some]) fun _ s114 W115 B116 H117 hm N eb118 => ?_
        try dsimp only at hm
        replace eb67 := eb67.trans eb118
        replace ee68 := ee68.trans eb118
        replace h12 := Rp.mono eb118 h12
        replace h24 := Rp.mono eb118 h24
        replace h36 := Rp.mono eb118 h36
        replace h46 := Rp.mono eb118 h46
        replace hv63 := Rp.mono eb118 hv63
        replace h111 := Rp.mono eb118 h111
        cases hm
        exact hn64 _ _ _ ⟨_, _, _, _, _, N, eb67, ee68, rfl⟩
    · rintro Be s120 B122 σ H123 hm ⟨W121, _, _, _, _, N, eb124, _, rfl⟩
      replace h12 := Rp.mono eb124 h12
      replace h24 := Rp.mono eb124 h24
      replace h36 := Rp.mono eb124 h36
      replace h46 := Rp.mono eb124 h46
      refine gnx ?_
      obtain ⟨W125, B126, N, eb127, h128⟩ := N.freeze fp54
      replace h12 := Rp.mono eb127 h12
      replace h24 := Rp.mono eb127 h24
      replace h36 := Rp.mono eb127 h36
      replace h46 := Rp.mono eb127 h46
      refine sq ?_
      refine st_asg (K := K) hm N.ex (cp_call0 (ca_cons0 (cp_var rfl h128) ca_nil0)) (by first | rfl | simp only [o2, Option.bind_assoc, Option.bind_some]) fun l_used_here129 v130 B131 H132 _ hm g133 h134 => ?_
      replace N := N.pure g133
      replace h12 := Rp.mono g133.b h12
      replace h24 := Rp.mono g133.b h24
      replace h36 := Rp.mono g133.b h36
      replace h46 := Rp.mono g133.b h46
      replace h128 := Rp.mono g133.b h128
      refine gnx ?_
      refine sq ?_
      refine st_asg (K := K) hm N.ex (Co.cp (co_lcL (g := gName 7) (t := fun (x135_l_row : Str) => (some true)) (f := fun (x135_l_row : Str) => (m_l_renamed x135_l_row l_used_here129)) (cp_var rfl h128) fun x135_l_row B1x135 vx135 ebx135 hx135 => ⟨_, fun _ _ _ hq => hq, rfl, (ct_yes).to (by first | rfl | simp only [o2, Option.bind_assoc, Option.bind_some]), ((cp_call0 (ca_cons0 (cp_var rfl hx135) (ca_cons0 (cp_var rfl (Rp.mono ebx135 h134)) ca_nil0)))).to (by first | rfl | simp only [o2, Option.bind_assoc, Option.bind_some])⟩)) (by first | rfl | simp only [o2, Option.bind_assoc, Option.bind_some]) fun l_rows_here136 v137 B138 H139 _ hm g140 h141 => ?_
      replace N := N.pure g140
      replace h12 := Rp.mono g140.b h12
      replace h24 := Rp.mono g140.b h24
      replace h36 := Rp.mono g140.b h36
      replace h46 := Rp.mono g140.b h46
      replace h134 := Rp.mono g140.b h134
      refine gnx ?_
      refine sq ?_
      refine st_ifJ hm (fun (z : (List Int) × (List Str)) σ H => ∃ (W B : Hp) (w_l_rows_here : V) (o6 : Option V) (o7 : Option V) (o8 : Option V), Now (dom W0) Bs Hs (OwBox K pa) W B H z.1 ∧ Ex B138 B ∧ σ = [some (.ref pa), some v7, some v19, some v31, some v41, some w_l_rows_here, o6, o7, o8, some v130] ∧ rp K B w_l_rows_here z.2) N.ex (ct_not (ct_B (cp_call0 (ca_cons0 (cp_var rfl h141) ca_nil0)))) (by first | rfl | simp only [o2, Option.bind_assoc, Option.bind_some]) ?_ ?_ ?_
      · intro z142 B145 H146 N147 hc148 hm g149 hn150
        have ej151 := g149.b
        replace N := N.pure g149
        replace h12 := Rp.mono g149.b h12
        replace h24 := Rp.mono g149.b h24
        replace h36 := Rp.mono g149.b h36
        replace h46 := Rp.mono g149.b h46
        replace h134 := Rp.mono g149.b h134
        replace h141 := Rp.mono g149.b h141
        refine st_asg (K := K) hm N.ex (cp_call0 (ca_cons0 (cp_var rfl h141) ca_nil0)) (by first | rfl | simp only [o2, Option.bind_assoc, Option.bind_some]) fun l_rows_here152 v153 B154 H155 _ hm g156 h157 => ?_
        replace N := N.pure g156
        replace ej151 := ej151.trans g156.b
        replace h12 := Rp.mono g156.b h12
        replace h24 := Rp.mono g156.b h24
        replace h36 := Rp.mono g156.b h36
        replace h46 := Rp.mono g156.b h46
        replace h134 := Rp.mono g156.b h134
        cases hm
        exact hn150 _ _ ⟨_, _, v153, _, _, _, N, ej151, rfl, h157⟩
      · intro z158 B161 H162 N163 hc164 hm g165 hn166
        have ej167 := g165.b
        replace N := N.pure g165
        replace h12 := Rp.mono g165.b h12
        replace h24 := Rp.mono g165.b h24
        replace h36 := Rp.mono g165.b h36
        replace h46 := Rp.mono g165.b h46
        replace h134 := Rp.mono g165.b h134
        replace h141 := Rp.mono g165.b h141
        refine nxt ?_
        cases hm
        exact hn166 _ _ ⟨_, _, v137, _, _, _, N, ej167, rfl, h141⟩
      · rintro z168 σ H171 hm ⟨W169, B170, w173, _, _, _, N, eb172, rfl, h174⟩
        replace h12 := Rp.mono eb172 h12
        replace h24 := Rp.mono eb172 h24
        replace h36 := Rp.mono eb172 h36
        replace h46 := Rp.mono eb172 h46
        replace h134 := Rp.mono eb172 h134
        refine gnx ?_
        refine st_retF (K := K) (m' := (some z168.2)) hm N.ex (cp_var rfl h174) rfl fun x v B1 H1 hm g hv => ?_
        cases hm
        replace N := N.pure g
        exact hQ _ _ _ _ N.sw N.p hv
def n_l_blank (st0 : (List Int))  : Option (Str × (List Int)) :=
 (Option.bind (Option.bind (draw st0 ((6 : Int), ())) fun q2 => some (q2.1, q2.2)) fun p23 =>
 (Option.bind (some ((decide (p23.1 = (0 : Int))))) fun b => if b = true then
 (Option.bind (some (" " : Str)) fun x => some (x, p23.2))
 else
 (Option.bind (some ((decide (p23.1 = (1 : Int))))) fun b => if b = true then
 (Option.bind (some ("\t " : Str)) fun x => some (x, p23.2))
 else
 (Option.bind (some ("" : Str)) fun x => some (x, p23.2)))))
def m_l_blank (s : (List Int)) (t : Unit) : Option (Str × (List Int)) := n_l_blank s 
abbrev s_l_blank : Stmt := top 31
theorem sc_l_blank : FnScope ["_law_box", "_law_kind"] ["_law_box"] (defScope s_l_blank) := ⟨rfl, rfl, rfl, by decide +kernel, rfl, by decide +kernel, by decide +kernel⟩
abbrev sp_l_blank (K : Fg) : Sp := spM K (fun pa => (OwBox K pa)) m_l_blank
set_option maxHeartbeats 0 in
theorem ok_l_blank {f : Addr} {fd : FuncData} (F : FunD K "_law_blank" "_law_blank" (defArgs s_l_blank) (defBody s_l_blank) (defScope s_l_blank) [] [] f fd) (T : Tx K mg) (c_l_draw : Fc P w K mg base 1 "_law_draw" ["_law_box", "_law_many"] (sp_l_draw K)) : FnOk P w K mg base CX0 2 f fd ["_law_box"] (sp_l_blank K) := by
  have sc := sc_l_blank
  refine F.ok sc (fun vs H Q E h => ?_) (fun cdv A outer s H vs Q E hr h => ?_)
  · obtain ⟨pa, us, W0, Bs, st0, t, r, s9, rfl, _, _, _, _, hz, _⟩ := h
    cases hz
    rfl
  · obtain ⟨pa, us, W0, Bs, st0, ⟨⟩, r, s9, rfl, ex, wx, dj, ow, hz, hm, hQ⟩ := h
    cases hz
    replace hm : n_l_blank st0  = some (r, s9) := hm
    obtain ⟨Hs, eHs⟩ : ∃ Hs, Hs = H := ⟨_, rfl⟩
    subst eHs
    have N : Now (dom W0) Bs Hs (OwBox K pa) W0 Bs Hs st0 := now0 ex wx dj ow
    unfold n_l_blank at hm
    refine ⟨_, PSs.nox (pss_cons (ps_set (i := 1) sc.nd rfl (.inl rfl) (pe_fc c_l_draw hr (by decide) rfl (pa_cons (pv 0) (pa_cons pe_int pa_nil)))) (pss_cons (ps_if (pt_cmpR op_eq (pv 1) pe_int (nomark _)) (pss_one (ps_ret pe_str)) pss_nil) (pss_cons (ps_if (pt_cmpR op_eq (pv 1) pe_int (nomark _)) (pss_one (ps_ret pe_str)) pss_nil) (pss_one (ps_ret pe_str))))), ?_⟩
    refine sq ?_
    refine st_asgS (K := K) hm N (cs_callM ln_id rfl (csa_cons (Cp.s cp_int) csa_nil)) (by first | rfl | simp only [o2, Option.bind_assoc, Option.bind_some]) fun l_kind3 s4 v5 W6 B7 H8 hm N eb9 h10 => ?_
    try dsimp only at hm
    refine gnx ?_
    refine sq ?_
    refine st_if hm N.ex (ct_test (cp_op r2_eq (cp_var rfl h10) cp_int)) rfl (fun B11 H12 hc14 hm g13 => ?_) (fun B11 H12 hc14 hm g13 => ?_)
    · replace N := N.pure g13
      replace h10 := Rp.mono g13.b h10
      refine st_retF (K := K) (m' := (some (" " : Str))) hm N.ex cp_str rfl fun x v B1 H1 hm g hv => ?_
      cases hm
      replace N := N.pure g
      exact hQ _ _ _ _ N.sw N.p hv
    · replace N := N.pure g13
      replace h10 := Rp.mono g13.b h10
      refine nxt ?_
      refine gnx ?_
      refine sq ?_
      refine st_if hm N.ex (ct_test (cp_op r2_eq (cp_var rfl h10) cp_int)) rfl (fun B15 H16 hc18 hm g17 => ?_) (fun B15 H16 hc18 hm g17 => ?_)
      · replace N := N.pure g17
        replace h10 := Rp.mono g17.b h10
        refine st_retF (K := K) (m' := (some ("\t " : Str))) hm N.ex cp_str rfl fun x v B1 H1 hm g hv => ?_
        cases hm
        replace N := N.pure g
        exact hQ _ _ _ _ N.sw N.p hv
      · replace N := N.pure g17
        replace h10 := Rp.mono g17.b h10
        refine nxt ?_
        refine gnx ?_
        refine st_retF (K := K) (m' := (some ("" : Str))) hm N.ex cp_str rfl fun x v B1 H1 hm g hv => ?_
        cases hm
        replace N := N.pure g
        exact hQ _ _ _ _ N.sw N.p hv
def m_l_text_b2 (p_l_rows_here : (List Str)) (p_l_k : Int) (p_l_sign : Str) (p_st : (List Int)) (p_l_text_here : Str) : Option ((List Int) × Str) :=
 (Option.bind (Option.bind (Option.bind (some (p_l_text_here, p_st)) fun p85 => Option.bind (Option.bind (m_l_blank p85.2 ()) fun q84 => some (q84.1, q84.2)) fun q86 => Option.bind (pcat p85.1 q86.1) fun z => some (z, q86.2)) fun p87 => Option.bind (some (p_l_sign, p87.2)) fun q88 => Option.bind (pcat p87.1 q88.1) fun z => some (z, q88.2)) fun p97 =>
 some (p97.2, p97.1))
def m_l_text_b1 (p_l_rows_here : (List Str)) (p_l_k : Int) (p_st : (List Int)) (p_l_text_here : Str) : Option ((List Int) × Str) :=
 (Option.bind (Option.bind (Option.bind (Option.bind (draw p_st ((5 : Int), ())) fun q24 => some (q24.1, q24.2)) fun p25 => Option.bind (some ((0 : Int), p25.2)) fun q26 => Option.bind (some ((decide (p25.1 = q26.1)))) fun z => some (z, q26.2)) fun b135 => if b135.1 = true then
 (Option.bind (Option.bind (Option.bind (some (p_l_text_here, b135.2)) fun p38 => Option.bind (Option.bind (m_l_blank p38.2 ()) fun q37 => some (q37.1, q37.2)) fun q39 => Option.bind (pcat p38.1 q39.1) fun z => some (z, q39.2)) fun p40 => Option.bind (some (("\n" : Str), p40.2)) fun q41 => Option.bind (pcat p40.1 q41.1) fun z => some (z, q41.2)) fun p50 =>
 (some (p50.2, p50.1)))
 else
 (some (b135.2, p_l_text_here))) fun z61 =>
 (Option.bind (Option.bind (at? p_l_rows_here p_l_k) fun x => some (sgns x)) fun xs => Option.bind (forN (fun x (s : (List Int) × Str) => m_l_text_b2 p_l_rows_here p_l_k x s.1 s.2) xs (z61.1, z61.2)) fun s98 =>
 (Option.bind (Option.bind (some (s98.2, s98.1)) fun p106 => Option.bind (Option.bind (m_l_blank p106.2 ()) fun q105 => some (q105.1, q105.2)) fun q107 => Option.bind (pcat p106.1 q107.1) fun z => some (z, q107.2)) fun p134 =>
 (Option.bind (Option.bind (some (((decide ((p_l_k + (1 : Int)) < ((p_l_rows_here.length : Int))))), p134.2)) fun p120 => if p120.1 = true then some (true, p120.2) else (Option.bind (Option.bind (draw p120.2 ((4 : Int), ())) fun q117 => some (q117.1, q117.2)) fun p118 => Option.bind (some ((0 : Int), p118.2)) fun q119 => Option.bind (some ((decide (p118.1 = q119.1)))) fun z => some (z, q119.2))) fun b133 => if b133.1 = true then
 (Option.bind (pcat p134.1 ("\n" : Str)) fun l_text_here127 =>
 some (b133.2, l_text_here127))
 else
 some (b133.2, p134.1)))))
def n_l_text (st0 : (List Int)) (a_l_rows_here : (List Str)) : Option (Str × (List Int)) :=
 (Option.bind (some ("" : Str)) fun l_text_here1 =>
 (Option.bind (Option.bind (some ((a_l_rows_here.length : Int))) fun n => prange1 n) fun xs => Option.bind (forN (fun x (s : (List Int) × Str) => m_l_text_b1 a_l_rows_here x s.1 s.2) xs (st0, l_text_here1)) fun s136 =>
 (Option.bind (some s136.2) fun x => some (x, s136.1))))
def m_l_text (s : (List Int)) (t : (List Str) × Unit) : Option (Str × (List Int)) := n_l_text s t.1
abbrev s_l_text : Stmt := top 32
theorem sc_l_text : FnScope ["_law_box", "_law_rows_here", "_law_text_here", "_law_k", "_law_sign"] ["_law_box", "_law_rows_here"] (defScope s_l_text) := ⟨rfl, rfl, rfl, by decide +kernel, rfl, by decide +kernel, by decide +kernel⟩
abbrev sp_l_text (K : Fg) : Sp := spM K (fun pa => (OwBox K pa)) m_l_text
set_option maxHeartbeats 0 in
theorem ok_l_text {f : Addr} {fd : FuncData} (F : FunD K "_law_text" "_law_text" (defArgs s_l_text) (defBody s_l_text) (defScope s_l_text) [] [] f fd) (T : Tx K mg) (c_l_blank : Fc P w K mg base 2 "_law_blank" ["_law_box"] (sp_l_blank K)) (c_l_draw : Fc P w K mg base 1 "_law_draw" ["_law_box", "_law_many"] (sp_l_draw K)) : FnOk P w K mg base CX0 3 f fd ["_law_box", "_law_rows_here"] (sp_l_text K) := by
  have sc := sc_l_text
  refine F.ok sc (fun vs H Q E h => ?_) (fun cdv A outer s H vs Q E hr h => ?_)
  · obtain ⟨pa, us, W0, Bs, st0, t, r, s9, rfl, _, _, _, _, ⟨u0, _, rfl, hu0, hz⟩, _⟩ := h
    cases hz
    rfl
  · obtain ⟨pa, us, W0, Bs, st0, ⟨a_l_rows_here, ⟨⟩⟩, r, s9, rfl, ex, wx, dj, ow, ⟨u0, _, rfl, hu0, hz⟩, hm, hQ⟩ := h
    cases hz
    replace hu0 : rp K Bs u0 a_l_rows_here := hu0
    replace hm : n_l_text st0 a_l_rows_here = some (r, s9) := hm
    obtain ⟨Hs, eHs⟩ : ∃ Hs, Hs = H := ⟨_, rfl⟩
    subst eHs
    have N : Now (dom W0) Bs Hs (OwBox K pa) W0 Bs Hs st0 := now0 ex wx dj ow
    unfold n_l_text at hm
    refine ⟨_, PSs.nox (pss_cons (ps_set (i := 2) sc.nd rfl (.inl rfl) pe_str) (pss_cons (ps_for PassesOwn.never rfl (pi_range1 rfl T.free_range (pa_cons (pe_callB (call_len_K (K := K) rfl) rfl T.free_len boot_len (pa_cons (pv 1) pa_nil)) pa_nil)) (pg_name (i := 3) sc.nd rfl (.inl rfl)) (pss_cons (ps_if (pt_cmpR op_eq (pe_fc c_l_draw hr (by decide) rfl (pa_cons (pv 0) (pa_cons pe_int pa_nil))) pe_int (nomark _)) (pss_one (ps_set (i := 2) sc.nd rfl (.inl rfl) (pe_op op_add_str (pe_op op_add_str (pv 2) (pe_fc c_l_blank hr (by decide) rfl (pa_cons (pv 0) pa_nil))) pe_str))) pss_nil) (pss_cons (ps_for PassesOwn.never rfl (pi_str (pe_ix (ix_listK (K := K) rfl) (pv 1) (pv 3) (fun _ _ => rfl))) (pg_name (i := 4) sc.nd rfl (.inl rfl)) (pss_one (ps_set (i := 2) sc.nd rfl (.inl rfl) (pe_op op_add_str (pe_op op_add_str (pv 2) (pe_fc c_l_blank hr (by decide) rfl (pa_cons (pv 0) pa_nil))) (pv 4))))) (pss_cons (ps_set (i := 2) sc.nd rfl (.inl rfl) (pe_op op_add_str (pv 2) (pe_fc c_l_blank hr (by decide) rfl (pa_cons (pv 0) pa_nil)))) (pss_one (ps_if (PW.pt (pw_or (pt_cmpR op_lt (pe_op op_add (pv 3) pe_int) (pe_callB (call_len_K (K := K) rfl) rfl T.free_len boot_len (pa_cons (pv 1) pa_nil)) (nomark _)) (pw_or1 (pt_cmpR op_eq (pe_fc c_l_draw hr (by decide) rfl (pa_cons (pv 0) (pa_cons pe_int pa_nil))) pe_int (nomark _))))) (pss_one (ps_set (i := 2) sc.nd rfl (.inl rfl) (pe_op op_add_str (pv 2) pe_str))) pss_nil)))))) (pss_one (ps_ret (pv 2))))), ?_⟩
    refine sq ?_
    refine st_asg (K := K) hm N.ex cp_str rfl fun l_text_here1 v2 B3 H4 _ hm g5 h6 => ?_
    replace N := N.pure g5
    replace hu0 := Rp.mono g5.b hu0
    refine gnx ?_
    refine sq ?_
    refine st_forN_r1 (K := K) (fun Be (s : (List Int) × Str) B σ H => ∃ (W : Hp) (w_l_text_here : V) (o3 : Option V) (o4 : Option V), Now (dom W0) Bs Hs (OwBox K pa) W B H s.1 ∧ Ex B3 B ∧ Ex Be B ∧ σ = [some (.ref pa), some u0, some w_l_text_here, o3, o4] ∧ rp K B w_l_text_here s.2) hm N.ex (ca_cons (cp_cb rc_lenL (ca_cons (cp_var rfl hu0) ca_nil)) ca_nil) (by first | rfl | simp only [o2, Option.bind_assoc, Option.bind_some]) (fun Be H1 g => ⟨_, v2, _, _, N.pure g, g.b, Ex.refl _, rfl, Rp.mono g.b h6⟩) ?_ ?_
    · rintro Be x7 s8 B10 σ H11 v12 c13 N14 ⟨W9, w21, _, _, N, eb19, ee20, rfl, h22⟩ hv15 hm hn16
      unfold m_l_text_b1 at hm
      replace hu0 := Rp.mono eb19 hu0
      refine gnm ?_
      refine sq ?_
      refine st_ifJS hm (fun (z : (List Int) × Str) σ H => ∃ (W B : Hp) (w_l_text_here : V) (o4 : Option V), Now (dom W0) Bs Hs (OwBox K pa) W B H z.1 ∧ Ex B10 B ∧ σ = [some (.ref pa), some u0, some w_l_text_here, some v12, o4] ∧ rp K B w_l_text_here z.2) N (cst_test (cs_op r2_eq (cs_callM ln_id rfl (csa_cons (Cp.s cp_int) csa_nil)) (Cp.s cp_int))) (by first | rfl | simp only [o2, Option.bind_assoc, Option.bind_some]) ?_ ?_ ?_
      · intro z27 s28 W29 B30 H31 N32 hc33 hm N ej36 hn35
        try dsimp only at hm
        replace eb19 := eb19.trans ej36
        replace ee20 := ee20.trans ej36
        replace hu0 := Rp.mono ej36 hu0
        replace h22 := Rp.mono ej36 h22
        replace hv15 := Rp.mono ej36 hv15
        refine st_asgS (K := K) hm N (cs_op r2_addS (cs_op r2_addS (Cp.s (cp_var rfl h22)) (cs_callM ln_id rfl csa_nil)) (Cp.s cp_str)) (by first | rfl | simp only [o2, Option.bind_assoc, Option.bind_some]) fun l_text_here42 s43 v44 W45 B46 H47 hm N eb48 h49 => ?_
        try dsimp only at hm
        replace eb19 := eb19.trans eb48
        replace ee20 := ee20.trans eb48
        replace ej36 := ej36.trans eb48
        replace hu0 := Rp.mono eb48 hu0
        replace hv15 := Rp.mono eb48 hv15
        cases hm
        exact hn35 _ _ ⟨_, _, v44, _, N, ej36, rfl, h49⟩
      · intro z51 s52 W53 B54 H55 N56 hc57 hm N ej60 hn59
        try dsimp only at hm
        replace eb19 := eb19.trans ej60
        replace ee20 := ee20.trans ej60
        replace hu0 := Rp.mono ej60 hu0
        replace h22 := Rp.mono ej60 h22
        replace hv15 := Rp.mono ej60 hv15
        refine nxt ?_
        cases hm
        exact hn59 _ _ ⟨_, _, w21, _, N, ej60, rfl, h22⟩
      · rintro z61 σ H64 hm ⟨W62, B63, w66, _, N, eb65, rfl, h67⟩
        replace eb19 := eb19.trans eb65
        replace ee20 := ee20.trans eb65
        replace hu0 := Rp.mono eb65 hu0
        replace hv15 := Rp.mono eb65 hv15
        refine gnx ?_
        refine sq ?_
        refine st_forN_str (K := K) (fun Be (s : (List Int) × Str) B σ H => ∃ (W : Hp) (w_l_text_here : V) (o4 : Option V), Now (dom W0) Bs Hs (OwBox K pa) W B H s.1 ∧ Ex B63 B ∧ Ex Be B ∧ σ = [some (.ref pa), some u0, some w_l_text_here, some v12, o4] ∧ rp K B w_l_text_here s.2) hm N.ex (cp_op r2_ixL (cp_var rfl hu0) (cp_var rfl hv15)) (by first | rfl | simp only [o2, Option.bind_assoc, Option.bind_some]) (fun Be H1 g => ⟨_, w66, _, N.pure g, g.b, Ex.refl _, rfl, Rp.mono g.b h67⟩) ?_ ?_
        · rintro Be x68 s69 B71 σ H72 v73 c74 N75 ⟨W70, w82, _, N, eb80, ee81, rfl, h83⟩ hv76 hm hn77
          unfold m_l_text_b2 at hm
          replace eb19 := eb19.trans eb80
          replace ee20 := ee20.trans eb80
          replace hu0 := Rp.mono eb80 hu0
          replace hv15 := Rp.mono eb80 hv15
          refine gnm ?_
          refine st_asgS (K := K) hm N (cs_op r2_addS (cs_op r2_addS (Cp.s (cp_var rfl h83)) (cs_callM ln_id rfl csa_nil)) (Cp.s (cp_var rfl hv76))) (by first | rfl | simp only [o2, Option.bind_assoc, Option.bind_some]) fun l_text_here89 s90 v91 W92 B93 H94 hm N eb95 h96 => ?_
          try dsimp only at hm
          replace eb19 := eb19.trans eb95
          replace ee20 := ee20.trans eb95
          replace eb80 := eb80.trans eb95
          replace ee81 := ee81.trans eb95
          replace hu0 := Rp.mono eb95 hu0
          replace hv15 := Rp.mono eb95 hv15
          replace hv76 := Rp.mono eb95 hv76
          cases hm
          exact hn77 _ _ _ ⟨_, v91, _, N, eb80, ee81, rfl, h96⟩
        · rintro Be s98 B100 σ H101 hm ⟨W99, w103, _, N, eb102, _, rfl, h104⟩
          replace eb19 := eb19.trans eb102
          replace ee20 := ee20.trans eb102
          replace hu0 := Rp.mono eb102 hu0
          replace hv15 := Rp.mono eb102 hv15
          refine gnx ?_
          refine sq ?_
          refine st_asgS (K := K) hm N (cs_op r2_addS (Cp.s (cp_var rfl h104)) (cs_callM ln_id rfl csa_nil)) (by first | rfl | simp only [o2, Option.bind_assoc, Option.bind_some]) fun l_text_here108 s109 v110 W111 B112 H113 hm N eb114 h115 => ?_
          try dsimp only at hm
          replace eb19 := eb19.trans eb114
          replace ee20 := ee20.trans eb114
          replace hu0 := Rp.mono eb114 hu0
          replace hv15 := Rp.mono eb114 hv15
          refine gnx ?_
          refine st_ifS hm N (cst_or (Ct.s (ct_test (cp_op r2_lt (cp_op r2_add (cp_var rfl hv15) cp_int) (cp_cb rc_lenL (ca_cons (cp_var rfl hu0) ca_nil))))) (cst_test (cs_op r2_eq (cs_callM ln_id rfl (csa_cons (Cp.s cp_int) csa_nil)) (Cp.s cp_int)))) (by first | rfl | simp only [o2, Option.bind_assoc, Option.bind_some]) (fun s121 W122 B123 H124 hc125 hm N eb126 => ?_) (fun s121 W122 B123 H124 hc125 hm N eb126 => ?_)
          · try dsimp only at hm
            replace eb19 := eb19.trans eb126
            replace ee20 := ee20.trans eb126
            replace hu0 := Rp.mono eb126 hu0
            replace hv15 := Rp.mono eb126 hv15
            replace h115 := Rp.mono eb126 h115
            refine st_asg (K := K) hm N.ex (cp_op r2_addS (cp_var rfl h115) cp_str) (by first | rfl | simp only [o2, Option.bind_assoc, Option.bind_some]) fun l_text_here127 v128 B129 H130 _ hm g131 h132 => ?_
            replace N := N.pure g131
            replace eb19 := eb19.trans g131.b
            replace ee20 := ee20.trans g131.b
            replace hu0 := Rp.mono g131.b hu0
            replace hv15 := Rp.mono g131.b hv15
            cases hm
            exact hn16 _ _ _ ⟨_, v128, _, _, N, eb19, ee20, rfl, h132⟩
          · try dsimp only at hm
            replace eb19 := eb19.trans eb126
            replace ee20 := ee20.trans eb126
            replace hu0 := Rp.mono eb126 hu0
            replace hv15 := Rp.mono eb126 hv15
            replace h115 := Rp.mono eb126 h115
            refine nxt ?_
            cases hm
            exact hn16 _ _ _ ⟨_, v110, _, _, N, eb19, ee20, rfl, h115⟩
    · rintro Be s136 B138 σ H139 hm ⟨W137, w141, _, _, N, eb140, _, rfl, h142⟩
      replace hu0 := Rp.mono eb140 hu0
      refine gnx ?_
      refine st_retF (K := K) (m' := (some s136.2)) hm N.ex (cp_var rfl h142) rfl fun x v B1 H1 hm g hv => ?_
      cases hm
      replace N := N.pure g
      exact hQ _ _ _ _ N.sw N.p hv
def m_station_of_b1 (p_tile : Str) (p_number : Int) : Option (Fl (Unit) ((Option Int))) :=
 (Option.bind (Option.bind (o2 (some p_tile) (atS? ("ABCDEFGHIJKLMNOPQRSTUVWXYZ" : Str) p_number) fun x y => some ((decide (x = y)))) fun a => if a = true then some true else (o2 (some p_tile) (atS? ("abcdefghijklmnopqrstuvwxyz" : Str) p_number) fun x y => some ((decide (x = y))))) fun b => if b = true then
 (Option.bind (some (some p_number)) fun x => some (.rt x))
 else
 some (.nx ()))
def m_station_of (a_tile : Str) : Option (Option Int) :=
 (Option.bind (Option.bind (plenS ("ABCDEFGHIJKLMNOPQRSTUVWXYZ" : Str)) fun n => prange1 n) fun xs => Option.bind (forF (fun x (s : Unit) => m_station_of_b1 a_tile x) xs ()) fun f => match f with
 | .nx s19 =>
 (some (none : (Option Int)))
 | .bk _ => none
 | .rt r => some r)
abbrev s_station_of : Stmt := top 10
theorem sc_station_of : FnScope ["tile", "number"] ["tile"] (defScope s_station_of) := ⟨rfl, rfl, rfl, by decide +kernel, rfl, by decide +kernel, by decide +kernel⟩
abbrev sp_station_of (K : Fg) : Sp := spP K (fun t : Str × Unit => m_station_of t.1)
set_option maxHeartbeats 0 in
theorem ok_station_of {f : Addr} {fd : FuncData} (F : FunD K "station_of" "station_of" (defArgs s_station_of) (defBody s_station_of) (defScope s_station_of) [] [] f fd) (T : Tx K mg)  : FnOk P w K mg base CX0 1 f fd ["tile"] (sp_station_of K) := by
  have sc := sc_station_of
  refine F.ok sc (fun vs H Q E h => ?_) (fun cdv A outer s H vs Q E hr h => ?_)
  · obtain ⟨Bs, t, r, ex, ⟨u0, _, rfl, hu0, hz⟩, hm, hQ⟩ := h
    cases hz
    rfl
  · obtain ⟨Bs, ⟨a_tile, ⟨⟩⟩, r, ex, ⟨u0, _, rfl, hu0, hz⟩, hm, hQ⟩ := h
    cases hz
    replace hu0 : rp K Bs u0 a_tile := hu0
    replace hm : m_station_of a_tile = some r := hm
    obtain ⟨Hs, eHs⟩ : ∃ Hs, Hs = H := ⟨_, rfl⟩
    subst eHs
    have N : Now noM Bs Hs oE emp Bs Hs () := nowE ex
    unfold m_station_of at hm
    refine ⟨_, PSs.nox (pss_cons (ps_for PassesOwn.never rfl (pi_range1 rfl T.free_range (pa_cons (pe_callB (call_len_K (K := K) rfl) rfl T.free_len boot_len (pa_cons (pe_gstr rfl T.str_CAPITALS) pa_nil)) pa_nil)) (pg_name (i := 1) sc.nd rfl (.inl rfl)) (pss_one (ps_if (PW.pt (pw_or (pt_cmpR op_eq (pv 0) (pe_ix ix_str (pe_gstr rfl T.str_CAPITALS) (pv 1) (fun _ _ => rfl)) (nomark _)) (pw_or1 (pt_cmpR op_eq (pv 0) (pe_ix ix_str (pe_gstr rfl T.str_SMALL_LETTERS) (pv 1) (fun _ _ => rfl)) (nomark _))))) (pss_one (ps_ret (pv 1))) pss_nil))) (pss_one (ps_ret pe_non))), ?_⟩
    refine sq ?_
    refine st_forF_r1 (K := K) (fun Be (s : Unit) B σ H => ∃ (W : Hp) (o1 : Option V), Now noM Bs Hs oE W B H () ∧ Ex Bs B ∧ Ex Be B ∧ σ = [some u0, o1]) hm N.ex (ca_cons (cp_cb0 rc_lenS (ca_cons0 cp_str ca_nil0)) ca_nil) (by first | rfl | simp only [o2, Option.bind_assoc, Option.bind_some]) (fun Be H1 g => ⟨_, _, N.pure g, g.b, Ex.refl _, rfl⟩) ?_ ?_
    · rintro Be x1 s2 B4 σ H5 v6 c7 N8 ⟨W3, _, N, eb13, ee14, rfl⟩ hv9 hm hn10 hk11 ht12
      unfold m_station_of_b1 at hm
      replace hu0 := Rp.mono eb13 hu0
      refine gnm ?_
      refine st_if hm N.ex (ct_or (ct_test (cp_op r2_eq (cp_var rfl hu0) (cp_op r2_ixS cp_str (cp_var rfl hv9)))) (ct_test (cp_op r2_eq (cp_var rfl hu0) (cp_op r2_ixS cp_str (cp_var rfl hv9))))) (by first | rfl | simp only [o2, Option.bind_assoc, Option.bind_some]) (fun B15 H16 hc18 hm g17 => ?_) (fun B15 H16 hc18 hm g17 => ?_)
      · replace N := N.pure g17
        replace eb13 := eb13.trans g17.b
        replace ee14 := ee14.trans g17.b
        replace hu0 := Rp.mono g17.b hu0
        replace hv9 := Rp.mono g17.b hv9
        refine st_retF (K := K) (m' := (some (some x1))) hm N.ex (Cp.opt (cp_var rfl hv9)) rfl fun x v B1 H1 hm g hv => ?_
        cases hm
        have hm := ht12 _ rfl
        cases hm
        exact hQ _ _ _ (N.g.then g) hv
      · replace N := N.pure g17
        replace eb13 := eb13.trans g17.b
        replace ee14 := ee14.trans g17.b
        replace hu0 := Rp.mono g17.b hu0
        replace hv9 := Rp.mono g17.b hv9
        refine nxt ?_
        cases hm
        exact hn10 _ _ _ _ rfl ⟨_, _, N, eb13, ee14, rfl⟩
    · rintro Be s19 B21 σ H22 hm ⟨W20, _, N, eb23, _, rfl⟩
      replace hu0 := Rp.mono eb23 hu0
      refine gnx ?_
      refine st_ret (K := K) hm N.ex (cp_nonO (α := Int)) rfl fun v B1 H1 g hv => ?_
      exact hQ v B1 H1 (N.g.then g) hv
def m_is_tile (a_sign : Str) : Option Bool :=
 (Option.bind (some (inT3 a_sign (T3.mk ("#" : Str) ("." : Str) ("+" : Str)))) fun a => if a = true then some true else (Option.bind (m_station_of a_sign) fun x => some (x.isSome)))
abbrev s_is_tile : Stmt := top 11
theorem sc_is_tile : FnScope ["sign"] ["sign"] (defScope s_is_tile) := ⟨rfl, rfl, rfl, by decide +kernel, rfl, by decide +kernel, by decide +kernel⟩
abbrev sp_is_tile (K : Fg) : Sp := spP K (fun t : Str × Unit => m_is_tile t.1)
set_option maxHeartbeats 0 in
theorem ok_is_tile {f : Addr} {fd : FuncData} (F : FunD K "is_tile" "is_tile" (defArgs s_is_tile) (defBody s_is_tile) (defScope s_is_tile) [] [] f fd) (T : Tx K mg) (c_station_of : Fc P w K mg base 1 "station_of" ["tile"] (sp_station_of K)) : FnOk P w K mg base CX0 2 f fd ["sign"] (sp_is_tile K) := by
  have sc := sc_is_tile
  refine F.ok sc (fun vs H Q E h => ?_) (fun cdv A outer s H vs Q E hr h => ?_)
  · obtain ⟨Bs, t, r, ex, ⟨u0, _, rfl, hu0, hz⟩, hm, hQ⟩ := h
    cases hz
    rfl
  · obtain ⟨Bs, ⟨a_sign, ⟨⟩⟩, r, ex, ⟨u0, _, rfl, hu0, hz⟩, hm, hQ⟩ := h
    cases hz
    replace hu0 : rp K Bs u0 a_sign := hu0
    replace hm : m_is_tile a_sign = some r := hm
    obtain ⟨Hs, eHs⟩ : ∃ Hs, Hs = H := ⟨_, rfl⟩
    subst eHs
    have N : Now noM Bs Hs oE emp Bs Hs () := nowE ex
    unfold m_is_tile at hm
    refine ⟨_, PSs.nox (pss_one (ps_ret (pe_or (pe_cmpR (op_inT hr.units) (pv 0) (pe_tup (pa_cons pe_str (pa_cons pe_str (pa_cons pe_str pa_nil)))) rfl) (pe_one (pe_cmp (pc_notN (pe_fc c_station_of hr (by decide) rfl (pa_cons (pv 0) pa_nil)))))))), ?_⟩
    refine st_ret (K := K) hm N.ex (cp_orV (cp_op r2_inT3 (cp_var rfl hu0) (cp_tup3 (ca_cons cp_str (ca_cons cp_str (ca_cons cp_str ca_nil))))) (cp_notN (cp_call0 (ca_cons0 (cp_var rfl hu0) ca_nil0)))) (by first | rfl | simp only [o2, Option.bind_assoc, Option.bind_some]) fun v B1 H1 g hv => ?_
    exact hQ v B1 H1 (N.g.then g) hv
def m_is_cell (a_tile : Str) : Option Bool :=
 (some ((!decide (a_tile = ("#" : Str)))))
abbrev s_is_cell : Stmt := top 12
theorem sc_is_cell : FnScope ["tile"] ["tile"] (defScope s_is_cell) := ⟨rfl, rfl, rfl, by decide +kernel, rfl, by decide +kernel, by decide +kernel⟩
abbrev sp_is_cell (K : Fg) : Sp := spP K (fun t : Str × Unit => m_is_cell t.1)
set_option maxHeartbeats 0 in
theorem ok_is_cell {f : Addr} {fd : FuncData} (F : FunD K "is_cell" "is_cell" (defArgs s_is_cell) (defBody s_is_cell) (defScope s_is_cell) [] [] f fd) (T : Tx K mg)  : FnOk P w K mg base CX0 1 f fd ["tile"] (sp_is_cell K) := by
  have sc := sc_is_cell
  refine F.ok sc (fun vs H Q E h => ?_) (fun cdv A outer s H vs Q E hr h => ?_)
  · obtain ⟨Bs, t, r, ex, ⟨u0, _, rfl, hu0, hz⟩, hm, hQ⟩ := h
    cases hz
    rfl
  · obtain ⟨Bs, ⟨a_tile, ⟨⟩⟩, r, ex, ⟨u0, _, rfl, hu0, hz⟩, hm, hQ⟩ := h
    cases hz
    replace hu0 : rp K Bs u0 a_tile := hu0
    replace hm : m_is_cell a_tile = some r := hm
    obtain ⟨Hs, eHs⟩ : ∃ Hs, Hs = H := ⟨_, rfl⟩
    subst eHs
    have N : Now noM Bs Hs oE emp Bs Hs () := nowE ex
    unfold m_is_cell at hm
    refine ⟨_, PSs.nox (pss_one (ps_ret (pe_cmpR op_ne (pv 0) pe_str (nomark _)))), ?_⟩
    refine st_ret (K := K) hm N.ex (cp_op r2_ne (cp_var rfl hu0) cp_str) rfl fun v B1 H1 g hv => ?_
    exact hQ v B1 H1 (N.g.then g) hv
def m_is_door (a_tile : Str) : Option Bool :=
 (Option.bind (some ((decide (a_tile = ("+" : Str))))) fun a => if a = true then some true else (inS a_tile ("abcdefghijklmnopqrstuvwxyz" : Str)))
abbrev s_is_door : Stmt := top 13
theorem sc_is_door : FnScope ["tile"] ["tile"] (defScope s_is_door) := ⟨rfl, rfl, rfl, by decide +kernel, rfl, by decide +kernel, by decide +kernel⟩
abbrev sp_is_door (K : Fg) : Sp := spP K (fun t : Str × Unit => m_is_door t.1)
set_option maxHeartbeats 0 in
theorem ok_is_door {f : Addr} {fd : FuncData} (F : FunD K "is_door" "is_door" (defArgs s_is_door) (defBody s_is_door) (defScope s_is_door) [] [] f fd) (T : Tx K mg)  : FnOk P w K mg base CX0 1 f fd ["tile"] (sp_is_door K) := by
  have sc := sc_is_door
  refine F.ok sc (fun vs H Q E h => ?_) (fun cdv A outer s H vs Q E hr h => ?_)
  · obtain ⟨Bs, t, r, ex, ⟨u0, _, rfl, hu0, hz⟩, hm, hQ⟩ := h
    cases hz
    rfl
  · obtain ⟨Bs, ⟨a_tile, ⟨⟩⟩, r, ex, ⟨u0, _, rfl, hu0, hz⟩, hm, hQ⟩ := h
    cases hz
    replace hu0 : rp K Bs u0 a_tile := hu0
    replace hm : m_is_door a_tile = some r := hm
    obtain ⟨Hs, eHs⟩ : ∃ Hs, Hs = H := ⟨_, rfl⟩
    subst eHs
    have N : Now noM Bs Hs oE emp Bs Hs () := nowE ex
    unfold m_is_door at hm
    refine ⟨_, PSs.nox (pss_one (ps_ret (pe_or (pe_cmpR op_eq (pv 0) pe_str (nomark _)) (pe_one (pe_cmpR op_inS (pv 0) (pe_gstr rfl T.str_SMALL_LETTERS) rfl))))), ?_⟩
    refine st_ret (K := K) hm N.ex (cp_orV (cp_op r2_eq (cp_var rfl hu0) cp_str) (cp_op r2_inS (cp_var rfl hu0) cp_str)) (by first | rfl | simp only [o2, Option.bind_assoc, Option.bind_some]) fun v B1 H1 g hv => ?_
    exact hQ v B1 H1 (N.g.then g) hv
def m_row_problem (a_rows : (List Str)) (a_row : Str) : Option Str :=
 (Option.bind (Option.bind (some ((decide (a_row = ("" : Str))))) fun a => if a = true then some true else (Option.bind (some (!(!a_rows.isEmpty))) fun a => if a = true then some true else (o2 (plenS a_row) (Option.bind (o2 (at? a_rows (0 : Int)) (some ()) fun x y => some (x, y)) fun t => plenS t.1) fun x y => some ((decide (x = y)))))) fun b => if b = true then
 (some ("" : Str))
 else
 (Option.bind (o2 (some ("row has " : Str)) (o2 (Option.bind (plenS a_row) preprI) (o2 (some (" tiles, expected " : Str)) (o2 (Option.bind (Option.bind (o2 (at? a_rows (0 : Int)) (some ()) fun x y => some (x, y)) fun t => plenS t.1) preprI) (some []) fun x y => some (x :: y)) fun x y => some (x :: y)) fun x y => some (x :: y)) fun x y => some (x :: y)) (pjs Str.empty)))
abbrev s_row_problem : Stmt := top 14
theorem sc_row_problem : FnScope ["rows", "row"] ["rows", "row"] (defScope s_row_problem) := ⟨rfl, rfl, rfl, by decide +kernel, rfl, by decide +kernel, by decide +kernel⟩
abbrev sp_row_problem (K : Fg) : Sp := spP K (fun t : (List Str) × Str × Unit => m_row_problem t.1 t.2.1)
set_option maxHeartbeats 0 in
theorem ok_row_problem {f : Addr} {fd : FuncData} (F : FunD K "row_problem" "row_problem" (defArgs s_row_problem) (defBody s_row_problem) (defScope s_row_problem) [] [] f fd) (T : Tx K mg)  : FnOk P w K mg base CX0 1 f fd ["rows", "row"] (sp_row_problem K) := by
  have sc := sc_row_problem
  refine F.ok sc (fun vs H Q E h => ?_) (fun cdv A outer s H vs Q E hr h => ?_)
  · obtain ⟨Bs, t, r, ex, ⟨u0, _, rfl, hu0, ⟨u1, _, rfl, hu1, hz⟩⟩, hm, hQ⟩ := h
    cases hz
    rfl
  · obtain ⟨Bs, ⟨a_rows, a_row, ⟨⟩⟩, r, ex, ⟨u0, _, rfl, hu0, ⟨u1, _, rfl, hu1, hz⟩⟩, hm, hQ⟩ := h
    cases hz
    replace hu0 : rp K Bs u0 a_rows := hu0
    replace hu1 : rp K Bs u1 a_row := hu1
    replace hm : m_row_problem a_rows a_row = some r := hm
    obtain ⟨Hs, eHs⟩ : ∃ Hs, Hs = H := ⟨_, rfl⟩
    subst eHs
    have N : Now noM Bs Hs oE emp Bs Hs () := nowE ex
    unfold m_row_problem at hm
    refine ⟨_, PSs.nox (pss_cons (ps_if (PW.pt (pw_or (pt_cmpR op_eq (pv 1) pe_str (nomark _)) (pw_or (pt_not (pt_truthK (K := K) rfl (pv 0) (fun _ => rfl))) (pw_or1 (pt_cmpR op_eq (pe_callB (call_len_K (K := K) rfl) rfl T.free_len boot_len (pa_cons (pv 1) pa_nil)) (pe_callB (call_len_K (K := K) rfl) rfl T.free_len boot_len (pa_cons (pe_ix (ix_listK (K := K) rfl) (pv 0) pe_int (fun _ _ => rfl)) pa_nil)) (nomark _)))))) (pss_one (ps_ret pe_str)) pss_nil) (pss_one (ps_ret (pe_joined (PJ.cons pe_str (PJ.cons (pe_fmt (pe_callB (call_len_K (K := K) rfl) rfl T.free_len boot_len (pa_cons (pv 1) pa_nil))) (PJ.cons pe_str (PJ.cons (pe_fmt (pe_callB (call_len_K (K := K) rfl) rfl T.free_len boot_len (pa_cons (pe_ix (ix_listK (K := K) rfl) (pv 0) pe_int (fun _ _ => rfl)) pa_nil))) PJ.nil)))))))), ?_⟩
    refine sq ?_
    refine st_if hm N.ex (ct_or (ct_test (cp_op r2_eq (cp_var rfl hu1) cp_str)) (ct_or (ct_not (ct_truL (cp_var rfl hu0))) (ct_test (cp_op r2_eq (cp_cb0 rc_lenS (ca_cons0 (cp_var rfl hu1) ca_nil0)) (cp_cb rc_lenS (ca_cons (cp_op r2_ixL (cp_var rfl hu0) cp_int) ca_nil)))))) (by first | rfl | simp only [o2, Option.bind_assoc, Option.bind_some]) (fun B1 H2 hc4 hm g3 => ?_) (fun B1 H2 hc4 hm g3 => ?_)
    · replace N := N.pure g3
      replace hu0 := Rp.mono g3.b hu0
      replace hu1 := Rp.mono g3.b hu1
      refine st_ret (K := K) hm N.ex cp_str rfl fun v B1 H1 g hv => ?_
      exact hQ v B1 H1 (N.g.then g) hv
    · replace N := N.pure g3
      replace hu0 := Rp.mono g3.b hu0
      replace hu1 := Rp.mono g3.b hu1
      refine nxt ?_
      refine gnx ?_
      refine st_ret (K := K) hm N.ex (cp_joined (Jp.cons cp_str (Jp.cons (cp_fmtI (cp_cb0 rc_lenS (ca_cons0 (cp_var rfl hu1) ca_nil0))) (Jp.cons cp_str (Jp.cons (cp_fmtI (cp_cb rc_lenS (ca_cons (cp_op r2_ixL (cp_var rfl hu0) cp_int) ca_nil))) Jp.nil))))) (by first | rfl | simp only [o2, Option.bind_assoc, Option.bind_some]) fun v B1 H1 g hv => ?_
      exact hQ v B1 H1 (N.g.then g) hv
def m_tile_problem (a_rows : (List Str)) (a_row : Str) (a_sign : Str) (a_cells : Int) : Option Str :=
 (Option.bind (Option.bind (m_is_tile a_sign) fun x => some (!x)) fun b => if b = true then
 (some ("unexpected character" : Str))
 else
 (Option.bind (some ((decide (((a_rows.length : Int)) ≥ (16 : Int))))) fun b => if b = true then
 (Option.bind (o2 (some ("more than " : Str)) (o2 (Option.bind (some (16 : Int)) preprI) (o2 (some (" rows" : Str)) (some []) fun x y => some (x :: y)) fun x y => some (x :: y)) fun x y => some (x :: y)) (pjs Str.empty))
 else
 (Option.bind (Option.bind (some (!a_rows.isEmpty)) fun a => if a = true then (o2 (plenS a_row) (Option.bind (o2 (at? a_rows (0 : Int)) (some ()) fun x y => some (x, y)) fun t => plenS t.1) fun x y => some ((decide (x ≥ y)))) else some false) fun b => if b = true then
 (Option.bind (o2 (some ("row is longer than " : Str)) (o2 (Option.bind (Option.bind (o2 (at? a_rows (0 : Int)) (some ()) fun x y => some (x, y)) fun t => plenS t.1) preprI) (some []) fun x y => some (x :: y)) fun x y => some (x :: y)) (pjs Str.empty))
 else
 (Option.bind (o2 (plenS a_row) (some (16 : Int)) fun x y => some ((decide (x ≥ y)))) fun b => if b = true then
 (Option.bind (o2 (some ("more than " : Str)) (o2 (Option.bind (some (16 : Int)) preprI) (o2 (some (" columns" : Str)) (some []) fun x y => some (x :: y)) fun x y => some (x :: y)) fun x y => some (x :: y)) (pjs Str.empty))
 else
 (Option.bind (m_station_of a_sign) fun station17 =>
 (Option.bind (Option.bind (some (station17.isSome)) fun a => if a = true then (o2 station17 (some (8 : Int)) fun x y => some ((decide (x ≥ y)))) else some false) fun b => if b = true then
 (Option.bind (o2 (some ("more than " : Str)) (o2 (Option.bind (some (8 : Int)) preprI) (o2 (some (" stations" : Str)) (some []) fun x y => some (x :: y)) fun x y => some (x :: y)) fun x y => some (x :: y)) (pjs Str.empty))
 else
 (Option.bind (Option.bind (m_is_cell a_sign) fun a => if a = true then (some ((decide (a_cells ≥ (120 : Int))))) else some false) fun b => if b = true then
 (Option.bind (o2 (some ("more than " : Str)) (o2 (Option.bind (some (120 : Int)) preprI) (o2 (some (" cells" : Str)) (some []) fun x y => some (x :: y)) fun x y => some (x :: y)) fun x y => some (x :: y)) (pjs Str.empty))
 else
 (some ("" : Str)))))))))
abbrev s_tile_problem : Stmt := top 15
theorem sc_tile_problem : FnScope ["rows", "row", "sign", "cells", "station"] ["rows", "row", "sign", "cells"] (defScope s_tile_problem) := ⟨rfl, rfl, rfl, by decide +kernel, rfl, by decide +kernel, by decide +kernel⟩
abbrev sp_tile_problem (K : Fg) : Sp := spP K (fun t : (List Str) × Str × Str × Int × Unit => m_tile_problem t.1 t.2.1 t.2.2.1 t.2.2.2.1)
set_option maxHeartbeats 0 in
theorem ok_tile_problem {f : Addr} {fd : FuncData} (F : FunD K "tile_problem" "tile_problem" (defArgs s_tile_problem) (defBody s_tile_problem) (defScope s_tile_problem) [] [] f fd) (T : Tx K mg) (c_is_cell : Fc P w K mg base 1 "is_cell" ["tile"] (sp_is_cell K)) (c_is_tile : Fc P w K mg base 2 "is_tile" ["sign"] (sp_is_tile K)) (c_station_of : Fc P w K mg base 1 "station_of" ["tile"] (sp_station_of K)) : FnOk P w K mg base CX0 3 f fd ["rows", "row", "sign", "cells"] (sp_tile_problem K) := by
  have sc := sc_tile_problem
  refine F.ok sc (fun vs H Q E h => ?_) (fun cdv A outer s H vs Q E hr h => ?_)
  · obtain ⟨Bs, t, r, ex, ⟨u0, _, rfl, hu0, ⟨u1, _, rfl, hu1, ⟨u2, _, rfl, hu2, ⟨u3, _, rfl, hu3, hz⟩⟩⟩⟩, hm, hQ⟩ := h
    cases hz
    rfl
  · obtain ⟨Bs, ⟨a_rows, a_row, a_sign, a_cells, ⟨⟩⟩, r, ex, ⟨u0, _, rfl, hu0, ⟨u1, _, rfl, hu1, ⟨u2, _, rfl, hu2, ⟨u3, _, rfl, hu3, hz⟩⟩⟩⟩, hm, hQ⟩ := h
    cases hz
    replace hu0 : rp K Bs u0 a_rows := hu0
    replace hu1 : rp K Bs u1 a_row := hu1
    replace hu2 : rp K Bs u2 a_sign := hu2
    replace hu3 : rp K Bs u3 a_cells := hu3
    replace hm : m_tile_problem a_rows a_row a_sign a_cells = some r := hm
    obtain ⟨Hs, eHs⟩ : ∃ Hs, Hs = H := ⟨_, rfl⟩
    subst eHs
    have N : Now noM Bs Hs oE emp Bs Hs () := nowE ex
    unfold m_tile_problem at hm
    refine ⟨_, PSs.nox (pss_cons (ps_if (pt_not (pt_val (pe_fc c_is_tile hr (by decide) rfl (pa_cons (pv 2) pa_nil)))) (pss_one (ps_ret pe_str)) pss_nil) (pss_cons (ps_if (pt_cmpR op_ge (pe_callB (call_len_K (K := K) rfl) rfl T.free_len boot_len (pa_cons (pv 0) pa_nil)) (pe_gint rfl T.int_ROW_LIMIT) (nomark _)) (pss_one (ps_ret (pe_joined (PJ.cons pe_str (PJ.cons (pe_fmt (pe_gint rfl T.int_ROW_LIMIT)) (PJ.cons pe_str PJ.nil)))))) pss_nil) (pss_cons (ps_if (PW.pt (pw_and (pt_truthK (K := K) rfl (pv 0) (fun _ => rfl)) (pw_and1 (pt_cmpR op_ge (pe_callB (call_len_K (K := K) rfl) rfl T.free_len boot_len (pa_cons (pv 1) pa_nil)) (pe_callB (call_len_K (K := K) rfl) rfl T.free_len boot_len (pa_cons (pe_ix (ix_listK (K := K) rfl) (pv 0) pe_int (fun _ _ => rfl)) pa_nil)) (nomark _))))) (pss_one (ps_ret (pe_joined (PJ.cons pe_str (PJ.cons (pe_fmt (pe_callB (call_len_K (K := K) rfl) rfl T.free_len boot_len (pa_cons (pe_ix (ix_listK (K := K) rfl) (pv 0) pe_int (fun _ _ => rfl)) pa_nil))) PJ.nil))))) pss_nil) (pss_cons (ps_if (pt_cmpR op_ge (pe_callB (call_len_K (K := K) rfl) rfl T.free_len boot_len (pa_cons (pv 1) pa_nil)) (pe_gint rfl T.int_COLUMN_LIMIT) (nomark _)) (pss_one (ps_ret (pe_joined (PJ.cons pe_str (PJ.cons (pe_fmt (pe_gint rfl T.int_COLUMN_LIMIT)) (PJ.cons pe_str PJ.nil)))))) pss_nil) (pss_cons (ps_set (i := 4) sc.nd rfl (.inl rfl) (pe_fc c_station_of hr (by decide) rfl (pa_cons (pv 2) pa_nil))) (pss_cons (ps_if (PW.pt (pw_and (pt_cmp (pc_notN (pv 4))) (pw_and1 (pt_cmpR op_ge (pv 4) (pe_gint rfl T.int_STATION_LIMIT) (nomark _))))) (pss_one (ps_ret (pe_joined (PJ.cons pe_str (PJ.cons (pe_fmt (pe_gint rfl T.int_STATION_LIMIT)) (PJ.cons pe_str PJ.nil)))))) pss_nil) (pss_cons (ps_if (PW.pt (pw_and (pt_val (pe_fc c_is_cell hr (by decide) rfl (pa_cons (pv 2) pa_nil))) (pw_and1 (pt_cmpR op_ge (pv 3) (pe_gint rfl T.int_CELL_LIMIT) (nomark _))))) (pss_one (ps_ret (pe_joined (PJ.cons pe_str (PJ.cons (pe_fmt (pe_gint rfl T.int_CELL_LIMIT)) (PJ.cons pe_str PJ.nil)))))) pss_nil) (pss_one (ps_ret pe_str))))))))), ?_⟩
    refine sq ?_
    refine st_if hm N.ex (ct_not (ct_B (cp_call0 (ca_cons0 (cp_var rfl hu2) ca_nil0)))) (by first | rfl | simp only [o2, Option.bind_assoc, Option.bind_some]) (fun B1 H2 hc4 hm g3 => ?_) (fun B1 H2 hc4 hm g3 => ?_)
    · replace N := N.pure g3
      replace hu0 := Rp.mono g3.b hu0
      replace hu1 := Rp.mono g3.b hu1
      replace hu2 := Rp.mono g3.b hu2
      replace hu3 := Rp.mono g3.b hu3
      refine st_ret (K := K) hm N.ex cp_str rfl fun v B1 H1 g hv => ?_
      exact hQ v B1 H1 (N.g.then g) hv
    · replace N := N.pure g3
      replace hu0 := Rp.mono g3.b hu0
      replace hu1 := Rp.mono g3.b hu1
      replace hu2 := Rp.mono g3.b hu2
      replace hu3 := Rp.mono g3.b hu3
      refine nxt ?_
      refine gnx ?_
      refine sq ?_
      refine st_if hm N.ex (ct_test (cp_op r2_ge (cp_cb rc_lenL (ca_cons (cp_var rfl hu0) ca_nil)) cp_int)) rfl (fun B5 H6 hc8 hm g7 => ?_) (fun B5 H6 hc8 hm g7 => ?_)
      · replace N := N.pure g7
        replace hu0 := Rp.mono g7.b hu0
        replace hu1 := Rp.mono g7.b hu1
        replace hu2 := Rp.mono g7.b hu2
        replace hu3 := Rp.mono g7.b hu3
        refine st_ret (K := K) hm N.ex (cp_joined (Jp.cons cp_str (Jp.cons (cp_fmtI cp_int) (Jp.cons cp_str Jp.nil)))) (by first | rfl | simp only [o2, Option.bind_assoc, Option.bind_some]) fun v B1 H1 g hv => ?_
        exact hQ v B1 H1 (N.g.then g) hv
      · replace N := N.pure g7
        replace hu0 := Rp.mono g7.b hu0
        replace hu1 := Rp.mono g7.b hu1
        replace hu2 := Rp.mono g7.b hu2
        replace hu3 := Rp.mono g7.b hu3
        refine nxt ?_
        refine gnx ?_
        refine sq ?_
        refine st_if hm N.ex (ct_and (ct_truL (cp_var rfl hu0)) (ct_test (cp_op r2_ge (cp_cb0 rc_lenS (ca_cons0 (cp_var rfl hu1) ca_nil0)) (cp_cb rc_lenS (ca_cons (cp_op r2_ixL (cp_var rfl hu0) cp_int) ca_nil))))) (by first | rfl | simp only [o2, Option.bind_assoc, Option.bind_some]) (fun B9 H10 hc12 hm g11 => ?_) (fun B9 H10 hc12 hm g11 => ?_)
        · replace N := N.pure g11
          replace hu0 := Rp.mono g11.b hu0
          replace hu1 := Rp.mono g11.b hu1
          replace hu2 := Rp.mono g11.b hu2
          replace hu3 := Rp.mono g11.b hu3
          refine st_ret (K := K) hm N.ex (cp_joined (Jp.cons cp_str (Jp.cons (cp_fmtI (cp_cb rc_lenS (ca_cons (cp_op r2_ixL (cp_var rfl hu0) cp_int) ca_nil))) Jp.nil))) (by first | rfl | simp only [o2, Option.bind_assoc, Option.bind_some]) fun v B1 H1 g hv => ?_
          exact hQ v B1 H1 (N.g.then g) hv
        · replace N := N.pure g11
          replace hu0 := Rp.mono g11.b hu0
          replace hu1 := Rp.mono g11.b hu1
          replace hu2 := Rp.mono g11.b hu2
          replace hu3 := Rp.mono g11.b hu3
          refine nxt ?_
          refine gnx ?_
          refine sq ?_
          refine st_if hm N.ex (ct_test (cp_op r2_ge (cp_cb0 rc_lenS (ca_cons0 (cp_var rfl hu1) ca_nil0)) cp_int)) (by first | rfl | simp only [o2, Option.bind_assoc, Option.bind_some]) (fun B13 H14 hc16 hm g15 => ?_) (fun B13 H14 hc16 hm g15 => ?_)
          · replace N := N.pure g15
            replace hu0 := Rp.mono g15.b hu0
            replace hu1 := Rp.mono g15.b hu1
            replace hu2 := Rp.mono g15.b hu2
            replace hu3 := Rp.mono g15.b hu3
            refine st_ret (K := K) hm N.ex (cp_joined (Jp.cons cp_str (Jp.cons (cp_fmtI cp_int) (Jp.cons cp_str Jp.nil)))) (by first | rfl | simp only [o2, Option.bind_assoc, Option.bind_some]) fun v B1 H1 g hv => ?_
            exact hQ v B1 H1 (N.g.then g) hv
          · replace N := N.pure g15
            replace hu0 := Rp.mono g15.b hu0
            replace hu1 := Rp.mono g15.b hu1
            replace hu2 := Rp.mono g15.b hu2
            replace hu3 := Rp.mono g15.b hu3
            refine nxt ?_
            refine gnx ?_
            refine sq ?_
            refine st_asg (K := K) hm N.ex (cp_call0 (ca_cons0 (cp_var rfl hu2) ca_nil0)) (by first | rfl | simp only [o2, Option.bind_assoc, Option.bind_some]) fun station17 v18 B19 H20 _ hm g21 h22 => ?_
            replace N := N.pure g21
            replace hu0 := Rp.mono g21.b hu0
            replace hu1 := Rp.mono g21.b hu1
            replace hu2 := Rp.mono g21.b hu2
            replace hu3 := Rp.mono g21.b hu3
            refine gnx ?_
            refine sq ?_
            refine st_if hm N.ex (ct_and (ct_B (cp_notN (cp_var rfl h22))) (ct_test (cp_op r2_ge (Cp.got (cp_var rfl h22)) cp_int))) (by first | rfl | simp only [o2, Option.bind_assoc, Option.bind_some]) (fun B23 H24 hc26 hm g25 => ?_) (fun B23 H24 hc26 hm g25 => ?_)
            · replace N := N.pure g25
              replace hu0 := Rp.mono g25.b hu0
              replace hu1 := Rp.mono g25.b hu1
              replace hu2 := Rp.mono g25.b hu2
              replace hu3 := Rp.mono g25.b hu3
              replace h22 := Rp.mono g25.b h22
              refine st_ret (K := K) hm N.ex (cp_joined (Jp.cons cp_str (Jp.cons (cp_fmtI cp_int) (Jp.cons cp_str Jp.nil)))) (by first | rfl | simp only [o2, Option.bind_assoc, Option.bind_some]) fun v B1 H1 g hv => ?_
              exact hQ v B1 H1 (N.g.then g) hv
            · replace N := N.pure g25
              replace hu0 := Rp.mono g25.b hu0
              replace hu1 := Rp.mono g25.b hu1
              replace hu2 := Rp.mono g25.b hu2
              replace hu3 := Rp.mono g25.b hu3
              replace h22 := Rp.mono g25.b h22
              refine nxt ?_
              refine gnx ?_
              refine sq ?_
              refine st_if hm N.ex (ct_and (ct_B (cp_call0 (ca_cons0 (cp_var rfl hu2) ca_nil0))) (ct_test (cp_op r2_ge (cp_var rfl hu3) cp_int))) (by first | rfl | simp only [o2, Option.bind_assoc, Option.bind_some]) (fun B27 H28 hc30 hm g29 => ?_) (fun B27 H28 hc30 hm g29 => ?_)
              · replace N := N.pure g29
                replace hu0 := Rp.mono g29.b hu0
                replace hu1 := Rp.mono g29.b hu1
                replace hu2 := Rp.mono g29.b hu2
                replace hu3 := Rp.mono g29.b hu3
                replace h22 := Rp.mono g29.b h22
                refine st_ret (K := K) hm N.ex (cp_joined (Jp.cons cp_str (Jp.cons (cp_fmtI cp_int) (Jp.cons cp_str Jp.nil)))) (by first | rfl | simp only [o2, Option.bind_assoc, Option.bind_some]) fun v B1 H1 g hv => ?_
                exact hQ v B1 H1 (N.g.then g) hv
              · replace N := N.pure g29
                replace hu0 := Rp.mono g29.b hu0
                replace hu1 := Rp.mono g29.b hu1
                replace hu2 := Rp.mono g29.b hu2
                replace hu3 := Rp.mono g29.b hu3
                replace h22 := Rp.mono g29.b h22
                refine nxt ?_
                refine gnx ?_
                refine st_ret (K := K) hm N.ex cp_str rfl fun v B1 H1 g hv => ?_
                exact hQ v B1 H1 (N.g.then g) hv
def m_whole_problem_b4 (p_rows : (List Str)) (p_tiles : Str) (p_numbers : (List Int)) (p_number : Int) (p_st : Unit) : Option (Fl (Unit) (Str)) :=
 (Option.bind (some ((!decide (p_number ∈ p_numbers)))) fun b => if b = true then
 (Option.bind (Option.bind (o2 (some ("station " : Str)) (o2 (Option.bind (atS? ("ABCDEFGHIJKLMNOPQRSTUVWXYZ" : Str) p_number) pfmtS) (o2 (some (" is missing" : Str)) (some []) fun x y => some (x :: y)) fun x y => some (x :: y)) fun x y => some (x :: y)) (pjs Str.empty)) fun x => some (.rt x))
 else
 some (.nx (p_st)))
def m_whole_problem_b3 (p_rows : (List Str)) (p_tiles : Str) (p_numbers : (List Int)) (p_number : Int) (p_st : Unit) : Option (Fl (Unit) (Str)) :=
 (Option.bind (some ((!decide (p_number ∈ p_numbers)))) fun b => if b = true then
 (Option.bind (Option.bind (o2 (some ("station " : Str)) (o2 (Option.bind (atS? ("ABCDEFGHIJKLMNOPQRSTUVWXYZ" : Str) p_number) pfmtS) (o2 (some (" is missing" : Str)) (some []) fun x y => some (x :: y)) fun x y => some (x :: y)) fun x y => some (x :: y)) (pjs Str.empty)) fun x => some (.rt x))
 else
 some (.nx (p_st)))
def m_whole_problem_b2 (p_rows : (List Str)) (p_tiles : Str) (p_numbers : (List Int)) (p_number : Int) (p_st : Unit) : Option (Fl (Unit) (Str)) :=
 (Option.bind (some ((!decide (p_number ∈ p_numbers)))) fun b => if b = true then
 (Option.bind (Option.bind (o2 (some ("station " : Str)) (o2 (Option.bind (atS? ("ABCDEFGHIJKLMNOPQRSTUVWXYZ" : Str) p_number) pfmtS) (o2 (some (" is missing" : Str)) (some []) fun x y => some (x :: y)) fun x y => some (x :: y)) fun x y => some (x :: y)) (pjs Str.empty)) fun x => some (.rt x))
 else
 some (.nx (p_st)))
def m_whole_problem_b1 (p_rows : (List Str)) (p_tiles : Str) (p_numbers : (List Int)) (p_number : Int) (p_st : Unit) : Option (Fl (Unit) (Str)) :=
 (Option.bind (some ((!decide (p_number ∈ p_numbers)))) fun b => if b = true then
 (Option.bind (Option.bind (o2 (some ("station " : Str)) (o2 (Option.bind (atS? ("ABCDEFGHIJKLMNOPQRSTUVWXYZ" : Str) p_number) pfmtS) (o2 (some (" is missing" : Str)) (some []) fun x y => some (x :: y)) fun x y => some (x :: y)) fun x y => some (x :: y)) (pjs Str.empty)) fun x => some (.rt x))
 else
 some (.nx (p_st)))
def m_whole_problem (a_rows : (List Str)) : Option Str :=
 (Option.bind (some (!(!a_rows.isEmpty))) fun b => if b = true then
 (Option.bind (some ("map is empty" : Str)) fun x => some x)
 else
 (Option.bind (o2 (some ("" : Str)) (some a_rows) fun x y => pjoin x y) fun tiles5 =>
 (Option.bind (Option.bind (Option.bind (some (tiles5, ())) fun p11 => some (p11.1.cps.toList.any (fun c => [c] == ("+" : Str).cps.toList || decide (c ∈ ("abcdefghijklmnopqrstuvwxyz" : Str).cps.toList)), p11.2)) fun p => some (!p.1, p.2)) fun b78 => if b78.1 = true then
 (Option.bind (some ("door is missing" : Str)) fun x => some x)
 else
 (Option.bind (Option.bind (some tiles5) fun z => Option.bind (pbig (sgns z)) fun xs => lcF (fun x18_tile => (Option.bind (m_station_of x18_tile) fun x => some (x.isSome))) (fun x18_tile => (Option.bind (m_station_of x18_tile) fun x => x)) xs) fun numbers19 =>
 (Option.bind (Option.bind (o2 (o2 (some numbers19) (some (-(1 : Int))) fun x y => some (pmaxD x y)) (some (1 : Int)) fun x y => some (x + y)) fun n => prange1 n) fun xs => Option.bind (forF (fun x (s : Unit) => m_whole_problem_b1 a_rows tiles5 numbers19 x s) xs (b78.2)) fun f => match f with
 | .nx s43 =>
 (Option.bind (some ("" : Str)) fun x => some x)
 | .bk _ => none
 | .rt r => some r)))))
abbrev s_whole_problem : Stmt := top 16
theorem sc_whole_problem : FnScope ["rows", "tiles", "numbers", "number", "tile"] ["rows"] (defScope s_whole_problem) := ⟨rfl, rfl, rfl, by decide +kernel, rfl, by decide +kernel, by decide +kernel⟩
abbrev sp_whole_problem (K : Fg) : Sp := spT K (He.cT K ("whole_problem", none)).2 (fun t : (List Str) × Unit => m_whole_problem t.1)
set_option maxHeartbeats 0 in
theorem ok_whole_problem {fd : FuncData} (F : FunD K "whole_problem" "whole_problem" (defArgs s_whole_problem) (defBody s_whole_problem) (defScope s_whole_problem) [] [] (He.fAd K ("whole_problem", none)) fd) (T : Tx K mg) (tb : GxR.TabB base mg (He.cT K ("whole_problem", none)).1 (He.cT K ("whole_problem", none)).2) (q_is_door : QuietD P w K mg "is_door" (fun c => [c] == ("+" : Str).cps.toList || decide (c ∈ ("abcdefghijklmnopqrstuvwxyz" : Str).cps.toList))) (c_station_of : Fc P w K mg base 1 "station_of" ["tile"] (sp_station_of K)) : FnOk P w K mg base CX0 2 (He.fAd K ("whole_problem", none)) fd ["rows"] (sp_whole_problem K) := by
  have sc := sc_whole_problem
  refine fnd_okC F sc (fun vs H Q E h => ?_) (fun cdv A outer s H vs Q E hcd hr h => ?_)
  · obtain ⟨W0, Bs, t, r, _, _, _, _, ⟨u0, _, rfl, hu0, hz⟩, _⟩ := h
    cases hz
    rfl
  · obtain ⟨W0, Bs, ⟨a_rows, ⟨⟩⟩, r, ex, wx, dj, ow, ⟨u0, _, rfl, hu0, hz⟩, hm, hQ⟩ := h
    cases hz
    replace hu0 : rp K Bs u0 a_rows := hu0
    replace hm : m_whole_problem a_rows = some r := hm
    obtain ⟨Hs, eHs⟩ : ∃ Hs, Hs = H := ⟨_, rfl⟩
    subst eHs
    have N : Now (dom W0) Bs Hs (OwTab (He.cT K ("whole_problem", none)).2) W0 Bs Hs () := now0 ex wx dj ow
    unfold m_whole_problem at hm
    refine ⟨_, PSs.nox (pss_cons (ps_if (pt_not (pt_truthK (K := K) rfl (pv 0) (fun _ => rfl))) (pss_one (ps_ret pe_str)) pss_nil) (pss_cons (ps_set (i := 1) sc.nd rfl (.inl rfl) (pe_m1 PySem.F.slot_str_join PySem.F.type_str_join (mt_joinK (K := K) rfl) pe_str (pv 0))) (pss_cons (ps_if (pt_not (pt_val (pe_anyD (pb := (fun c => [c] == ("+" : Str).cps.toList || decide (c ∈ ("abcdefghijklmnopqrstuvwxyz" : Str).cps.toList))) hr rfl T.free_any tb hcd (gens_of rfl rfl (by decide +kernel) rfl rfl (by decide +kernel)) (pv 1) (elt_call hr rfl rfl rfl q_is_door) (fun _ => rfl)))) (pss_one (ps_ret pe_str)) pss_nil) (pss_cons (ps_setLc (i := 2) (own := [("tile", 4)]) (g := gName 4) rfl sc.nd rfl rfl (sw_true rfl rfl rfl (by decide +kernel)) (pi_str (pv 1)) (blkOk_by (N := ["rows", "tiles", "numbers", "number", "tile"]) (sc := defScope s_whole_problem) (by decide +kernel)) (fun _ _ _ _ _ => pg_name (i := 4) sc.nd rfl (Or.inl rfl)) (fun _ _ _ _ _ => pts_one (pt_cmp (pc_notN (pe_fc c_station_of hr (by decide) rfl (pa_cons (pv 4) pa_nil))))) (fun _ _ _ _ _ => (pe_fc c_station_of hr (by decide) rfl (pa_cons (pv 4) pa_nil)))) (pss_cons (ps_for PassesOwn.never rfl (pi_range1 rfl T.free_range (pa_cons (pe_op op_add (pe_callBK (call_maxDef hr) rfl T.free_max boot_max (pa_cons (pv 2) pa_nil) (pk_cons (pe_un un_neg pe_int) pk_nil)) pe_int) pa_nil)) (pg_name (i := 3) sc.nd rfl (.inl rfl)) (pss_one (ps_if (pt_cmpR (op_notIn_seqK (K := K) rfl) (pv 3) (pv 2) rfl) (pss_one (ps_ret (pe_joined (PJ.cons pe_str (PJ.cons (pe_fmt (pe_ix ix_str (pe_gstr rfl T.str_CAPITALS) (pv 3) (fun _ _ => rfl))) (PJ.cons pe_str PJ.nil)))))) pss_nil))) (pss_one (ps_ret pe_str))))))), ?_⟩
    refine sq ?_
    refine st_if hm N.ex (ct_not (ct_truL (cp_var rfl hu0))) rfl (fun B1 H2 hc4 hm g3 => ?_) (fun B1 H2 hc4 hm g3 => ?_)
    · replace N := N.pure g3
      replace hu0 := Rp.mono g3.b hu0
      refine st_retF (K := K) (m' := (some ("map is empty" : Str))) hm N.ex cp_str rfl fun x v B1 H1 hm g hv => ?_
      cases hm
      replace N := N.pure g
      exact hQ _ _ _ _ N.sw N.p hv
    · replace N := N.pure g3
      replace hu0 := Rp.mono g3.b hu0
      refine nxt ?_
      refine gnx ?_
      refine sq ?_
      refine st_asg (K := K) hm N.ex (cp_m1 r2_join cp_str (cp_var rfl hu0)) (by first | rfl | simp only [o2, Option.bind_assoc, Option.bind_some]) fun tiles5 v6 B7 H8 _ hm g9 h10 => ?_
      replace N := N.pure g9
      replace hu0 := Rp.mono g9.b hu0
      refine gnx ?_
      refine sq ?_
      refine st_ifS hm N (cst_not (cst_B (cs_any (pb := (fun c => [c] == ("+" : Str).cps.toList || decide (c ∈ ("abcdefghijklmnopqrstuvwxyz" : Str).cps.toList))) ln_id (fun _ _ => rfl) (Cp.s (cp_var rfl h10))))) (by first | rfl | simp only [o2, Option.bind_assoc, Option.bind_some]) (fun s12 W13 B14 H15 hc16 hm N eb17 => ?_) (fun s12 W13 B14 H15 hc16 hm N eb17 => ?_)
      · try dsimp only at hm
        replace hu0 := Rp.mono eb17 hu0
        replace h10 := Rp.mono eb17 h10
        refine st_retF (K := K) (m' := (some ("door is missing" : Str))) hm N.ex cp_str rfl fun x v B1 H1 hm g hv => ?_
        cases hm
        replace N := N.pure g
        exact hQ _ _ _ _ N.sw N.p hv
      · try dsimp only at hm
        replace hu0 := Rp.mono eb17 hu0
        replace h10 := Rp.mono eb17 h10
        refine nxt ?_
        refine gnx ?_
        refine sq ?_
        refine st_asg (K := K) hm N.ex (Co.cp (co_lcT (g := gName 4) (t := fun (x18_tile : Str) => (Option.bind (m_station_of x18_tile) fun x => some (x.isSome))) (f := fun (x18_tile : Str) => (Option.bind (m_station_of x18_tile) fun x => x)) (cp_var rfl h10) fun x18_tile B1x18 vx18 ebx18 hx18 => ⟨_, fun _ _ _ hq => hq, rfl, ((ct_B (cp_notN (cp_call0 (ca_cons0 (cp_var rfl hx18) ca_nil0))))).to (by first | rfl | simp only [o2, Option.bind_assoc, Option.bind_some]), ((Cp.got (cp_call0 (ca_cons0 (cp_var rfl hx18) ca_nil0)))).to (by first | rfl | simp only [o2, Option.bind_assoc, Option.bind_some])⟩)) (by first | rfl | simp only [o2, Option.bind_assoc, Option.bind_some]) fun numbers19 v20 B21 H22 _ hm g23 h24 => ?_
        replace N := N.pure g23
        replace hu0 := Rp.mono g23.b hu0
        replace h10 := Rp.mono g23.b h10
        refine gnx ?_
        refine sq ?_
        refine st_forF_r1 (K := K) (fun Be (s : Unit) B σ H => ∃ (W : Hp) (o3 : Option V) (o4 : Option V), Now (dom W0) Bs Hs (OwTab (He.cT K ("whole_problem", none)).2) W B H s ∧ Ex B21 B ∧ Ex Be B ∧ σ = [some u0, some v6, some v20, o3, o4]) hm N.ex (ca_cons (cp_op r2_add (cp_maxDef (cp_var rfl h24) (cp_un r1_neg cp_int)) cp_int) ca_nil) (by first | rfl | simp only [o2, Option.bind_assoc, Option.bind_some]) (fun Be H1 g => ⟨_, _, _, N.pure g, g.b, Ex.refl _, rfl⟩) ?_ ?_
        · rintro Be x25 s26 B28 σ H29 v30 c31 N32 ⟨W27, _, _, N, eb37, ee38, rfl⟩ hv33 hm hn34 hk35 ht36
          unfold m_whole_problem_b1 at hm
          replace hu0 := Rp.mono eb37 hu0
          replace h10 := Rp.mono eb37 h10
          replace h24 := Rp.mono eb37 h24
          refine gnm ?_
          refine st_if hm N.ex (ct_test (cp_op r2_ninL (cp_var rfl hv33) (cp_var rfl h24))) rfl (fun B39 H40 hc42 hm g41 => ?_) (fun B39 H40 hc42 hm g41 => ?_)
          · replace N := N.pure g41
            replace eb37 := eb37.trans g41.b
            replace ee38 := ee38.trans g41.b
            replace hu0 := Rp.mono g41.b hu0
            replace h10 := Rp.mono g41.b h10
            replace h24 := Rp.mono g41.b h24
            replace hv33 := Rp.mono g41.b hv33
            refine st_retF (K := K) (m' := (Option.bind (o2 (some ("station " : Str)) (o2 (Option.bind (atS? ("ABCDEFGHIJKLMNOPQRSTUVWXYZ" : Str) x25) pfmtS) (o2 (some (" is missing" : Str)) (some []) fun x y => some (x :: y)) fun x y => some (x :: y)) fun x y => some (x :: y)) (pjs Str.empty))) hm N.ex (cp_joined (Jp.cons cp_str (Jp.cons (cp_fmtS (cp_op r2_ixS cp_str (cp_var rfl hv33))) (Jp.cons cp_str Jp.nil)))) (by first | rfl | simp only [o2, Option.bind_assoc, Option.bind_some]) fun x v B1 H1 hm g hv => ?_
            cases hm
            have hm := ht36 _ rfl
            cases hm
            replace N := N.pure g
            exact hQ _ _ _ _ N.sw N.p hv
          · replace N := N.pure g41
            replace eb37 := eb37.trans g41.b
            replace ee38 := ee38.trans g41.b
            replace hu0 := Rp.mono g41.b hu0
            replace h10 := Rp.mono g41.b h10
            replace h24 := Rp.mono g41.b h24
            replace hv33 := Rp.mono g41.b hv33
            refine nxt ?_
            cases hm
            exact hn34 _ _ _ _ rfl ⟨_, _, _, N, eb37, ee38, rfl⟩
        · rintro Be s43 B45 σ H46 hm ⟨W44, _, _, N, eb47, _, rfl⟩
          replace hu0 := Rp.mono eb47 hu0
          replace h10 := Rp.mono eb47 h10
          replace h24 := Rp.mono eb47 h24
          refine gnx ?_
          refine st_retF (K := K) (m' := (some ("" : Str))) hm N.ex cp_str rfl fun x v B1 H1 hm g hv => ?_
          cases hm
          replace N := N.pure g
          exact hQ _ _ _ _ N.sw N.p hv
def m_scan_b1 (p_text : Str) (p_sign : Str) (p_st : (Unit × (List Str))) (p_row : Str) (p_line : Int) (p_column : Int) (p_cells : Int) : Option (Fl ((Unit × (List Str)) × Str × Int × Int × Int) (((List Str) × (Option (T3 Int Int Str))))) :=
 (Option.bind (some ((decide (p_sign = ("\n" : Str))))) fun b => if b = true then
 (Option.bind (Option.bind (m_row_problem p_st.2 p_row) fun x => some (x, p_st)) fun p182 =>
 (Option.bind (some ((!decide (p182.1 = ("" : Str))))) fun b => if b = true then
 (Option.bind (Option.bind (some ((some (T3.mk p_line p_column p182.1)), p182.2)) fun p77 => some (p77.2.2, p77.1)) fun x => some (.rt x))
 else
 (Option.bind (Option.bind (some ((!decide (p_row = ("" : Str))))) fun b129 => if b129 = true then
 (Option.bind (Option.bind (some (p_row, p182.2)) fun p88 => Option.bind (papp p88.2.2 p88.1) fun q89 => some ((), (p88.2.1, q89))) fun p95 =>
 (some (p95.2)))
 else
 (some (p182.2))) fun z106 =>
 (Option.bind (some ("" : Str)) fun row111 =>
 (Option.bind (Option.bind (some (1 : Int)) fun y => some (p_line + y)) fun line117 =>
 (Option.bind (some (1 : Int)) fun column123 =>
 some (.nx (z106, row111, line117, column123, p_cells))))))))
 else
 (Option.bind (Option.bind (some ((!decide (p_sign = (" " : Str))))) fun a => if a = true then (some ((!decide (p_sign = ("\t" : Str))))) else some false) fun b => if b = true then
 (Option.bind (Option.bind (m_tile_problem p_st.2 p_row p_sign p_cells) fun x => some (x, p_st)) fun p274 =>
 (Option.bind (some ((!decide (p274.1 = ("" : Str))))) fun b => if b = true then
 (Option.bind (Option.bind (some ((some (T3.mk p_line p_column p274.1)), p274.2)) fun p205 => some (p205.2.2, p205.1)) fun x => some (.rt x))
 else
 (Option.bind (Option.bind (some p_sign) fun y => pcat p_row y) fun row206 =>
 (Option.bind (m_is_cell p_sign) fun b => if b = true then
 (Option.bind (Option.bind (some (1 : Int)) fun y => some (p_cells + y)) fun cells216 =>
 (Option.bind (Option.bind (some (1 : Int)) fun y => some (p_column + y)) fun column222 =>
 some (.nx (p274.2, row206, p_line, column222, cells216))))
 else
 (Option.bind (Option.bind (some (1 : Int)) fun y => some (p_column + y)) fun column228 =>
 some (.nx (p274.2, row206, p_line, column228, p_cells)))))))
 else
 (Option.bind (Option.bind (some (1 : Int)) fun y => some (p_column + y)) fun column275 =>
 some (.nx (p_st, p_row, p_line, column275, p_cells)))))
def m_scan (a_text : Str) : Option ((List Str) × (Option (T3 Int Int Str))) :=
 (Option.bind (some (([] : List Str), ())) fun p510 =>
 (Option.bind (some ("" : Str)) fun row9 =>
 (Option.bind (some (1 : Int)) fun line15 =>
 (Option.bind (some (1 : Int)) fun column21 =>
 (Option.bind (some (0 : Int)) fun cells27 =>
 (Option.bind (Option.bind (some a_text) fun x => some (sgns x)) fun xs => Option.bind (forF (fun x (s : (Unit × (List Str)) × Str × Int × Int × Int) => m_scan_b1 a_text x s.1 s.2.1 s.2.2.1 s.2.2.2.1 s.2.2.2.2) xs ((p510.2, p510.1), row9, line15, column21, cells27)) fun f => match f with
 | .nx s391 =>
 (Option.bind (Option.bind (m_row_problem s391.1.2 s391.2.1) fun x => some (x, s391.1)) fun p509 =>
 (Option.bind (Option.bind (some ((decide (p509.1 = ("" : Str))))) fun b508 => if b508 = true then
 (Option.bind (Option.bind (some ((!decide (s391.2.1 = ("" : Str))))) fun b465 => if b465 = true then
 (Option.bind (Option.bind (some (s391.2.1, p509.2)) fun p432 => Option.bind (papp p432.2.2 p432.1) fun q433 => some ((), (p432.2.1, q433))) fun p439 =>
 (some (p439.2)))
 else
 (some (p509.2))) fun z450 =>
 (Option.bind (Option.bind (m_whole_problem z450.2) fun q455 => some (q455, z450)) fun p464 =>
 (some (p464.2, p464.1))))
 else
 (some (p509.2, p509.1))) fun z476 =>
 (Option.bind (some ((!decide (z476.2 = ("" : Str))))) fun b => if b = true then
 (Option.bind (some ((some (T3.mk s391.2.2.1 s391.2.2.2.1 z476.2)), z476.1)) fun p493 => some ((p493.2.2, p493.1)))
 else
 (Option.bind (some ((none : (Option (T3 Int Int Str))), z476.1)) fun p500 => some ((p500.2.2, p500.1))))))
 | .bk _ => none
 | .rt r => some r))))))
abbrev s_scan : Stmt := top 17
theorem sc_scan : FnScope ["text", "rows", "row", "line", "column", "cells", "sign", "problem"] ["text"] (defScope s_scan) := ⟨rfl, rfl, rfl, by decide +kernel, rfl, by decide +kernel, by decide +kernel⟩
abbrev sp_scan (K : Fg) : Sp := spTR K (He.cT K ("whole_problem", none)).2 (RT2 (β := (Option (T3 Int Int Str))) K (fun p => OwL (α := Str) K p)) (fun t : Str × Unit => m_scan t.1)
set_option maxHeartbeats 0 in
theorem ok_scan {f : Addr} {fd : FuncData} (F : FunD K "scan" "scan" (defArgs s_scan) (defBody s_scan) (defScope s_scan) [] [] f fd) (T : Tx K mg) (c_is_cell : Fc P w K mg base 1 "is_cell" ["tile"] (sp_is_cell K)) (c_row_problem : Fc P w K mg base 1 "row_problem" ["rows", "row"] (sp_row_problem K)) (c_tile_problem : Fc P w K mg base 3 "tile_problem" ["rows", "row", "sign", "cells"] (sp_tile_problem K)) (c_whole_problem : Fc P w K mg base 2 "whole_problem" ["rows"] (sp_whole_problem K)) : FnOk P w K mg base CX0 4 f fd ["text"] (sp_scan K) := by
  have sc := sc_scan
  refine F.ok sc (fun vs H Q E h => ?_) (fun cdv A outer s H vs Q E hr h => ?_)
  · obtain ⟨W0, Bs, t, r, _, _, _, _, ⟨u0, _, rfl, hu0, hz⟩, _⟩ := h
    cases hz
    rfl
  · obtain ⟨W0, Bs, ⟨a_text, ⟨⟩⟩, r, ex, wx, dj, ow, ⟨u0, _, rfl, hu0, hz⟩, hm, hQ⟩ := h
    cases hz
    replace hu0 : rp K Bs u0 a_text := hu0
    replace hm : m_scan a_text = some r := hm
    obtain ⟨Hs, eHs⟩ : ∃ Hs, Hs = H := ⟨_, rfl⟩
    subst eHs
    have N : Now (dom W0) Bs Hs (OwTab (He.cT K ("whole_problem", none)).2) W0 Bs Hs () := now0 ex wx dj ow
    unfold m_scan at hm
    refine ⟨_, PSs.nox (pss_cons (ps_set (i := 1) sc.nd rfl (.inl rfl) (pe_lst pa_nil)) (pss_cons (ps_set (i := 2) sc.nd rfl (.inl rfl) pe_str) (pss_cons (ps_set (i := 3) sc.nd rfl (.inl rfl) pe_int) (pss_cons (ps_set (i := 4) sc.nd rfl (.inl rfl) pe_int) (pss_cons (ps_set (i := 5) sc.nd rfl (.inl rfl) pe_int) (pss_cons (ps_for PassesOwn.never rfl (pi_str (pv 0)) (pg_name (i := 6) sc.nd rfl (.inl rfl)) (pss_cons (ps_if (pt_cmpR op_eq (pv 6) pe_str (nomark _)) (pss_cons (ps_set (i := 7) sc.nd rfl (.inl rfl) (pe_fc c_row_problem hr (by decide) rfl (pa_cons (pv 1) (pa_cons (pv 2) pa_nil)))) (pss_cons (ps_if (pt_cmpR op_ne (pv 7) pe_str (nomark _)) (pss_one (ps_ret (pe_tup (pa_cons (pv 1) (pa_cons (pe_tup (pa_cons (pv 3) (pa_cons (pv 4) (pa_cons (pv 7) pa_nil)))) pa_nil))))) pss_nil) (pss_cons (ps_if (pt_cmpR op_ne (pv 2) pe_str (nomark _)) (pss_one (ps_expr (pe_bm PySem.F.plainAttrs_list PySem.F.slot_list_append PySem.F.type_list_append mt_append (pv 1) (pa_cons (pv 2) pa_nil)))) pss_nil) (pss_cons (ps_set (i := 2) sc.nd rfl (.inl rfl) pe_str) (pss_cons (ps_aug (i := 3) sc.nd rfl (.inl rfl) pe_int ip_add) (pss_cons (ps_set (i := 4) sc.nd rfl (.inl rfl) pe_int) (pss_one ps_continue))))))) pss_nil) (pss_cons (ps_if (PW.pt (pw_and (pt_cmpR op_ne (pv 6) pe_str (nomark _)) (pw_and1 (pt_cmpR op_ne (pv 6) pe_str (nomark _))))) (pss_cons (ps_set (i := 7) sc.nd rfl (.inl rfl) (pe_fc c_tile_problem hr (by decide) rfl (pa_cons (pv 1) (pa_cons (pv 2) (pa_cons (pv 6) (pa_cons (pv 5) pa_nil)))))) (pss_cons (ps_if (pt_cmpR op_ne (pv 7) pe_str (nomark _)) (pss_one (ps_ret (pe_tup (pa_cons (pv 1) (pa_cons (pe_tup (pa_cons (pv 3) (pa_cons (pv 4) (pa_cons (pv 7) pa_nil)))) pa_nil))))) pss_nil) (pss_cons (ps_aug (i := 2) sc.nd rfl (.inl rfl) (pv 6) ip_addS) (pss_one (ps_if (pt_val (pe_fc c_is_cell hr (by decide) rfl (pa_cons (pv 6) pa_nil))) (pss_one (ps_aug (i := 5) sc.nd rfl (.inl rfl) pe_int ip_add)) pss_nil))))) pss_nil) (pss_one (ps_aug (i := 4) sc.nd rfl (.inl rfl) pe_int ip_add))))) (pss_cons (ps_set (i := 7) sc.nd rfl (.inl rfl) (pe_fc c_row_problem hr (by decide) rfl (pa_cons (pv 1) (pa_cons (pv 2) pa_nil)))) (pss_cons (ps_if (pt_cmpR op_eq (pv 7) pe_str (nomark _)) (pss_cons (ps_if (pt_cmpR op_ne (pv 2) pe_str (nomark _)) (pss_one (ps_expr (pe_bm PySem.F.plainAttrs_list PySem.F.slot_list_append PySem.F.type_list_append mt_append (pv 1) (pa_cons (pv 2) pa_nil)))) pss_nil) (pss_one (ps_set (i := 7) sc.nd rfl (.inl rfl) (pe_fc c_whole_problem hr (by decide) rfl (pa_cons (pv 1) pa_nil))))) pss_nil) (pss_cons (ps_if (pt_cmpR op_ne (pv 7) pe_str (nomark _)) (pss_one (ps_ret (pe_tup (pa_cons (pv 1) (pa_cons (pe_tup (pa_cons (pv 3) (pa_cons (pv 4) (pa_cons (pv 7) pa_nil)))) pa_nil))))) pss_nil) (pss_one (ps_ret (pe_tup (pa_cons (pv 1) (pa_cons pe_non pa_nil)))))))))))))), ?_⟩
    refine sq ?_
    refine st_asgL (K := K) hm N (Co.s (co_nil (α := Str))) (by first | rfl | simp only [o2, Option.bind_assoc, Option.bind_some]) fun rows1 s2 pl3 W4 B5 H6 hm N eb7 fp8 => ?_
    replace hu0 := Rp.mono eb7 hu0
    try dsimp only at hm
    refine gnx ?_
    refine sq ?_
    refine st_asg (K := K) hm N.ex cp_str rfl fun row9 v10 B11 H12 _ hm g13 h14 => ?_
    replace N := N.pure g13
    replace hu0 := Rp.mono g13.b hu0
    refine gnx ?_
    refine sq ?_
    refine st_asg (K := K) hm N.ex cp_int rfl fun line15 v16 B17 H18 _ hm g19 h20 => ?_
    replace N := N.pure g19
    replace hu0 := Rp.mono g19.b hu0
    replace h14 := Rp.mono g19.b h14
    refine gnx ?_
    refine sq ?_
    refine st_asg (K := K) hm N.ex cp_int rfl fun column21 v22 B23 H24 _ hm g25 h26 => ?_
    replace N := N.pure g25
    replace hu0 := Rp.mono g25.b hu0
    replace h14 := Rp.mono g25.b h14
    replace h20 := Rp.mono g25.b h20
    refine gnx ?_
    refine sq ?_
    refine st_asg (K := K) hm N.ex cp_int rfl fun cells27 v28 B29 H30 _ hm g31 h32 => ?_
    replace N := N.pure g31
    replace hu0 := Rp.mono g31.b hu0
    replace h14 := Rp.mono g31.b h14
    replace h20 := Rp.mono g31.b h20
    replace h26 := Rp.mono g31.b h26
    refine gnx ?_
    refine sq ?_
    refine st_forF_str (K := K) (fun Be (s : (Unit × (List Str)) × Str × Int × Int × Int) B σ H => ∃ (W : Hp) (w_row : V) (w_line : V) (w_column : V) (w_cells : V) (o6 : Option V) (o7 : Option V), Now (dom W0) Bs Hs (star (OwTab (He.cT K ("whole_problem", none)).2) (OwL (α := Str) K pl3)) W B H s.1 ∧ Ex B29 B ∧ Ex Be B ∧ σ = [some u0, some (.ref pl3), some w_row, some w_line, some w_column, some w_cells, o6, o7] ∧ rp K B w_row s.2.1 ∧ rp K B w_line s.2.2.1 ∧ rp K B w_column s.2.2.2.1 ∧ rp K B w_cells s.2.2.2.2) hm N.ex (cp_var rfl hu0) (by first | rfl | simp only [o2, Option.bind_assoc, Option.bind_some]) (fun Be H1 g => ⟨_, v10, v16, v22, v28, _, _, N.pure g, g.b, Ex.refl _, rfl, Rp.mono g.b h14, Rp.mono g.b h20, Rp.mono g.b h26, Rp.mono g.b h32⟩) ?_ ?_
    · rintro Be x33 s34 B36 σ H37 v38 c39 N40 ⟨W35, w47, w48, w49, w50, _, _, N, eb45, ee46, rfl, h51, h52, h53, h54⟩ hv41 hm hn42 hk43 ht44
      unfold m_scan_b1 at hm
      replace hu0 := Rp.mono eb45 hu0
      refine gnm ?_
      refine sq ?_
      refine st_if hm N.ex (ct_test (cp_op r2_eq (cp_var rfl hv41) cp_str)) rfl (fun B55 H56 hc58 hm g57 => ?_) (fun B55 H56 hc58 hm g57 => ?_)
      · replace N := N.pure g57
        replace eb45 := eb45.trans g57.b
        replace ee46 := ee46.trans g57.b
        replace hu0 := Rp.mono g57.b hu0
        replace h51 := Rp.mono g57.b h51
        replace h52 := Rp.mono g57.b h52
        replace h53 := Rp.mono g57.b h53
        replace h54 := Rp.mono g57.b h54
        replace hv41 := Rp.mono g57.b hv41
        refine sq ?_
        refine st_asgS (K := K) hm N (cs_view fun W1 B1 s e1 d1 hP => (cp_call0 (ca_cons0 (cp_var rfl (ol_rp ln_r hP d1)) (ca_cons0 (cp_var rfl (Rp.mono (e1.trans (ex_uni_r d1)) h51)) ca_nil0)))) (by first | rfl | simp only [o2, Option.bind_assoc, Option.bind_some]) fun problem59 s60 v61 W62 B63 H64 hm N eb65 h66 => ?_
        try dsimp only at hm
        replace eb45 := eb45.trans eb65
        replace ee46 := ee46.trans eb65
        replace hu0 := Rp.mono eb65 hu0
        replace h51 := Rp.mono eb65 h51
        replace h52 := Rp.mono eb65 h52
        replace h53 := Rp.mono eb65 h53
        replace h54 := Rp.mono eb65 h54
        replace hv41 := Rp.mono eb65 hv41
        refine gnx ?_
        refine sq ?_
        refine st_if hm N.ex (ct_test (cp_op r2_ne (cp_var rfl h66) cp_str)) rfl (fun B67 H68 hc70 hm g69 => ?_) (fun B67 H68 hc70 hm g69 => ?_)
        · replace N := N.pure g69
          replace eb45 := eb45.trans g69.b
          replace ee46 := ee46.trans g69.b
          replace hu0 := Rp.mono g69.b hu0
          replace h51 := Rp.mono g69.b h51
          replace h52 := Rp.mono g69.b h52
          replace h53 := Rp.mono g69.b h53
          replace h54 := Rp.mono g69.b h54
          replace hv41 := Rp.mono g69.b hv41
          replace h66 := Rp.mono g69.b h66
          refine st_retT2 (K := K) hm N rfl (Cp.s (Cp.opt (cp_tup3 (ca_cons (cp_var rfl h52) (ca_cons (cp_var rfl h53) (ca_cons (cp_var rfl h66) ca_nil)))))) (by first | rfl | simp only [o2, Option.bind_assoc, Option.bind_some]) fun x71 v72 W73 V74 B75 H76 hm sw dj t1 hv => ?_
          cases hm
          have hm := ht44 _ rfl
          cases hm
          exact hQ _ _ _ _ _ sw dj t1 hv
        · replace N := N.pure g69
          replace eb45 := eb45.trans g69.b
          replace ee46 := ee46.trans g69.b
          replace hu0 := Rp.mono g69.b hu0
          replace h51 := Rp.mono g69.b h51
          replace h52 := Rp.mono g69.b h52
          replace h53 := Rp.mono g69.b h53
          replace h54 := Rp.mono g69.b h54
          replace hv41 := Rp.mono g69.b hv41
          replace h66 := Rp.mono g69.b h66
          refine nxt ?_
          refine gnx ?_
          refine sq ?_
          refine st_ifJ hm (fun (z : (Unit × (List Str))) σ H => ∃ (W B : Hp), Now (dom W0) Bs Hs (star (OwTab (He.cT K ("whole_problem", none)).2) (OwL (α := Str) K pl3)) W B H z ∧ Ex B67 B ∧ σ = [some u0, some (.ref pl3), some w47, some w48, some w49, some w50, some v38, some v61]) N.ex (ct_test (cp_op r2_ne (cp_var rfl h51) cp_str)) (by first | rfl | simp only [o2, Option.bind_assoc, Option.bind_some]) ?_ ?_ ?_
          · intro z78 B81 H82 N83 hc84 hm g85 hn86
            have ej87 := g85.b
            replace N := N.pure g85
            replace eb45 := eb45.trans g85.b
            replace ee46 := ee46.trans g85.b
            replace hu0 := Rp.mono g85.b hu0
            replace h51 := Rp.mono g85.b h51
            replace h52 := Rp.mono g85.b h52
            replace h53 := Rp.mono g85.b h53
            replace h54 := Rp.mono g85.b h54
            replace hv41 := Rp.mono g85.b hv41
            replace h66 := Rp.mono g85.b h66
            refine st_dropS (K := K) hm N (cs_append ln_r rfl (Cp.s (cp_var rfl h51))) (by first | rfl | simp only [o2, Option.bind_assoc, Option.bind_some]) fun _ s90 W91 B92 H93 hm N eb94 => ?_
            try dsimp only at hm
            replace eb45 := eb45.trans eb94
            replace ee46 := ee46.trans eb94
            replace ej87 := ej87.trans eb94
            replace hu0 := Rp.mono eb94 hu0
            replace h51 := Rp.mono eb94 h51
            replace h52 := Rp.mono eb94 h52
            replace h53 := Rp.mono eb94 h53
            replace h54 := Rp.mono eb94 h54
            replace hv41 := Rp.mono eb94 hv41
            replace h66 := Rp.mono eb94 h66
            cases hm
            exact hn86 _ _ ⟨_, _, N, ej87, rfl⟩
          · intro z96 B99 H100 N101 hc102 hm g103 hn104
            have ej105 := g103.b
            replace N := N.pure g103
            replace eb45 := eb45.trans g103.b
            replace ee46 := ee46.trans g103.b
            replace hu0 := Rp.mono g103.b hu0
            replace h51 := Rp.mono g103.b h51
            replace h52 := Rp.mono g103.b h52
            replace h53 := Rp.mono g103.b h53
            replace h54 := Rp.mono g103.b h54
            replace hv41 := Rp.mono g103.b hv41
            replace h66 := Rp.mono g103.b h66
            refine nxt ?_
            cases hm
            exact hn104 _ _ ⟨_, _, N, ej105, rfl⟩
          · rintro z106 σ H109 hm ⟨W107, B108, N, eb110, rfl⟩
            replace eb45 := eb45.trans eb110
            replace ee46 := ee46.trans eb110
            replace hu0 := Rp.mono eb110 hu0
            replace h51 := Rp.mono eb110 h51
            replace h52 := Rp.mono eb110 h52
            replace h53 := Rp.mono eb110 h53
            replace h54 := Rp.mono eb110 h54
            replace hv41 := Rp.mono eb110 hv41
            replace h66 := Rp.mono eb110 h66
            refine gnx ?_
            refine sq ?_
            refine st_asg (K := K) hm N.ex cp_str rfl fun row111 v112 B113 H114 _ hm g115 h116 => ?_
            replace N := N.pure g115
            replace eb45 := eb45.trans g115.b
            replace ee46 := ee46.trans g115.b
            replace hu0 := Rp.mono g115.b hu0
            replace h52 := Rp.mono g115.b h52
            replace h53 := Rp.mono g115.b h53
            replace h54 := Rp.mono g115.b h54
            replace hv41 := Rp.mono g115.b hv41
            replace h66 := Rp.mono g115.b h66
            refine gnx ?_
            refine sq ?_
            refine st_aug (K := K) hm N.ex rfl h52 r2_ipadd cp_int (by first | rfl | simp only [o2, Option.bind_assoc, Option.bind_some]) fun line117 v118 B119 H120 hm g121 h122 => ?_
            replace N := N.pure g121
            replace eb45 := eb45.trans g121.b
            replace ee46 := ee46.trans g121.b
            replace hu0 := Rp.mono g121.b hu0
            replace h53 := Rp.mono g121.b h53
            replace h54 := Rp.mono g121.b h54
            replace hv41 := Rp.mono g121.b hv41
            replace h66 := Rp.mono g121.b h66
            replace h116 := Rp.mono g121.b h116
            refine gnx ?_
            refine sq ?_
            refine st_asg (K := K) hm N.ex cp_int rfl fun column123 v124 B125 H126 _ hm g127 h128 => ?_
            replace N := N.pure g127
            replace eb45 := eb45.trans g127.b
            replace ee46 := ee46.trans g127.b
            replace hu0 := Rp.mono g127.b hu0
            replace h54 := Rp.mono g127.b h54
            replace hv41 := Rp.mono g127.b hv41
            replace h66 := Rp.mono g127.b h66
            replace h116 := Rp.mono g127.b h116
            replace h122 := Rp.mono g127.b h122
            refine gnx ?_
            refine cntn ?_
            cases hm
            exact hn42 _ _ _ _ rfl ⟨_, v112, v118, v124, w50, _, _, N, eb45, ee46, rfl, h116, h122, h128, h54⟩
      · replace N := N.pure g57
        replace eb45 := eb45.trans g57.b
        replace ee46 := ee46.trans g57.b
        replace hu0 := Rp.mono g57.b hu0
        replace h51 := Rp.mono g57.b h51
        replace h52 := Rp.mono g57.b h52
        replace h53 := Rp.mono g57.b h53
        replace h54 := Rp.mono g57.b h54
        replace hv41 := Rp.mono g57.b hv41
        refine nxt ?_
        refine gnx ?_
        refine sq ?_
        refine st_if hm N.ex (ct_and (ct_test (cp_op r2_ne (cp_var rfl hv41) cp_str)) (ct_test (cp_op r2_ne (cp_var rfl hv41) cp_str))) (by first | rfl | simp only [o2, Option.bind_assoc, Option.bind_some]) (fun B183 H184 hc186 hm g185 => ?_) (fun B183 H184 hc186 hm g185 => ?_)
        · replace N := N.pure g185
          replace eb45 := eb45.trans g185.b
          replace ee46 := ee46.trans g185.b
          replace hu0 := Rp.mono g185.b hu0
          replace h51 := Rp.mono g185.b h51
          replace h52 := Rp.mono g185.b h52
          replace h53 := Rp.mono g185.b h53
          replace h54 := Rp.mono g185.b h54
          replace hv41 := Rp.mono g185.b hv41
          refine sq ?_
          refine st_asgS (K := K) hm N (cs_view fun W1 B1 s e1 d1 hP => (cp_call0 (ca_cons0 (cp_var rfl (ol_rp ln_r hP d1)) (ca_cons0 (cp_var rfl (Rp.mono (e1.trans (ex_uni_r d1)) h51)) (ca_cons0 (cp_var rfl (Rp.mono (e1.trans (ex_uni_r d1)) hv41)) (ca_cons0 (cp_var rfl (Rp.mono (e1.trans (ex_uni_r d1)) h54)) ca_nil0)))))) (by first | rfl | simp only [o2, Option.bind_assoc, Option.bind_some]) fun problem187 s188 v189 W190 B191 H192 hm N eb193 h194 => ?_
          try dsimp only at hm
          replace eb45 := eb45.trans eb193
          replace ee46 := ee46.trans eb193
          replace hu0 := Rp.mono eb193 hu0
          replace h51 := Rp.mono eb193 h51
          replace h52 := Rp.mono eb193 h52
          replace h53 := Rp.mono eb193 h53
          replace h54 := Rp.mono eb193 h54
          replace hv41 := Rp.mono eb193 hv41
          refine gnx ?_
          refine sq ?_
          refine st_if hm N.ex (ct_test (cp_op r2_ne (cp_var rfl h194) cp_str)) rfl (fun B195 H196 hc198 hm g197 => ?_) (fun B195 H196 hc198 hm g197 => ?_)
          · replace N := N.pure g197
            replace eb45 := eb45.trans g197.b
            replace ee46 := ee46.trans g197.b
            replace hu0 := Rp.mono g197.b hu0
            replace h51 := Rp.mono g197.b h51
            replace h52 := Rp.mono g197.b h52
            replace h53 := Rp.mono g197.b h53
            replace h54 := Rp.mono g197.b h54
            replace hv41 := Rp.mono g197.b hv41
            replace h194 := Rp.mono g197.b h194
            refine st_retT2 (K := K) hm N rfl (Cp.s (Cp.opt (cp_tup3 (ca_cons (cp_var rfl h52) (ca_cons (cp_var rfl h53) (ca_cons (cp_var rfl h194) ca_nil)))))) (by first | rfl | simp only [o2, Option.bind_assoc, Option.bind_some]) fun x199 v200 W201 V202 B203 H204 hm sw dj t1 hv => ?_
            cases hm
            have hm := ht44 _ rfl
            cases hm
            exact hQ _ _ _ _ _ sw dj t1 hv
          · replace N := N.pure g197
            replace eb45 := eb45.trans g197.b
            replace ee46 := ee46.trans g197.b
            replace hu0 := Rp.mono g197.b hu0
            replace h51 := Rp.mono g197.b h51
            replace h52 := Rp.mono g197.b h52
            replace h53 := Rp.mono g197.b h53
            replace h54 := Rp.mono g197.b h54
            replace hv41 := Rp.mono g197.b hv41
            replace h194 := Rp.mono g197.b h194
            refine nxt ?_
            refine gnx ?_
            refine sq ?_
            refine st_aug (K := K) hm N.ex rfl h51 r2_ipaddS (cp_var rfl hv41) (by first | rfl | simp only [o2, Option.bind_assoc, Option.bind_some]) fun row206 v207 B208 H209 hm g210 h211 => ?_
            replace N := N.pure g210
            replace eb45 := eb45.trans g210.b
            replace ee46 := ee46.trans g210.b
            replace hu0 := Rp.mono g210.b hu0
            replace h52 := Rp.mono g210.b h52
            replace h53 := Rp.mono g210.b h53
            replace h54 := Rp.mono g210.b h54
            replace hv41 := Rp.mono g210.b hv41
            replace h194 := Rp.mono g210.b h194
            refine gnx ?_
            refine st_if hm N.ex (ct_B (cp_call0 (ca_cons0 (cp_var rfl hv41) ca_nil0))) (by first | rfl | simp only [o2, Option.bind_assoc, Option.bind_some]) (fun B212 H213 hc215 hm g214 => ?_) (fun B212 H213 hc215 hm g214 => ?_)
            · replace N := N.pure g214
              replace eb45 := eb45.trans g214.b
              replace ee46 := ee46.trans g214.b
              replace hu0 := Rp.mono g214.b hu0
              replace h52 := Rp.mono g214.b h52
              replace h53 := Rp.mono g214.b h53
              replace h54 := Rp.mono g214.b h54
              replace hv41 := Rp.mono g214.b hv41
              replace h194 := Rp.mono g214.b h194
              replace h211 := Rp.mono g214.b h211
              refine st_aug (K := K) hm N.ex rfl h54 r2_ipadd cp_int (by first | rfl | simp only [o2, Option.bind_assoc, Option.bind_some]) fun cells216 v217 B218 H219 hm g220 h221 => ?_
              replace N := N.pure g220
              replace eb45 := eb45.trans g220.b
              replace ee46 := ee46.trans g220.b
              replace hu0 := Rp.mono g220.b hu0
              replace h52 := Rp.mono g220.b h52
              replace h53 := Rp.mono g220.b h53
              replace hv41 := Rp.mono g220.b hv41
              replace h194 := Rp.mono g220.b h194
              replace h211 := Rp.mono g220.b h211
              refine gnx ?_
              refine st_aug (K := K) hm N.ex rfl h53 r2_ipadd cp_int (by first | rfl | simp only [o2, Option.bind_assoc, Option.bind_some]) fun column222 v223 B224 H225 hm g226 h227 => ?_
              replace N := N.pure g226
              replace eb45 := eb45.trans g226.b
              replace ee46 := ee46.trans g226.b
              replace hu0 := Rp.mono g226.b hu0
              replace h52 := Rp.mono g226.b h52
              replace hv41 := Rp.mono g226.b hv41
              replace h194 := Rp.mono g226.b h194
              replace h211 := Rp.mono g226.b h211
              replace h221 := Rp.mono g226.b h221
              cases hm
              exact hn42 _ _ _ _ rfl ⟨_, v207, w48, v223, v217, _, _, N, eb45, ee46, rfl, h211, h52, h227, h221⟩
            · replace N := N.pure g214
              replace eb45 := eb45.trans g214.b
              replace ee46 := ee46.trans g214.b
              replace hu0 := Rp.mono g214.b hu0
              replace h52 := Rp.mono g214.b h52
              replace h53 := Rp.mono g214.b h53
              replace h54 := Rp.mono g214.b h54
              replace hv41 := Rp.mono g214.b hv41
              replace h194 := Rp.mono g214.b h194
              replace h211 := Rp.mono g214.b h211
              refine nxt ?_
              refine gnx ?_
              refine st_aug (K := K) hm N.ex rfl h53 r2_ipadd cp_int (by first | rfl | simp only [o2, Option.bind_assoc, Option.bind_some]) fun column228 v229 B230 H231 hm g232 h233 => ?_
              replace N := N.pure g232
              replace eb45 := eb45.trans g232.b
              replace ee46 := ee46.trans g232.b
              replace hu0 := Rp.mono g232.b hu0
              replace h52 := Rp.mono g232.b h52
              replace h54 := Rp.mono g232.b h54
              replace hv41 := Rp.mono g232.b hv41
              replace h194 := Rp.mono g232.b h194
              replace h211 := Rp.mono g232.b h211
              cases hm
              exact hn42 _ _ _ _ rfl ⟨_, v207, w48, v229, w50, _, _, N, eb45, ee46, rfl, h211, h52, h233, h54⟩
        · replace N := N.pure g185
          replace eb45 := eb45.trans g185.b
          replace ee46 := ee46.trans g185.b
          replace hu0 := Rp.mono g185.b hu0
          replace h51 := Rp.mono g185.b h51
          replace h52 := Rp.mono g185.b h52
          replace h53 := Rp.mono g185.b h53
          replace h54 := Rp.mono g185.b h54
          replace hv41 := Rp.mono g185.b hv41
          refine nxt ?_
          refine gnx ?_
          refine st_aug (K := K) hm N.ex rfl h53 r2_ipadd cp_int (by first | rfl | simp only [o2, Option.bind_assoc, Option.bind_some]) fun column275 v276 B277 H278 hm g279 h280 => ?_
          replace N := N.pure g279
          replace eb45 := eb45.trans g279.b
          replace ee46 := ee46.trans g279.b
          replace hu0 := Rp.mono g279.b hu0
          replace h51 := Rp.mono g279.b h51
          replace h52 := Rp.mono g279.b h52
          replace h54 := Rp.mono g279.b h54
          replace hv41 := Rp.mono g279.b hv41
          cases hm
          exact hn42 _ _ _ _ rfl ⟨_, w47, w48, v276, w50, _, _, N, eb45, ee46, rfl, h51, h52, h280, h54⟩
    · rintro Be s391 B393 σ H394 hm ⟨W392, w396, w397, w398, w399, _, _, N, eb395, _, rfl, h400, h401, h402, h403⟩
      replace hu0 := Rp.mono eb395 hu0
      refine gnx ?_
      refine sq ?_
      refine st_asgS (K := K) hm N (cs_view fun W1 B1 s e1 d1 hP => (cp_call0 (ca_cons0 (cp_var rfl (ol_rp ln_r hP d1)) (ca_cons0 (cp_var rfl (Rp.mono (e1.trans (ex_uni_r d1)) h400)) ca_nil0)))) (by first | rfl | simp only [o2, Option.bind_assoc, Option.bind_some]) fun problem404 s405 v406 W407 B408 H409 hm N eb410 h411 => ?_
      try dsimp only at hm
      replace hu0 := Rp.mono eb410 hu0
      replace h400 := Rp.mono eb410 h400
      replace h401 := Rp.mono eb410 h401
      replace h402 := Rp.mono eb410 h402
      replace h403 := Rp.mono eb410 h403
      refine gnx ?_
      refine sq ?_
      refine st_ifJ hm (fun (z : (Unit × (List Str)) × Str) σ H => ∃ (W B : Hp) (w_problem : V) (o6 : Option V), Now (dom W0) Bs Hs (star (OwTab (He.cT K ("whole_problem", none)).2) (OwL (α := Str) K pl3)) W B H z.1 ∧ Ex B408 B ∧ σ = [some u0, some (.ref pl3), some w396, some w397, some w398, some w399, o6, some w_problem] ∧ rp K B w_problem z.2) N.ex (ct_test (cp_op r2_eq (cp_var rfl h411) cp_str)) (by first | rfl | simp only [o2, Option.bind_assoc, Option.bind_some]) ?_ ?_ ?_
      · intro z412 B415 H416 N417 hc418 hm g419 hn420
        have ej421 := g419.b
        replace N := N.pure g419
        replace hu0 := Rp.mono g419.b hu0
        replace h400 := Rp.mono g419.b h400
        replace h401 := Rp.mono g419.b h401
        replace h402 := Rp.mono g419.b h402
        replace h403 := Rp.mono g419.b h403
        replace h411 := Rp.mono g419.b h411
        refine sq ?_
        refine st_ifJ hm (fun (z : (Unit × (List Str))) σ H => ∃ (W B : Hp) (o6 : Option V), Now (dom W0) Bs Hs (star (OwTab (He.cT K ("whole_problem", none)).2) (OwL (α := Str) K pl3)) W B H z ∧ Ex B415 B ∧ σ = [some u0, some (.ref pl3), some w396, some w397, some w398, some w399, o6, some v406]) N.ex (ct_test (cp_op r2_ne (cp_var rfl h400) cp_str)) (by first | rfl | simp only [o2, Option.bind_assoc, Option.bind_some]) ?_ ?_ ?_
        · intro z422 B425 H426 N427 hc428 hm g429 hn430
          have ej431 := g429.b
          replace N := N.pure g429
          replace ej421 := ej421.trans g429.b
          replace hu0 := Rp.mono g429.b hu0
          replace h400 := Rp.mono g429.b h400
          replace h401 := Rp.mono g429.b h401
          replace h402 := Rp.mono g429.b h402
          replace h403 := Rp.mono g429.b h403
          replace h411 := Rp.mono g429.b h411
          refine st_dropS (K := K) hm N (cs_append ln_r rfl (Cp.s (cp_var rfl h400))) (by first | rfl | simp only [o2, Option.bind_assoc, Option.bind_some]) fun _ s434 W435 B436 H437 hm N eb438 => ?_
          try dsimp only at hm
          replace ej421 := ej421.trans eb438
          replace ej431 := ej431.trans eb438
          replace hu0 := Rp.mono eb438 hu0
          replace h400 := Rp.mono eb438 h400
          replace h401 := Rp.mono eb438 h401
          replace h402 := Rp.mono eb438 h402
          replace h403 := Rp.mono eb438 h403
          replace h411 := Rp.mono eb438 h411
          cases hm
          exact hn430 _ _ ⟨_, _, _, N, ej431, rfl⟩
        · intro z440 B443 H444 N445 hc446 hm g447 hn448
          have ej449 := g447.b
          replace N := N.pure g447
          replace ej421 := ej421.trans g447.b
          replace hu0 := Rp.mono g447.b hu0
          replace h400 := Rp.mono g447.b h400
          replace h401 := Rp.mono g447.b h401
          replace h402 := Rp.mono g447.b h402
          replace h403 := Rp.mono g447.b h403
          replace h411 := Rp.mono g447.b h411
          refine nxt ?_
          cases hm
          exact hn448 _ _ ⟨_, _, _, N, ej449, rfl⟩
        · rintro z450 σ H453 hm ⟨W451, B452, _, N, eb454, rfl⟩
          replace ej421 := ej421.trans eb454
          replace hu0 := Rp.mono eb454 hu0
          replace h400 := Rp.mono eb454 h400
          replace h401 := Rp.mono eb454 h401
          replace h402 := Rp.mono eb454 h402
          replace h403 := Rp.mono eb454 h403
          replace h411 := Rp.mono eb454 h411
          refine gnx ?_
          refine st_asgS (K := K) hm N (cs_callTL ln_l (fun _ _ => rfl) ln_r rfl) (by first | rfl | simp only [o2, Option.bind_assoc, Option.bind_some]) fun problem456 s457 v458 W459 B460 H461 hm N eb462 h463 => ?_
          try dsimp only at hm
          replace ej421 := ej421.trans eb462
          replace hu0 := Rp.mono eb462 hu0
          replace h400 := Rp.mono eb462 h400
          replace h401 := Rp.mono eb462 h401
          replace h402 := Rp.mono eb462 h402
          replace h403 := Rp.mono eb462 h403
          cases hm
          exact hn420 _ _ ⟨_, _, v458, _, N, ej421, rfl, h463⟩
      · intro z466 B469 H470 N471 hc472 hm g473 hn474
        have ej475 := g473.b
        replace N := N.pure g473
        replace hu0 := Rp.mono g473.b hu0
        replace h400 := Rp.mono g473.b h400
        replace h401 := Rp.mono g473.b h401
        replace h402 := Rp.mono g473.b h402
        replace h403 := Rp.mono g473.b h403
        replace h411 := Rp.mono g473.b h411
        refine nxt ?_
        cases hm
        exact hn474 _ _ ⟨_, _, v406, _, N, ej475, rfl, h411⟩
      · rintro z476 σ H479 hm ⟨W477, B478, w481, _, N, eb480, rfl, h482⟩
        replace hu0 := Rp.mono eb480 hu0
        replace h400 := Rp.mono eb480 h400
        replace h401 := Rp.mono eb480 h401
        replace h402 := Rp.mono eb480 h402
        replace h403 := Rp.mono eb480 h403
        refine gnx ?_
        refine sq ?_
        refine st_if hm N.ex (ct_test (cp_op r2_ne (cp_var rfl h482) cp_str)) rfl (fun B483 H484 hc486 hm g485 => ?_) (fun B483 H484 hc486 hm g485 => ?_)
        · replace N := N.pure g485
          replace hu0 := Rp.mono g485.b hu0
          replace h400 := Rp.mono g485.b h400
          replace h401 := Rp.mono g485.b h401
          replace h402 := Rp.mono g485.b h402
          replace h403 := Rp.mono g485.b h403
          replace h482 := Rp.mono g485.b h482
          refine st_retT2' (K := K) hm N rfl (Cp.s (Cp.opt (cp_tup3 (ca_cons (cp_var rfl h401) (ca_cons (cp_var rfl h402) (ca_cons (cp_var rfl h482) ca_nil)))))) (by first | rfl | simp only [o2, Option.bind_assoc, Option.bind_some]) fun v488 W489 V490 B491 H492 sw dj t1 hv => ?_
          exact hQ _ _ _ _ _ sw dj t1 hv
        · replace N := N.pure g485
          replace hu0 := Rp.mono g485.b hu0
          replace h400 := Rp.mono g485.b h400
          replace h401 := Rp.mono g485.b h401
          replace h402 := Rp.mono g485.b h402
          replace h403 := Rp.mono g485.b h403
          replace h482 := Rp.mono g485.b h482
          refine nxt ?_
          refine gnx ?_
          refine st_retT2' (K := K) hm N rfl (Cp.s (cp_nonO (α := (T3 Int Int Str)))) (by first | rfl | simp only [o2, Option.bind_assoc, Option.bind_some]) fun v495 W496 V497 B498 H499 sw dj t1 hv => ?_
          exact hQ _ _ _ _ _ sw dj t1 hv
def m_check_map (a_text : Str) : Option (Option (T3 Int Int Str)) :=
 (Option.bind (Option.bind (m_scan a_text) fun z11 => some (z11, ())) fun p13 =>
 (Option.bind (some p13.1.2) fun x => some x))
abbrev s_check_map : Stmt := top 18
theorem sc_check_map : FnScope ["text", "rows", "fault"] ["text"] (defScope s_check_map) := ⟨rfl, rfl, rfl, by decide +kernel, rfl, by decide +kernel, by decide +kernel⟩
abbrev sp_check_map (K : Fg) : Sp := spT K (He.cT K ("whole_problem", none)).2 (fun t : Str × Unit => m_check_map t.1)
set_option maxHeartbeats 0 in
theorem ok_check_map {f : Addr} {fd : FuncData} (F : FunD K "check_map" "check_map" (defArgs s_check_map) (defBody s_check_map) (defScope s_check_map) [] [] f fd) (T : Tx K mg) (c_scan : Fc P w K mg base 4 "scan" ["text"] (sp_scan K)) : FnOk P w K mg base CX0 5 f fd ["text"] (sp_check_map K) := by
  have sc := sc_check_map
  refine F.ok sc (fun vs H Q E h => ?_) (fun cdv A outer s H vs Q E hr h => ?_)
  · obtain ⟨W0, Bs, t, r, _, _, _, _, ⟨u0, _, rfl, hu0, hz⟩, _⟩ := h
    cases hz
    rfl
  · obtain ⟨W0, Bs, ⟨a_text, ⟨⟩⟩, r, ex, wx, dj, ow, ⟨u0, _, rfl, hu0, hz⟩, hm, hQ⟩ := h
    cases hz
    replace hu0 : rp K Bs u0 a_text := hu0
    replace hm : m_check_map a_text = some r := hm
    obtain ⟨Hs, eHs⟩ : ∃ Hs, Hs = H := ⟨_, rfl⟩
    subst eHs
    have N : Now (dom W0) Bs Hs (OwTab (He.cT K ("whole_problem", none)).2) W0 Bs Hs () := now0 ex wx dj ow
    unfold m_check_map at hm
    refine ⟨_, PSs.nox (pss_cons (ps_asg (pe_fc c_scan hr (by decide) rfl (pa_cons (pv 0) pa_nil)) (pg_tup rfl (pgs_cons (pg_name (i := 1) sc.nd rfl (.inl rfl)) (pgs_cons (pg_name (i := 2) sc.nd rfl (.inl rfl)) pgs_nil)))) (pss_one (ps_ret (pv 2)))), ?_⟩
    refine sq ?_
    refine st_callTRt2 (K := K) ln_id (fun _ _ => rfl) hm N (csa_cons (Cp.s (cp_var rfl hu0)) csa_nil) (by first | rfl | simp only [o2, Option.bind_assoc, Option.bind_some]) fun x1 s2 pl3 v4 W5 B6 H7 hm N eb8 h9 => ?_
    try dsimp only at hm
    replace hu0 := Rp.mono eb8 hu0
    refine gnx ?_
    obtain ⟨W12, N⟩ := N.drop
    refine st_retF (K := K) (m' := (some x1.2)) hm N.ex (cp_var rfl h9) rfl fun x v B1 H1 hm g hv => ?_
    cases hm
    replace N := N.pure g
    exact hQ _ _ _ _ N.sw N.p hv
def m_read_rows (a_text : Str) : Option (List Str) :=
 (Option.bind (Option.bind (m_scan a_text) fun z11 => some (z11, ())) fun p16 =>
 (Option.bind (some (p16.1.2.isSome)) fun b => if b = true then
 none
 else
 (some (p16.2, p16.1.1).2)))
abbrev s_read_rows : Stmt := top 19
theorem sc_read_rows : FnScope ["text", "rows", "fault", "line", "column", "problem"] ["text"] (defScope s_read_rows) := ⟨rfl, rfl, rfl, by decide +kernel, rfl, by decide +kernel, by decide +kernel⟩
abbrev sp_read_rows (K : Fg) : Sp := spTR K (He.cT K ("whole_problem", none)).2 (RefR (OwL (α := Str) K)) (fun t : Str × Unit => m_read_rows t.1)
set_option maxHeartbeats 0 in
theorem ok_read_rows {f : Addr} {fd : FuncData} (F : FunD K "read_rows" "read_rows" (defArgs s_read_rows) (defBody s_read_rows) (defScope s_read_rows) [] [] f fd) (T : Tx K mg) (c_scan : Fc P w K mg base 4 "scan" ["text"] (sp_scan K)) : FnOk P w K mg base CX0 5 f fd ["text"] (sp_read_rows K) := by
  have sc := sc_read_rows
  refine F.ok sc (fun vs H Q E h => ?_) (fun cdv A outer s H vs Q E hr h => ?_)
  · obtain ⟨W0, Bs, t, r, _, _, _, _, ⟨u0, _, rfl, hu0, hz⟩, _⟩ := h
    cases hz
    rfl
  · obtain ⟨W0, Bs, ⟨a_text, ⟨⟩⟩, r, ex, wx, dj, ow, ⟨u0, _, rfl, hu0, hz⟩, hm, hQ⟩ := h
    cases hz
    replace hu0 : rp K Bs u0 a_text := hu0
    replace hm : m_read_rows a_text = some r := hm
    obtain ⟨Hs, eHs⟩ : ∃ Hs, Hs = H := ⟨_, rfl⟩
    subst eHs
    have N : Now (dom W0) Bs Hs (OwTab (He.cT K ("whole_problem", none)).2) W0 Bs Hs () := now0 ex wx dj ow
    unfold m_read_rows at hm
    refine ⟨_, PSs.nox (pss_cons (ps_asg (pe_fc c_scan hr (by decide) rfl (pa_cons (pv 0) pa_nil)) (pg_tup rfl (pgs_cons (pg_name (i := 1) sc.nd rfl (.inl rfl)) (pgs_cons (pg_name (i := 2) sc.nd rfl (.inl rfl)) pgs_nil)))) (pss_cons (ps_if (pt_cmp (pc_notN (pv 2))) pss_nvr pss_nil) (pss_one (ps_ret (pv 1))))), ?_⟩
    refine sq ?_
    refine st_callTRt2 (K := K) ln_id (fun _ _ => rfl) hm N (csa_cons (Cp.s (cp_var rfl hu0)) csa_nil) (by first | rfl | simp only [o2, Option.bind_assoc, Option.bind_some]) fun x1 s2 pl3 v4 W5 B6 H7 hm N eb8 h9 => ?_
    try dsimp only at hm
    replace hu0 := Rp.mono eb8 hu0
    refine gnx ?_
    refine sq ?_
    refine st_if hm N.ex (ct_B (cp_notN (cp_var rfl h9))) rfl (fun B12 H13 hc15 hm g14 => ?_) (fun B12 H13 hc15 hm g14 => ?_)
    · replace N := N.pure g14
      replace hu0 := Rp.mono g14.b hu0
      replace h9 := Rp.mono g14.b h9
      cases hm
    · replace N := N.pure g14
      replace hu0 := Rp.mono g14.b hu0
      replace h9 := Rp.mono g14.b h9
      refine nxt ?_
      refine gnx ?_
      refine st_retRef hm N rfl rfl fun v W1 V1 B1 H1 sw dj t1 hv => ?_
      exact hQ _ _ _ _ _ sw dj t1 hv
def m_format_map (a_text : Str) : Option Str :=
 (Option.bind (Option.bind (some (("\n" : Str), ())) fun p3 => Option.bind (Option.bind (m_read_rows a_text) fun q1 => some (q1, p3.2)) fun p4 => Option.bind (pjoin p3.1 p4.1) fun z => some (z, p4.2)) fun p13 => some p13.1)
abbrev s_format_map : Stmt := top 20
theorem sc_format_map : FnScope ["text"] ["text"] (defScope s_format_map) := ⟨rfl, rfl, rfl, by decide +kernel, rfl, by decide +kernel, by decide +kernel⟩
abbrev sp_format_map (K : Fg) : Sp := spT K (He.cT K ("whole_problem", none)).2 (fun t : Str × Unit => m_format_map t.1)
set_option maxHeartbeats 0 in
theorem ok_format_map {f : Addr} {fd : FuncData} (F : FunD K "format_map" "format_map" (defArgs s_format_map) (defBody s_format_map) (defScope s_format_map) [] [] f fd) (T : Tx K mg) (c_read_rows : Fc P w K mg base 5 "read_rows" ["text"] (sp_read_rows K)) : FnOk P w K mg base CX0 6 f fd ["text"] (sp_format_map K) := by
  have sc := sc_format_map
  refine F.ok sc (fun vs H Q E h => ?_) (fun cdv A outer s H vs Q E hr h => ?_)
  · obtain ⟨W0, Bs, t, r, _, _, _, _, ⟨u0, _, rfl, hu0, hz⟩, _⟩ := h
    cases hz
    rfl
  · obtain ⟨W0, Bs, ⟨a_text, ⟨⟩⟩, r, ex, wx, dj, ow, ⟨u0, _, rfl, hu0, hz⟩, hm, hQ⟩ := h
    cases hz
    replace hu0 : rp K Bs u0 a_text := hu0
    replace hm : m_format_map a_text = some r := hm
    obtain ⟨Hs, eHs⟩ : ∃ Hs, Hs = H := ⟨_, rfl⟩
    subst eHs
    have N : Now (dom W0) Bs Hs (OwTab (He.cT K ("whole_problem", none)).2) W0 Bs Hs () := now0 ex wx dj ow
    unfold m_format_map at hm
    refine ⟨_, PSs.nox (pss_one (ps_ret (pe_m1 PySem.F.slot_str_join PySem.F.type_str_join (mt_joinK (K := K) rfl) pe_str (pe_fc c_read_rows hr (by decide) rfl (pa_cons (pv 0) pa_nil))))), ?_⟩
    refine st_retS (K := K) hm N (cs_m1 r2_join (Cp.s cp_str) (cs_callTRz ln_id (fun _ _ => rfl) (csa_cons (Cp.s (cp_var rfl hu0)) csa_nil))) (by first | rfl | simp only [o2, Option.bind_assoc, Option.bind_some]) fun x5 s6 v7 W8 B9 H10 hm N eb11 h12 => ?_
    cases hm
    exact hQ _ _ _ _ N.sw N.p h12
def m_law_b4 (p_l_script : Scr) (p_l_rows_here : (List Str)) (p_l_text_here : Str) (p_l_due : Str) (p_l_k : Int) (p_st : ((Unit × (List Int)) × (List Str))) : Option (Fl (((Unit × (List Int)) × (List Str))) (Bool)) :=
 (Option.bind (Option.bind (Option.bind (Option.bind (Option.bind (at? p_st.2 p_l_k) fun x => some (true)) fun x => some (!x)) fun a => if a = true then some true else (o2 (at? p_st.2 p_l_k) (at? p_l_rows_here p_l_k) fun x y => some ((!decide (x = y))))) fun x => some (x, p_st)) fun b421 => if b421.1 = true then
 (Option.bind (some false) fun x => some (.rt x))
 else
 some (.nx (b421.2)))
def m_law_b3 (p_l_script : Scr) (p_l_rows_here : (List Str)) (p_l_text_here : Str) (p_l_due : Str) (p_l_k : Int) (p_st : ((Unit × (List Int)) × (List Str))) : Option (Fl (((Unit × (List Int)) × (List Str))) (Bool)) :=
 (Option.bind (Option.bind (Option.bind (Option.bind (Option.bind (at? p_st.2 p_l_k) fun x => some (true)) fun x => some (!x)) fun a => if a = true then some true else (o2 (at? p_st.2 p_l_k) (at? p_l_rows_here p_l_k) fun x y => some ((!decide (x = y))))) fun x => some (x, p_st)) fun b317 => if b317.1 = true then
 (Option.bind (some false) fun x => some (.rt x))
 else
 some (.nx (b317.2)))
def m_law_b2 (p_l_script : Scr) (p_l_rows_here : (List Str)) (p_l_text_here : Str) (p_l_due : Str) (p_l_k : Int) (p_st : ((Unit × (List Int)) × (List Str))) : Option (Fl (((Unit × (List Int)) × (List Str))) (Bool)) :=
 (Option.bind (Option.bind (Option.bind (Option.bind (Option.bind (at? p_st.2 p_l_k) fun x => some (true)) fun x => some (!x)) fun a => if a = true then some true else (o2 (at? p_st.2 p_l_k) (at? p_l_rows_here p_l_k) fun x y => some ((!decide (x = y))))) fun x => some (x, p_st)) fun b192 => if b192.1 = true then
 (Option.bind (some false) fun x => some (.rt x))
 else
 some (.nx (b192.2)))
def m_law_b1 (p_l_script : Scr) (p_l_rows_here : (List Str)) (p_l_text_here : Str) (p_l_due : Str) (p_l_k : Int) (p_st : ((Unit × (List Int)) × (List Str))) : Option (Fl (((Unit × (List Int)) × (List Str))) (Bool)) :=
 (Option.bind (Option.bind (Option.bind (Option.bind (Option.bind (at? p_st.2 p_l_k) fun x => some (true)) fun x => some (!x)) fun a => if a = true then some true else (o2 (at? p_st.2 p_l_k) (at? p_l_rows_here p_l_k) fun x y => some ((!decide (x = y))))) fun x => some (x, p_st)) fun b88 => if b88.1 = true then
 (Option.bind (some false) fun x => some (.rt x))
 else
 some (.nx (b88.2)))
def m_law (a_l_script : Scr) : Option Bool :=
 (Option.bind (m_l_digits a_l_script (0 : Int) (63 : Int)) fun ds1 =>
 (Option.bind (Option.bind (m_l_rows ((), ds1).2 ()) fun q8 => some (q8.1, (((), ds1).1, q8.2))) fun p507 =>
 (Option.bind (Option.bind (m_l_text p507.2.2 (p507.1, ())) fun q18 => some (q18.1, (p507.2.1, q18.2))) fun p506 =>
 (Option.bind (o2 (some ("\n" : Str)) (some p507.1) fun x y => pjoin x y) fun l_due27 =>
 (Option.bind (Option.bind (Option.bind (Option.bind (m_check_map p506.1) fun q34 => some (q34, p506.2)) fun p => some (p.1.isSome, p.2)) fun p39 => if p39.1 = true then some (true, p39.2) else (Option.bind (Option.bind (m_check_map l_due27) fun q37 => some (q37, p39.2)) fun p => some (p.1.isSome, p.2))) fun b505 => if b505.1 = true then
 (Option.bind (some false) fun x => some x)
 else
 (Option.bind (Option.bind (m_read_rows p506.1) fun z56 => some (z56, b505.2)) fun p275 =>
 (Option.bind (Option.bind (Option.bind (some (!(true))) fun a => if a = true then some true else (some ((!decide ((((p275.2, p275.1).2.length : Int)) = ((p507.1.length : Int))))))) fun x => some (x, (p275.2, p275.1))) fun b274 => if b274.1 = true then
 (Option.bind (some false) fun x => some x)
 else
 (Option.bind (Option.bind (some ((p507.1.length : Int))) fun n => prange1 n) fun xs => Option.bind (forF (fun x (s : ((Unit × (List Int)) × (List Str))) => m_law_b1 a_l_script p507.1 p506.1 l_due27 x s) xs (b274.2)) fun f => match f with
 | .nx s89 =>
 (Option.bind (Option.bind (some (("#" : Str), s89)) fun p94 => Option.bind (papp p94.2.2 p94.1) fun q95 => some ((), (p94.2.1, q95))) fun p169 =>
 (Option.bind (Option.bind (m_format_map p506.1) fun q102 => some (q102, p169.2)) fun p168 =>
 (Option.bind (Option.bind (some ((!(true)), p168.2)) fun p118 => if p118.1 = true then some (true, p118.2) else (Option.bind (some (((!decide (p168.1 = l_due27))), p118.2)) fun p117 => if p117.1 = true then some (true, p117.2) else (Option.bind (Option.bind (m_format_map p168.1) fun q113 => some (q113, p117.2)) fun p115 => Option.bind (some (l_due27, p115.2)) fun q116 => Option.bind (some ((!decide (p115.1 = q116.1)))) fun z => some (z, q116.2)))) fun b167 => if b167.1 = true then
 (Option.bind (some false) fun x => some x)
 else
 (Option.bind (Option.bind (Option.bind (Option.bind (Option.bind (m_read_rows p506.1) fun q127 => some (q127, b167.2)) fun p129 => Option.bind (some ((p129.1.length : Int))) fun z130 => some (z130, p129.2)) fun p131 => Option.bind (some (((p507.1.length : Int)), p131.2)) fun q132 => Option.bind (some ((decide (p131.1 = q132.1)))) fun z => some (z, q132.2)) fun p137 => if p137.1 = true then (Option.bind (Option.bind (m_read_rows l_due27) fun q133 => some (q133, p137.2)) fun p135 => Option.bind (some (p507.1, p135.2)) fun q136 => Option.bind (some ((decide (p135.1 = q136.1)))) fun z => some (z, q136.2)) else some (false, p137.2)) fun p146 => some p146.1))))
 | .bk _ => none
 | .rt r => some r))))))))
abbrev s_law : Stmt := top 33
theorem sc_law : FnScope ["_law_script", "_law_box", "_law_rows_here", "_law_text_here", "_law_due", "_law_actual", "_law_k", "_law_written"] ["_law_script"] (defScope s_law) := ⟨rfl, rfl, rfl, by decide +kernel, rfl, by decide +kernel, by decide +kernel⟩
abbrev sp_law (K : Fg) : Sp := spT K (He.cT K ("whole_problem", none)).2 (fun t : Scr × Unit => m_law t.1)
set_option maxHeartbeats 0 in
theorem ok_law {f : Addr} {fd : FuncData} (F : FunD K "law" "law" (defArgs s_law) (defBody s_law) (defScope s_law) [] [] f fd) (T : Tx K mg) (c_l_digits : Fc P w K mg base 2 "_law_digits" ["_law_script", "_law_first", "_law_last"] (sp_l_digits K)) (c_l_rows : Fc P w K mg base 3 "_law_rows" ["_law_box"] (sp_l_rows K)) (c_l_text : Fc P w K mg base 3 "_law_text" ["_law_box", "_law_rows_here"] (sp_l_text K)) (c_check_map : Fc P w K mg base 5 "check_map" ["text"] (sp_check_map K)) (c_format_map : Fc P w K mg base 6 "format_map" ["text"] (sp_format_map K)) (c_read_rows : Fc P w K mg base 5 "read_rows" ["text"] (sp_read_rows K)) : FnOk P w K mg base CX0 7 f fd ["_law_script"] (sp_law K) := by
  have sc := sc_law
  refine F.ok sc (fun vs H Q E h => ?_) (fun cdv A outer s H vs Q E hr h => ?_)
  · obtain ⟨W0, Bs, t, r, _, _, _, _, ⟨u0, _, rfl, hu0, hz⟩, _⟩ := h
    cases hz
    rfl
  · obtain ⟨W0, Bs, ⟨a_l_script, ⟨⟩⟩, r, ex, wx, dj, ow, ⟨u0, _, rfl, hu0, hz⟩, hm, hQ⟩ := h
    cases hz
    replace hu0 : rp K Bs u0 a_l_script := hu0
    replace hm : m_law a_l_script = some r := hm
    obtain ⟨Hs, eHs⟩ : ∃ Hs, Hs = H := ⟨_, rfl⟩
    subst eHs
    have N : Now (dom W0) Bs Hs (OwTab (He.cT K ("whole_problem", none)).2) W0 Bs Hs () := now0 ex wx dj ow
    unfold m_law at hm
    refine ⟨_, PSs.nox (pss_cons (ps_set (i := 1) sc.nd rfl (.inl rfl) (pe_lst (pa_cons (pe_fc c_l_digits hr (by decide) rfl (pa_cons (pv 0) (pa_cons pe_int (pa_cons pe_int pa_nil)))) (pa_cons pe_int pa_nil)))) (pss_cons (ps_set (i := 2) sc.nd rfl (.inl rfl) (pe_fc c_l_rows hr (by decide) rfl (pa_cons (pv 1) pa_nil))) (pss_cons (ps_set (i := 3) sc.nd rfl (.inl rfl) (pe_fc c_l_text hr (by decide) rfl (pa_cons (pv 1) (pa_cons (pv 2) pa_nil)))) (pss_cons (ps_set (i := 4) sc.nd rfl (.inl rfl) (pe_m1 PySem.F.slot_str_join PySem.F.type_str_join (mt_joinK (K := K) rfl) pe_str (pv 2))) (pss_cons (ps_if (PW.pt (pw_or (pt_cmp (pc_notN (pe_fc c_check_map hr (by decide) rfl (pa_cons (pv 3) pa_nil)))) (pw_or1 (pt_cmp (pc_notN (pe_fc c_check_map hr (by decide) rfl (pa_cons (pv 4) pa_nil))))))) (pss_one (ps_ret pe_bl)) pss_nil) (pss_cons (ps_set (i := 5) sc.nd rfl (.inl rfl) (pe_fc c_read_rows hr (by decide) rfl (pa_cons (pv 3) pa_nil))) (pss_cons (ps_if (PW.pt (pw_or (pt_not (pt_val (pe_callB (call_isiK_ (K := K) rfl) rfl T.free_isinstance boot_isinstance (pa_cons (pv 5) (pa_cons (pe_bltn (v := .ty "list") rfl T.free_list boot_list rfl) pa_nil))))) (pw_or1 (pt_cmpR op_ne (pe_callB (call_len_K (K := K) rfl) rfl T.free_len boot_len (pa_cons (pv 5) pa_nil)) (pe_callB (call_len_K (K := K) rfl) rfl T.free_len boot_len (pa_cons (pv 2) pa_nil)) (nomark _))))) (pss_one (ps_ret pe_bl)) pss_nil) (pss_cons (ps_for PassesOwn.never rfl (pi_range1 rfl T.free_range (pa_cons (pe_callB (call_len_K (K := K) rfl) rfl T.free_len boot_len (pa_cons (pv 2) pa_nil)) pa_nil)) (pg_name (i := 6) sc.nd rfl (.inl rfl)) (pss_one (ps_if (PW.pt (pw_or (pt_not (pt_val (pe_callB (call_isiK_ (K := K) rfl) rfl T.free_isinstance boot_isinstance (pa_cons (pe_ix (ix_listK (K := K) rfl) (pv 5) (pv 6) (fun _ _ => rfl)) (pa_cons (pe_bltn (v := .ty "str") rfl T.free_str boot_str rfl) pa_nil))))) (pw_or1 (pt_cmpR op_ne (pe_ix (ix_listK (K := K) rfl) (pv 5) (pv 6) (fun _ _ => rfl)) (pe_ix (ix_listK (K := K) rfl) (pv 2) (pv 6) (fun _ _ => rfl)) (nomark _))))) (pss_one (ps_ret pe_bl)) pss_nil))) (pss_cons (ps_expr (pe_bm PySem.F.plainAttrs_list PySem.F.slot_list_append PySem.F.type_list_append mt_append (pv 5) (pa_cons pe_str pa_nil))) (pss_cons (ps_set (i := 7) sc.nd rfl (.inl rfl) (pe_fc c_format_map hr (by decide) rfl (pa_cons (pv 3) pa_nil))) (pss_cons (ps_if (PW.pt (pw_or (pt_not (pt_val (pe_callB (call_isiK_ (K := K) rfl) rfl T.free_isinstance boot_isinstance (pa_cons (pv 7) (pa_cons (pe_bltn (v := .ty "str") rfl T.free_str boot_str rfl) pa_nil))))) (pw_or (pt_cmpR op_ne (pv 7) (pv 4) (nomark _)) (pw_or1 (pt_cmpR op_ne (pe_fc c_format_map hr (by decide) rfl (pa_cons (pv 7) pa_nil)) (pv 4) (nomark _)))))) (pss_one (ps_ret pe_bl)) pss_nil) (pss_one (ps_ret (pe_and (pe_cmpR op_eq (pe_callB (call_len_K (K := K) rfl) rfl T.free_len boot_len (pa_cons (pe_fc c_read_rows hr (by decide) rfl (pa_cons (pv 3) pa_nil)) pa_nil)) (pe_callB (call_len_K (K := K) rfl) rfl T.free_len boot_len (pa_cons (pv 2) pa_nil)) (nomark _)) (pe_one (pe_cmpR (op_eqPK (K := K) rfl hr.units) (pe_fc c_read_rows hr (by decide) rfl (pa_cons (pv 4) pa_nil)) (pv 2) (nomark _))))))))))))))))), ?_⟩
    refine sq ?_
    refine st_boxB (K := K) hm N (cp_call0 (ca_cons0 (cp_var rfl hu0) (ca_cons0 cp_int (ca_cons0 cp_int ca_nil0)))) (by first | rfl | simp only [o2, Option.bind_assoc, Option.bind_some]) fun ds1 pb2 W3 B4 H5 hm N eb6 fp7 => ?_
    replace hu0 := Rp.mono eb6 hu0
    refine gnx ?_
    refine sq ?_
    refine st_asgS (K := K) hm N (cs_callM ln_r rfl csa_nil) (by first | rfl | simp only [o2, Option.bind_assoc, Option.bind_some]) fun l_rows_here9 s10 v11 W12 B13 H14 hm N eb15 h16 => ?_
    try dsimp only at hm
    replace hu0 := Rp.mono eb15 hu0
    refine gnx ?_
    refine sq ?_
    refine st_asgS (K := K) hm N (cs_callM ln_r rfl (csa_cons (Cp.s (cp_var rfl h16)) csa_nil)) (by first | rfl | simp only [o2, Option.bind_assoc, Option.bind_some]) fun l_text_here19 s20 v21 W22 B23 H24 hm N eb25 h26 => ?_
    try dsimp only at hm
    replace hu0 := Rp.mono eb25 hu0
    replace h16 := Rp.mono eb25 h16
    refine gnx ?_
    refine sq ?_
    refine st_asg (K := K) hm N.ex (cp_m1 r2_join cp_str (cp_var rfl h16)) (by first | rfl | simp only [o2, Option.bind_assoc, Option.bind_some]) fun l_due27 v28 B29 H30 _ hm g31 h32 => ?_
    replace N := N.pure g31
    replace hu0 := Rp.mono g31.b hu0
    replace h16 := Rp.mono g31.b h16
    replace h26 := Rp.mono g31.b h26
    refine gnx ?_
    refine sq ?_
    refine st_ifS hm N (cst_or (cst_B (cs_notN (cs_callT ln_l (fun _ _ => rfl) (csa_cons (Cp.s (cp_var rfl h26)) csa_nil)))) (cst_B (cs_notN (cs_callT ln_l (fun _ _ => rfl) (csa_cons (Cp.s (cp_var rfl h32)) csa_nil))))) (by first | rfl | simp only [o2, Option.bind_assoc, Option.bind_some]) (fun s40 W41 B42 H43 hc44 hm N eb45 => ?_) (fun s40 W41 B42 H43 hc44 hm N eb45 => ?_)
    · try dsimp only at hm
      replace hu0 := Rp.mono eb45 hu0
      replace h16 := Rp.mono eb45 h16
      replace h26 := Rp.mono eb45 h26
      replace h32 := Rp.mono eb45 h32
      obtain ⟨W46, N⟩ := N.drop
      refine st_retF (K := K) (m' := (some false)) hm N.ex cp_bl rfl fun x v B1 H1 hm g hv => ?_
      cases hm
      replace N := N.pure g
      exact hQ _ _ _ _ N.sw N.p hv
    · try dsimp only at hm
      replace hu0 := Rp.mono eb45 hu0
      replace h16 := Rp.mono eb45 h16
      replace h26 := Rp.mono eb45 h26
      replace h32 := Rp.mono eb45 h32
      refine nxt ?_
      refine gnx ?_
      refine sq ?_
      refine st_callTR (K := K) ln_l (fun _ _ => rfl) hm N (csa_cons (Cp.s (cp_var rfl h26)) csa_nil) (by first | rfl | simp only [o2, Option.bind_assoc, Option.bind_some]) fun l_actual47 s48 v49 W50 B51 H52 hm N eb53 => ?_
      try dsimp only at hm
      replace hu0 := Rp.mono eb53 hu0
      replace h16 := Rp.mono eb53 h16
      replace h26 := Rp.mono eb53 h26
      replace h32 := Rp.mono eb53 h32
      replace N := N.ref
      obtain ⟨pr54, hv57, N⟩ := N
      subst hv57
      refine gnx ?_
      refine sq ?_
      refine st_ifS hm N (cst_view fun W1 B1 s e1 d1 hP => (ct_or (ct_not (ct_B (cp_isi isi_list (cp_var rfl (ol_rp ln_r hP d1))))) (ct_test (cp_op r2_ne (cp_cb rc_lenL (ca_cons (cp_var rfl (ol_rp ln_r hP d1)) ca_nil)) (cp_cb rc_lenL (ca_cons (cp_var rfl (Rp.mono (e1.trans (ex_uni_r d1)) h16)) ca_nil)))))) (by first | rfl | simp only [o2, Option.bind_assoc, Option.bind_some]) (fun s58 W59 B60 H61 hc62 hm N eb63 => ?_) (fun s58 W59 B60 H61 hc62 hm N eb63 => ?_)
      · try dsimp only at hm
        replace hu0 := Rp.mono eb63 hu0
        replace h16 := Rp.mono eb63 h16
        replace h26 := Rp.mono eb63 h26
        replace h32 := Rp.mono eb63 h32
        obtain ⟨W64, N⟩ := N.drop
        obtain ⟨W65, N⟩ := N.drop
        refine st_retF (K := K) (m' := (some false)) hm N.ex cp_bl rfl fun x v B1 H1 hm g hv => ?_
        cases hm
        replace N := N.pure g
        exact hQ _ _ _ _ N.sw N.p hv
      · try dsimp only at hm
        replace hu0 := Rp.mono eb63 hu0
        replace h16 := Rp.mono eb63 h16
        replace h26 := Rp.mono eb63 h26
        replace h32 := Rp.mono eb63 h32
        refine nxt ?_
        refine gnx ?_
        refine sq ?_
        refine st_forF_r1 (K := K) (fun Be (s : ((Unit × (List Int)) × (List Str))) B σ H => ∃ (W : Hp) (o6 : Option V) (o7 : Option V), Now (dom W0) Bs Hs (star (star (OwTab (He.cT K ("whole_problem", none)).2) (OwBox K pb2)) (OwL (α := Str) K pr54)) W B H s ∧ Ex B60 B ∧ Ex Be B ∧ σ = [some u0, some (.ref pb2), some v11, some v21, some v28, some (.ref pr54), o6, o7]) hm N.ex (ca_cons (cp_cb rc_lenL (ca_cons (cp_var rfl h16) ca_nil)) ca_nil) (by first | rfl | simp only [o2, Option.bind_assoc, Option.bind_some]) (fun Be H1 g => ⟨_, _, _, N.pure g, g.b, Ex.refl _, rfl⟩) ?_ ?_
        · rintro Be x66 s67 B69 σ H70 v71 c72 N73 ⟨W68, _, _, N, eb78, ee79, rfl⟩ hv74 hm hn75 hk76 ht77
          unfold m_law_b1 at hm
          replace hu0 := Rp.mono eb78 hu0
          replace h16 := Rp.mono eb78 h16
          replace h26 := Rp.mono eb78 h26
          replace h32 := Rp.mono eb78 h32
          refine gnm ?_
          refine st_ifS hm N (cst_view fun W1 B1 s e1 d1 hP => (ct_or (ct_not (ct_B (cp_isi isi_str (cp_op r2_ixL (cp_var rfl (ol_rp ln_r hP d1)) (cp_var rfl (Rp.mono (e1.trans (ex_uni_r d1)) hv74)))))) (ct_test (cp_op r2_ne (cp_op r2_ixL (cp_var rfl (ol_rp ln_r hP d1)) (cp_var rfl (Rp.mono (e1.trans (ex_uni_r d1)) hv74))) (cp_op r2_ixL (cp_var rfl (Rp.mono (e1.trans (ex_uni_r d1)) h16)) (cp_var rfl (Rp.mono (e1.trans (ex_uni_r d1)) hv74))))))) (by first | rfl | simp only [o2, Option.bind_assoc, Option.bind_some]) (fun s80 W81 B82 H83 hc84 hm N eb85 => ?_) (fun s80 W81 B82 H83 hc84 hm N eb85 => ?_)
          · try dsimp only at hm
            replace eb78 := eb78.trans eb85
            replace ee79 := ee79.trans eb85
            replace hu0 := Rp.mono eb85 hu0
            replace h16 := Rp.mono eb85 h16
            replace h26 := Rp.mono eb85 h26
            replace h32 := Rp.mono eb85 h32
            replace hv74 := Rp.mono eb85 hv74
            obtain ⟨W86, N⟩ := N.drop
            obtain ⟨W87, N⟩ := N.drop
            refine st_retF (K := K) (m' := (some false)) hm N.ex cp_bl rfl fun x v B1 H1 hm g hv => ?_
            cases hm
            have hm := ht77 _ rfl
            cases hm
            replace N := N.pure g
            exact hQ _ _ _ _ N.sw N.p hv
          · try dsimp only at hm
            replace eb78 := eb78.trans eb85
            replace ee79 := ee79.trans eb85
            replace hu0 := Rp.mono eb85 hu0
            replace h16 := Rp.mono eb85 h16
            replace h26 := Rp.mono eb85 h26
            replace h32 := Rp.mono eb85 h32
            replace hv74 := Rp.mono eb85 hv74
            refine nxt ?_
            cases hm
            exact hn75 _ _ _ _ rfl ⟨_, _, _, N, eb78, ee79, rfl⟩
        · rintro Be s89 B91 σ H92 hm ⟨W90, _, _, N, eb93, _, rfl⟩
          replace hu0 := Rp.mono eb93 hu0
          replace h16 := Rp.mono eb93 h16
          replace h26 := Rp.mono eb93 h26
          replace h32 := Rp.mono eb93 h32
          refine gnx ?_
          refine sq ?_
          refine st_dropS (K := K) hm N (cs_append ln_r rfl (Cp.s cp_str)) (by first | rfl | simp only [o2, Option.bind_assoc, Option.bind_some]) fun _ s96 W97 B98 H99 hm N eb100 => ?_
          try dsimp only at hm
          replace hu0 := Rp.mono eb100 hu0
          replace h16 := Rp.mono eb100 h16
          replace h26 := Rp.mono eb100 h26
          replace h32 := Rp.mono eb100 h32
          refine gnx ?_
          refine sq ?_
          refine st_asgS (K := K) hm N (cs_callT (ln_l.comp ln_l) (fun _ _ => rfl) (csa_cons (Cp.s (cp_var rfl h26)) csa_nil)) (by first | rfl | simp only [o2, Option.bind_assoc, Option.bind_some]) fun l_written104 s105 v106 W107 B108 H109 hm N eb110 h111 => ?_
          try dsimp only at hm
          replace hu0 := Rp.mono eb110 hu0
          replace h16 := Rp.mono eb110 h16
          replace h26 := Rp.mono eb110 h26
          replace h32 := Rp.mono eb110 h32
          refine gnx ?_
          refine sq ?_
          refine st_ifS hm N (cst_or (Ct.s (ct_not (ct_B (cp_isi isi_str (cp_var rfl h111))))) (cst_or (Ct.s (ct_test (cp_op r2_ne (cp_var rfl h111) (cp_var rfl h32)))) (cst_test (cs_op r2_ne (cs_callT (ln_l.comp ln_l) (fun _ _ => rfl) (csa_cons (Cp.s (cp_var rfl h111)) csa_nil)) (Cp.s (cp_var rfl h32)))))) (by first | rfl | simp only [o2, Option.bind_assoc, Option.bind_some]) (fun s119 W120 B121 H122 hc123 hm N eb124 => ?_) (fun s119 W120 B121 H122 hc123 hm N eb124 => ?_)
          · try dsimp only at hm
            replace hu0 := Rp.mono eb124 hu0
            replace h16 := Rp.mono eb124 h16
            replace h26 := Rp.mono eb124 h26
            replace h32 := Rp.mono eb124 h32
            replace h111 := Rp.mono eb124 h111
            obtain ⟨W125, N⟩ := N.drop
            obtain ⟨W126, N⟩ := N.drop
            refine st_retF (K := K) (m' := (some false)) hm N.ex cp_bl rfl fun x v B1 H1 hm g hv => ?_
            cases hm
            replace N := N.pure g
            exact hQ _ _ _ _ N.sw N.p hv
          · try dsimp only at hm
            replace hu0 := Rp.mono eb124 hu0
            replace h16 := Rp.mono eb124 h16
            replace h26 := Rp.mono eb124 h26
            replace h32 := Rp.mono eb124 h32
            replace h111 := Rp.mono eb124 h111
            refine nxt ?_
            refine gnx ?_
            refine st_retS (K := K) hm N (cs_andV (cs_op r2_eq (cs_cb rc_lenL (csa_cons (cs_callTRz (ln_l.comp ln_l) (fun _ _ => rfl) (csa_cons (Cp.s (cp_var rfl h26)) csa_nil)) csa_nil)) (Cp.s (cp_cb rc_lenL (ca_cons (cp_var rfl h16) ca_nil)))) (cs_op (r2_eqD (by decide)) (cs_callTRz (ln_l.comp ln_l) (fun _ _ => rfl) (csa_cons (Cp.s (cp_var rfl h32)) csa_nil)) (Cp.s (cp_var rfl h16)))) (by first | rfl | simp only [o2, Option.bind_assoc, Option.bind_some]) fun x138 s139 v140 W141 B142 H143 hm N eb144 h145 => ?_
            obtain ⟨_, N⟩ := N.drop
            obtain ⟨_, N⟩ := N.drop
            cases hm
            exact hQ _ _ _ _ N.sw N.p h145
end
end Cw

set_option linter.all false
set_option maxRecDepth 100000
set_option maxHeartbeats 1000000
namespace Cw
open PySem L2 Cf PySem.Spec PyProof.Rows
theorem forN_idx {α S : Type} {b : α → S → Option S} (I : Nat → S → Prop) (n : Nat) : ∀ (xs : List α) (i : Nat) (s : S), i + xs.length = n → I i s → (∀ x ∈ xs, ∀ i s, i < n → I i s → ∃ s', b x s = some s' ∧ I (i + 1) s') → ∃ s', forN b xs s = some s' ∧ I n s'
  | [], i, s, hn, h, _ => ⟨s, rfl, by subst hn; exact h⟩
  | x :: xs, i, s, hn, h, hb => by
    rw [List.length_cons] at hn
    obtain ⟨s', e, h'⟩ := hb x List.mem_cons_self i s (by omega) h
    obtain ⟨s2, e2, h2⟩ := forN_idx I n xs (i + 1) s' (by omega) h' fun y hy => hb y (List.mem_cons_of_mem _ hy)
    exact ⟨s2, by rw [forN_cons, e]; exact e2, h2⟩
theorem forF_idx {α S R : Type} {b : α → S → Option (Fl S R)} (I : Nat → S → Prop) (n : Nat) : ∀ (xs : List α) (i : Nat) (s : S), i + xs.length = n → I i s → (∀ x ∈ xs, ∀ i s, i < n → I i s → ∃ s', b x s = some (.nx s') ∧ I (i + 1) s') → ∃ s', forF b xs s = some (.nx s') ∧ I n s'
  | [], i, s, hn, h, _ => ⟨s, rfl, by subst hn; exact h⟩
  | x :: xs, i, s, hn, h, hb => by
    rw [List.length_cons] at hn
    obtain ⟨s', e, h'⟩ := hb x List.mem_cons_self i s (by omega) h
    obtain ⟨s2, e2, h2⟩ := forF_idx I n xs (i + 1) s' (by omega) h' fun y hy => hb y (List.mem_cons_of_mem _ hy)
    exact ⟨s2, by rw [forF_cons, e]; exact e2, h2⟩
theorem draw_some {ds : List Int} {n : Int} (h : 0 < n) : ∃ x ds', draw ds (n, ()) = some (x, ds') ∧ 0 ≤ x ∧ x < n := by
  cases ds with
  | nil => exact ⟨0, [], rfl, Int.le_refl _, h⟩
  | cons d ds => exact ⟨d % n, ds, by show ((pmod d n).bind fun x => some (x, ds)) = _; rw [pmod_some h]; rfl, Int.emod_nonneg _ (by omega), Int.emod_lt_of_pos _ h⟩
theorem papp_some {α : Type} {xs : List α} {x : α} (h : xs.length < 1000000) : papp xs x = some (xs ++ [x]) := if_pos h
theorem cell_some (ns : List Int) {k : Int} (hk : 0 ≤ k) : ∃ z, m_l_cell ⟨ns⟩ k = some z := by
  unfold m_l_cell
  show ∃ z, (if decide (k < (ns.length : Int)) = true then at? ns k else some 0) = some z
  by_cases h : k < (ns.length : Int)
  · rw [if_pos (decide_eq_true h), at_nat hk]
    exact ⟨ns[k.toNat]'(by omega), List.getElem?_eq_getElem (by omega)⟩
  · rw [if_neg (by simpa using h)]
    exact ⟨0, rfl⟩
theorem dig_b3 (S : Scr) (a l k c t : Int) (st : Unit × List Int) (s : Int) (h : st.2.length < 1000000) : ∃ x y, m_l_digits_b3 S a l k c t st s = some (((), st.2 ++ [x]), y) := by
  unfold m_l_digits_b3
  rw [pmul_r (by decide) (by decide), pmul_l (by decide) (by decide)]
  simp only [o2, Option.bind_some]
  rw [pmod_some (by decide), Option.bind_some, pdiv_some (by decide) (by decide)]
  simp only [Option.bind_some]
  rw [pmod_some (by decide), Option.bind_some]
  simp only [Option.bind_some]
  rw [papp_some h]
  exact ⟨_, _, rfl⟩
theorem dig_b2 (S : Scr) (a l k t : Int) (st : Unit × List Int) (c : Int) (h : st.2.length < 1000000) : ∃ s', m_l_digits_b2 S a l k t st c = some s' ∧ s'.1.2.length ≤ st.2.length + 1 := by
  unfold m_l_digits_b2
  rw [Option.bind_some]
  by_cases hc : c > 0
  · rw [if_pos (decide_eq_true hc), pmod_some (by decide)]
    simp only [Option.bind_some]
    rw [papp_some h, pdiv_some (by decide) (by decide)]
    exact ⟨_, rfl, by simp⟩
  · rw [if_neg (by simpa using hc)]
    exact ⟨_, rfl, Nat.le_succ _⟩
theorem dig_b1 (ns : List Int) (a l k : Int) (hk : 0 ≤ k) (st : Unit × List Int) (h : st.2.length < 900000) : ∃ s', m_l_digits_b1 ⟨ns⟩ a l k st = some s' ∧ s'.2.length ≤ st.2.length + 60 := by
  unfold m_l_digits_b1
  obtain ⟨c, hc⟩ := cell_some ns hk
  rw [hc, Option.bind_some]
  obtain ⟨c', e⟩ : ∃ c', (Option.bind (some (decide (c < (0 : Int)))) fun b => if b = true then (Option.bind (o2 (some (1 : Int)) (pmul (2 : Int) c) fun x y => some (x - y)) fun d => (some (st, d))) else (some (st, c))) = some (st, c') := by
    rw [Option.bind_some, pmul_l (by decide) (by decide)]
    by_cases h0 : c < 0
    · rw [if_pos (decide_eq_true h0)]
      exact ⟨_, rfl⟩
    · rw [if_neg (by simpa using h0)]
      exact ⟨_, rfl⟩
  rw [e, Option.bind_some]
  have hp : ppow 10 18 = some 1000000000000000000 := by decide +kernel
  rw [hp]
  simp only [o2, Option.bind_some]
  by_cases hb : c' ≥ 1000000000000000000
  · rw [if_pos (decide_eq_true hb)]
    obtain ⟨s', e1, h1⟩ := forN_idx (b := fun x (s : (Unit × List Int) × Int) => m_l_digits_b2 ⟨ns⟩ a l k x s.1 s.2) (fun i s => s.1.2.length ≤ st.2.length + i) 60 (rangeL 0 60) 0 (st, c') rfl (Nat.le_refl _) (fun x _ i s hi hI => by
      obtain ⟨s', e, hs⟩ := dig_b2 ⟨ns⟩ a l k x s.1 s.2 (by omega)
      exact ⟨s', e, by omega⟩)
    refine ⟨s'.1, ?_, h1⟩
    show (forN _ (rangeL 0 60) (st, c')).bind _ = _
    rw [e1]
    rfl
  · rw [if_neg (by simpa using hb), pmul_r (by decide) (by decide), pmul_r (by decide) (by decide)]
    simp only [Option.bind_some]
    rw [pmod_some (by decide)]
    obtain ⟨s', e1, h1⟩ := forN_idx (b := fun x (s : (Unit × List Int) × Int) => m_l_digits_b3 ⟨ns⟩ a l k c' x s.1 s.2) (fun i s => s.1.2.length ≤ st.2.length + i) 12 (rangeL 0 12) 0 (st, (c' * 48271 + k * 69621 + 11) % 2147483647) rfl (Nat.le_refl _) (fun x _ i s hi hI => by
      obtain ⟨x', y', e⟩ := dig_b3 ⟨ns⟩ a l k c' x s.1 s.2 (by omega)
      exact ⟨_, e, by simp; omega⟩)
    refine ⟨s'.1, ?_, by omega⟩
    show (forN _ (rangeL 0 12) (st, (c' * 48271 + k * 69621 + 11) % 2147483647)).bind _ = _
    rw [e1]
    rfl
theorem digits_some (ns : List Int) {a l : Int} (h0 : 0 ≤ a) (h1 : a ≤ l) (h2 : l ≤ 1000) : ∃ ds, m_l_digits ⟨ns⟩ a l = some ds := by
  unfold m_l_digits
  simp only [Option.bind_some]
  unfold prange2
  rw [if_pos (by omega)]
  obtain ⟨s', e1, h1⟩ := forN_idx (b := fun x (s : Unit × List Int) => m_l_digits_b1 ⟨ns⟩ a l x s) (fun i s => s.2.length ≤ 60 * i) (rangeL a l).length (rangeL a l) 0 ((), []) (Nat.zero_add _) (Nat.le_refl _) (fun x hx i s hi hI => by
    have hl := rangeL_len a l
    obtain ⟨s', e, hs⟩ := dig_b1 ns a l x (by have := mem_rangeL.mp hx; omega) s (by omega)
    exact ⟨s', e, by omega⟩)
  exact ⟨s'.2, by rw [Option.bind_some, e1]; rfl⟩
theorem inS_c (c : Nat) (z : Str) : inS ⟨#[c]⟩ z = some (decide (c ∈ z.cps.toList)) := rfl
theorem sgns_mem {z t : Str} (h : t ∈ sgns z) : ∃ c ∈ z.cps.toList, t = ⟨#[c]⟩ := by
  obtain ⟨c, hc, e⟩ := List.mem_map.mp h
  exact ⟨c, hc, e.symm⟩
theorem forN_fold {α S : Type} {b : α → S → Option S} {g : S → α → S} (I : Nat → S → Prop) (n : Nat) : ∀ (xs : List α) (i : Nat) (s : S), i + xs.length = n → I i s → (∀ x ∈ xs, ∀ i s, i < n → I i s → b x s = some (g s x) ∧ I (i + 1) (g s x)) → forN b xs s = some (xs.foldl g s)
  | [], _, _, _, _, _ => rfl
  | x :: xs, i, s, hn, h, hb => by
    rw [List.length_cons] at hn
    obtain ⟨e, h'⟩ := hb x List.mem_cons_self i s (by omega) h
    rw [forN_cons, e]
    exact forN_fold I n xs (i + 1) (g s x) (by omega) h' fun y hy => hb y (List.mem_cons_of_mem _ hy)
theorem fold_filter {α U : Type} (c : α → Bool) (u : U) : ∀ (xs acc : List α), xs.foldl (fun (s : U × List α) x => if c x = true then (s.1, s.2 ++ [x]) else s) (u, acc) = (u, acc ++ xs.filter c)
  | [], acc => by rw [List.filter_nil, List.append_nil]; rfl
  | x :: xs, acc => by
    rw [List.foldl_cons]
    by_cases h : c x = true
    · rw [if_pos h, fold_filter c u xs (acc ++ [x]), List.filter_cons_of_pos h, List.append_assoc]
      rfl
    · rw [if_neg h, fold_filter c u xs acc, List.filter_cons_of_neg h]
theorem fold_map {α β U : Type} (f : α → β) (u : U) : ∀ (xs : List α) (acc : List β), xs.foldl (fun (s : U × List β) x => (s.1, s.2 ++ [f x])) (u, acc) = (u, acc ++ xs.map f)
  | [], acc => by rw [List.map_nil, List.append_nil]; rfl
  | x :: xs, acc => by
    rw [List.foldl_cons, List.map_cons]
    show xs.foldl _ (u, acc ++ [f x]) = _
    rw [fold_map f u xs (acc ++ [f x]), List.append_assoc]
    rfl
theorem lcF_all {α β : Type} {t : α → Option Bool} {f : α → Option β} {c : α → Bool} {g : α → β} : ∀ {xs : List α}, (∀ x ∈ xs, t x = some (c x)) → (∀ x ∈ xs, c x = true → f x = some (g x)) → lcF t f xs = some ((xs.filter c).map g)
  | [], _, _ => rfl
  | x :: xs, ht, hf => by
    have ih := lcF_all (t := t) (f := f) (c := c) (g := g) (xs := xs) (fun y hy => ht y (List.mem_cons_of_mem _ hy)) (fun y hy => hf y (List.mem_cons_of_mem _ hy))
    show ((t x).bind fun b => if b = true then (f x).bind fun y => (lcF t f xs).bind fun ys => some (y :: ys) else lcF t f xs) = _
    rw [ht x List.mem_cons_self, Option.bind_some]
    by_cases h : c x = true
    · rw [if_pos h, hf x List.mem_cons_self h, ih, List.filter_cons_of_pos h]
      rfl
    · rw [if_neg h, ih, List.filter_cons_of_neg h]
theorem prange1_some {n : Int} (h : -1000000 ≤ n) (h2 : n ≤ 1000000) : prange1 n = some (rangeL 0 n) := if_pos (by omega)
theorem pbig_some {α : Type} {xs : List α} (h : xs.length < 1000000) : pbig xs = some xs := if_pos h
theorem plst_some {α : Type} {xs : List α} (h : xs.length < 1000000) : plst xs = some xs := if_pos h
theorem rangeL0 (n : Nat) : (rangeL 0 (n : Int)).length = n := by rw [rangeL_len]; omega
theorem at_lt {α : Type} {xs : List α} {i : Int} (h0 : 0 ≤ i) (h1 : i < (xs.length : Int)) : ∃ x, at? xs i = some x ∧ x ∈ xs := by
  rw [at_nat h0]
  exact ⟨xs[i.toNat]'(by omega), List.getElem?_eq_getElem (by omega), List.getElem_mem _⟩
theorem at_mem {α : Type} {xs : List α} {i : Int} {x : α} (h0 : 0 ≤ i) (h : at? xs i = some x) : x ∈ xs ∧ i < (xs.length : Int) := by
  rw [at_nat h0] at h
  obtain ⟨h1, h2⟩ := List.getElem?_eq_some_iff.mp h
  exact ⟨h2 ▸ List.getElem_mem _, by omega⟩
theorem rangeL_succ (n : Nat) : rangeL 0 ((n + 1 : Nat) : Int) = rangeL 0 (n : Int) ++ [(n : Int)] := by
  unfold rangeL
  rw [show (((n + 1 : Nat) : Int) - 0).toNat = n + 1 by omega, show (((n : Nat) : Int) - 0).toNat = n by omega, List.range_succ, List.map_append, List.map_singleton, Int.zero_add]
theorem forN_app {α S : Type} {b : α → S → Option S} : ∀ (xs ys : List α) (s : S), forN b (xs ++ ys) s = (forN b xs s).bind fun s' => forN b ys s'
  | [], ys, s => rfl
  | x :: xs, ys, s => by
    rw [List.cons_append, forN_cons, forN_cons]
    cases b x s with
    | none => rfl
    | some s' => exact forN_app xs ys s'
theorem forN_rng {S : Type} {b : Int → S → Option S} (I : Nat → S → Prop) {s : S} (h0 : I 0 s) : ∀ (n : Nat), (∀ i s, i < n → I i s → ∃ s', b (i : Int) s = some s' ∧ I (i + 1) s') → ∃ s', forN b (rangeL 0 (n : Int)) s = some s' ∧ I n s'
  | 0, _ => ⟨s, rfl, h0⟩
  | n + 1, hb => by
    obtain ⟨s1, e1, h1⟩ := forN_rng I h0 n fun i s hi => hb i s (Nat.lt_succ_of_lt hi)
    obtain ⟨s2, e2, h2⟩ := hb n s1 (Nat.lt_succ_self n) h1
    refine ⟨s2, ?_, h2⟩
    rw [rangeL_succ, forN_app, e1, Option.bind_some, forN_cons, e2]
    rfl
theorem hash_eq (c : Nat) : ((⟨#[c]⟩ : Str) = "#") ↔ c = 35 := by
  have h : ("#" : Str) = ⟨#[35]⟩ := by decide +kernel
  rw [h]
  constructor
  · intro e
    have := congrArg (fun x : Str => x.cps.toList) e
    exact List.head_eq_of_cons_eq this
  · rintro rfl
    rfl
theorem at_nat' {α : Type} {xs : List α} {i : Nat} : at? xs (i : Int) = xs[i]? := by
  rw [at_nat (Int.natCast_nonneg i), Int.toNat_natCast]
theorem atS_nat {z : Str} {i : Nat} (hz : z.length ≤ 1000) : atS? z (i : Int) = (z.cps.toList[i]?).bind fun c => some ⟨#[c]⟩ := by
  unfold atS?
  rw [if_pos (Nat.le_trans hz (by decide)), Option.bind_some, at_nat']
/-! a map's text, read sign by sign -/
def Tl : List Nat := [35, 46, 43, 65, 66, 67, 97, 98, 99]
def stn (c : Nat) : Option Int := if c = 65 ∨ c = 97 then some 0 else if c = 66 ∨ c = 98 then some 1 else if c = 67 ∨ c = 99 then some 2 else none
def tlB (c : Nat) : Bool := decide (m_is_tile ⟨#[c]⟩ = some true) && decide (m_station_of ⟨#[c]⟩ = some (stn c)) && decide (m_is_cell ⟨#[c]⟩ = some (!decide (c = 35))) && !decide ((⟨#[c]⟩ : Str) = "\n") && !decide ((⟨#[c]⟩ : Str) = " ") && !decide ((⟨#[c]⟩ : Str) = "\t") &&
  decide (m_is_door ⟨#[c]⟩ = some (decide (c = 43 ∨ c = 97 ∨ c = 98 ∨ c = 99))) && (([c] == ("+" : Str).cps.toList || decide (c ∈ ("abcdefghijklmnopqrstuvwxyz" : Str).cps.toList)) == decide (c = 43 ∨ c = 97 ∨ c = 98 ∨ c = 99))
theorem tlB_all : (Tl.all tlB) = true := by decide +kernel
structure TlF (c : Nat) : Prop where
  tile : m_is_tile ⟨#[c]⟩ = some true
  stn : m_station_of ⟨#[c]⟩ = some (stn c)
  cell : m_is_cell ⟨#[c]⟩ = some (!decide (c = 35))
  nl : ((⟨#[c]⟩ : Str) = "\n") = False
  sp : ((⟨#[c]⟩ : Str) = " ") = False
  tb : ((⟨#[c]⟩ : Str) = "\t") = False
  door : m_is_door ⟨#[c]⟩ = some (decide (c = 43 ∨ c = 97 ∨ c = 98 ∨ c = 99))
  dr : ([c] == ("+" : Str).cps.toList || decide (c ∈ ("abcdefghijklmnopqrstuvwxyz" : Str).cps.toList)) = decide (c = 43 ∨ c = 97 ∨ c = 98 ∨ c = 99)
theorem tlF {c : Nat} (h : c ∈ Tl) : TlF c := by
  have := List.all_eq_true.mp tlB_all c h
  unfold tlB at this
  simp only [Bool.and_eq_true, decide_eq_true_eq, Bool.not_eq_true', decide_eq_false_iff_not] at this
  obtain ⟨⟨⟨⟨⟨⟨⟨h1, h2⟩, h3⟩, h4⟩, h5⟩, h6⟩, h7⟩, h8⟩ := this
  exact ⟨h1, h2, h3, eq_false h4, eq_false h5, eq_false h6, h7, eq_of_beq h8⟩
theorem stn_lt {c : Nat} {k : Int} (h : stn c = some k) : 0 ≤ k ∧ k < 3 := by
  unfold stn at h
  split at h
  · cases h; omega
  split at h
  · cases h; omega
  split at h
  · cases h; omega
  · cases h
/-- rows of one length -/
def Sm (w : Nat) (rs : List Str) : Prop := ∀ r ∈ rs, r.length = w
theorem plenS_some {x : Str} (h : x.length ≤ 1000) : plenS x = some (x.length : Int) := if_pos (Nat.le_trans h (by decide))
theorem nil_iff {r : Str} : r = "" ↔ r.length = 0 := ⟨fun h => by rw [h]; decide +kernel, fun h => by
  obtain ⟨⟨l⟩⟩ := r
  have : l.length = 0 := h
  rw [List.length_eq_zero_iff] at this
  subst this
  rfl⟩
theorem row_problem_ok {w : Nat} {rs : List Str} {r : Str} (hw : w ≤ 100) (hs : Sm w rs) (hr : r = "" ∨ r.length = w) : m_row_problem rs r = some ("" : Str) := by
  refine Ok.eq ?_
  unfold m_row_problem
  simp only [o2, Option.bind_some, ok_bind, ok_some, ok_if]
  have hl : r.length ≤ 100 := by
    rcases hr with h | h
    · rw [nil_iff.mp h]; omega
    · omega
  by_cases h0 : r = ""
  · rw [decide_eq_true h0]
    exact ⟨fun _ => ⟨fun _ => trivial, (fun z => nomatch z)⟩, (fun z => nomatch z)⟩
  · rw [decide_eq_false h0]
    refine ⟨(fun z => nomatch z), fun _ => ?_⟩
    cases rs with
    | nil => exact ⟨fun _ => ⟨fun _ => trivial, (fun z => nomatch z)⟩, (fun z => nomatch z)⟩
    | cons a rs =>
      refine ⟨(fun z => nomatch z), fun _ => ?_⟩
      have ha := hs a List.mem_cons_self
      rw [ok_eq (plenS_some (by omega : r.length ≤ 1000)), show (0 : Int) = ((0 : Nat) : Int) from rfl, ok_at (show (a :: rs)[0]? = some a from rfl), ok_eq (plenS_some (by omega : a.length ≤ 1000))]
      rcases hr with h | h
      · exact absurd h h0
      · rw [decide_eq_true (by rw [h, ha])]
        exact ⟨fun _ => trivial, (fun z => nomatch z)⟩
theorem tile_problem_ok {w : Nat} {rs : List Str} {r : Str} {c : Nat} {n : Int} (hc : c ∈ Tl) (hw : w ≤ 10) (hs : Sm w rs) (hl : rs.length ≤ 10) (hr : r.length < w) (hn : n < 120) : m_tile_problem rs r ⟨#[c]⟩ n = some ("" : Str) := by
  have F := tlF hc
  have e1 := plenS_some (by omega : r.length ≤ 1000)
  have c1 : (Option.bind (m_is_tile ⟨#[c]⟩) fun x => some (!x)) = some false := by rw [F.tile]; rfl
  have c2 : (some ((decide (((rs.length : Int)) ≥ (16 : Int))))) = some false := by rw [decide_eq_false (by omega)]
  have c3 : (Option.bind (some (!rs.isEmpty)) fun a => if a = true then (o2 (plenS r) (Option.bind (o2 (at? rs (0 : Int)) (some ()) fun x y => some (x, y)) fun t => plenS t.1) fun x y => some ((decide (x ≥ y)))) else some false) = some false := by
    cases rs with
    | nil => rfl
    | cons a rs =>
      have ha := hs a List.mem_cons_self
      have h0 : at? (a :: rs) (0 : Int) = some a := rfl
      rw [h0, e1]
      simp only [List.isEmpty_cons, o2, Option.bind_some, decide_true, decide_false, Bool.not_true, Bool.not_false, Bool.false_eq_true, Bool.true_eq_false, if_false, if_true, ite_true, ite_false, Bool.true_or, Bool.or_false, Bool.false_or, eq_self_iff_true, reduceCtorEq]
      rw [plenS_some (by omega : a.length ≤ 1000), Option.bind_some, decide_eq_false (by omega)]
  have c4 : (o2 (plenS r) (some (16 : Int)) fun x y => some ((decide (x ≥ y)))) = some false := by
    rw [e1]
    show some (decide _) = _
    rw [decide_eq_false (by omega)]
  have c5 : (Option.bind (some ((stn c).isSome)) fun a => if a = true then (o2 (stn c) (some (8 : Int)) fun x y => some ((decide (x ≥ y)))) else some false) = some false := by
    cases hk : stn c with
    | none => rfl
    | some k =>
      have := stn_lt hk
      show some (decide (k ≥ 8)) = _
      rw [decide_eq_false (by omega)]
  have c6 : (Option.bind (m_is_cell ⟨#[c]⟩) fun a => if a = true then (some ((decide (n ≥ (120 : Int))))) else some false) = some false := by
    rw [F.cell, Option.bind_some]
    cases (!decide (c = 35)) with
    | false => rfl
    | true => rw [if_pos rfl, decide_eq_false (by omega)]
  unfold m_tile_problem
  rw [c1, Option.bind_some, if_neg Bool.false_ne_true, c2, Option.bind_some, if_neg Bool.false_ne_true, c3, Option.bind_some, if_neg Bool.false_ne_true, c4, Option.bind_some, if_neg Bool.false_ne_true, F.stn, Option.bind_some, c5, Option.bind_some, if_neg Bool.false_ne_true, c6, Option.bind_some, if_neg Bool.false_ne_true]
/-- the state of the reading: whole rows, the row under way -/
abbrev ScS := (Unit × (List Str)) × Str × Int × Int × Int
def scB (text x : Str) (s : ScS) := m_scan_b1 text x s.1 s.2.1 s.2.2.1 s.2.2.2.1 s.2.2.2.2
structure Sc (rs : List Str) (row : Str) (s : ScS) : Prop where
  r : s.1.2 = rs
  w : s.2.1 = row
  c : s.2.2.2.2 ≤ (((rs.map (·.length)).sum + row.length : Nat) : Int)
theorem sc_nl {text : Str} {w : Nat} {rs : List Str} {row : Str} {s : ScS} (h : Sc rs row s) (hw : w ≤ 10) (hs : Sm w rs) (hl : rs.length ≤ 10) (hr : row = "" ∨ row.length = w) : ∃ s', scB text "\n" s = some (.nx s') ∧ Sc (if row = "" then rs else rs ++ [row]) "" s' := by
  obtain ⟨⟨u, rs'⟩, row', ln, cl, n⟩ := s
  obtain ⟨h1, h2, h3⟩ := h
  dsimp only at h1 h2 h3
  subst h1 h2
  have e0 := row_problem_ok (w := w) (by omega) hs hr
  unfold scB m_scan_b1
  dsimp only
  rw [decide_eq_true (rfl : ("\n" : Str) = "\n"), Option.bind_some, if_pos rfl, e0]
  simp only [Option.bind_some, decide_true, Bool.not_true, Bool.false_eq_true, if_false]
  by_cases hz : row' = ""
  · rw [decide_eq_true hz, if_pos hz]
    refine ⟨_, rfl, rfl, rfl, ?_⟩
    rw [hz] at h3
    exact h3
  · rw [decide_eq_false hz, if_neg hz]
    have ep : papp rs' row' = some (rs' ++ [row']) := if_pos (by omega)
    simp only [Bool.not_false, if_true, ep, Option.bind_some]
    refine ⟨_, rfl, rfl, rfl, ?_⟩
    show n ≤ _
    rw [List.map_append, List.sum_append]
    have : ("" : Str).length = 0 := by decide +kernel
    simp only [List.map_cons, List.map_nil, List.sum_cons, List.sum_nil, this]
    simpa using h3
theorem sc_sp {text x : Str} {rs : List Str} {row : Str} {s : ScS} (h : Sc rs row s) (hx : x = " " ∨ x = "\t") : ∃ s', scB text x s = some (.nx s') ∧ Sc rs row s' := by
  obtain ⟨⟨u, rs'⟩, row', ln, cl, n⟩ := s
  obtain ⟨h1, h2, h3⟩ := h
  dsimp only at h1 h2 h3
  subst h1 h2
  have n1 : decide (x = "\n") = false := by rcases hx with rfl | rfl <;> decide +kernel
  have n2 : (Option.bind (some ((!decide (x = (" " : Str))))) fun a => if a = true then (some ((!decide (x = ("\t" : Str))))) else some false) = some false := by rcases hx with rfl | rfl <;> decide +kernel
  unfold scB m_scan_b1
  dsimp only
  rw [n1, Option.bind_some, if_neg Bool.false_ne_true, n2, Option.bind_some, if_neg Bool.false_ne_true]
  exact ⟨_, rfl, rfl, rfl, h3⟩
theorem sc_tl {text : Str} {w c : Nat} {rs : List Str} {row : Str} {s : ScS} (h : Sc rs row s) (hc : c ∈ Tl) (hw : w ≤ 10) (hs : Sm w rs) (hl : rs.length ≤ 10) (hr : row.length < w) : ∃ s', scB text ⟨#[c]⟩ s = some (.nx s') ∧ Sc rs (row ++ ⟨#[c]⟩) s' := by
  obtain ⟨⟨u, rs'⟩, row', ln, cl, n⟩ := s
  obtain ⟨h1, h2, h3⟩ := h
  dsimp only at h1 h2 h3
  subst h1 h2
  have F := tlF hc
  have hsum : (rs'.map (·.length)).sum ≤ rs'.length * w := by
    clear h3 hl
    induction rs' with
    | nil => exact Nat.zero_le _
    | cons a l ih =>
      have h1 := hs a List.mem_cons_self
      have h2 := ih fun r hr => hs r (List.mem_cons_of_mem _ hr)
      rw [List.map_cons, List.sum_cons, List.length_cons, Nat.succ_mul]
      omega
  have hm : rs'.length * w ≤ 10 * 10 := Nat.mul_le_mul hl hw
  have e0 := tile_problem_ok (n := n) hc hw hs hl hr (by omega)
  have n2 : (Option.bind (some ((!decide ((⟨#[c]⟩ : Str) = (" " : Str))))) fun a => if a = true then (some ((!decide ((⟨#[c]⟩ : Str) = ("\t" : Str))))) else some false) = some true := by
    simp only [F.sp, F.tb, decide_false, Bool.not_false, Option.bind_some, if_true]
  have ep : pcat row' ⟨#[c]⟩ = some (row' ++ ⟨#[c]⟩) := if_pos (Nat.le_trans (show row'.length + 1 ≤ 1000 by omega) (by decide))
  have el : (row' ++ (⟨#[c]⟩ : Str)).length = row'.length + 1 := Array.size_append
  unfold scB m_scan_b1
  dsimp only
  rw [decide_eq_false (show ¬ (⟨#[c]⟩ : Str) = "\n" from fun z => by rw [F.nl] at z; exact z), Option.bind_some, if_neg Bool.false_ne_true, n2, Option.bind_some, if_pos rfl, e0]
  simp only [Option.bind_some, decide_true, Bool.not_true, Bool.false_eq_true, if_false, F.cell, ep]
  by_cases h35 : c = 35
  · rw [decide_eq_true h35]
    refine ⟨_, rfl, rfl, rfl, ?_⟩
    show n ≤ _
    rw [el]
    omega
  · rw [decide_eq_false h35]
    refine ⟨_, rfl, rfl, rfl, ?_⟩
    show n + 1 ≤ _
    rw [el]
    omega
/-! texts of maps -/
inductive Rn (text : Str) : List Str → ScS → ScS → Prop where
  | nil (s : ScS) : Rn text [] s s
  | cons {x : Str} {xs : List Str} {s s1 s2 : ScS} : scB text x s = some (.nx s1) → Rn text xs s1 s2 → Rn text (x :: xs) s s2
theorem Rn.app {text : Str} {xs ys : List Str} {s s1 s2 : ScS} (h : Rn text xs s s1) (h2 : Rn text ys s1 s2) : Rn text (xs ++ ys) s s2 := by
  induction h with
  | nil s => exact h2
  | cons e _ ih => exact .cons e (ih h2)
theorem Rn.run {text : Str} {xs : List Str} {s s1 : ScS} (h : Rn text xs s s1) : forF (fun x (s : ScS) => m_scan_b1 text x s.1 s.2.1 s.2.2.1 s.2.2.2.1 s.2.2.2.2) xs s = some (.nx s1) := by
  induction h with
  | nil s => rfl
  | @cons x xs s s1 s2 e _ ih =>
    have e : m_scan_b1 text x s.1 s.2.1 s.2.2.1 s.2.2.2.1 s.2.2.2.2 = some (.nx s1) := e
    rw [forF_cons, e]
    exact ih
def Rd (x : Str) (rs : List Str) (row : Str) (rs' : List Str) (row' : Str) : Prop := ∀ (text : Str) (s : ScS), Sc rs row s → ∃ s', Rn text (sgns x) s s' ∧ Sc rs' row' s'
theorem sgns_app (x y : Str) : sgns (x ++ y) = sgns x ++ sgns y := by
  unfold sgns
  rw [show (x ++ y).cps.toList = x.cps.toList ++ y.cps.toList from Array.toList_append, List.map_append]
theorem rd_nil {rs : List Str} {row : Str} : Rd "" rs row rs row := fun text s h => ⟨s, by rw [show sgns "" = [] by decide +kernel]; exact .nil s, h⟩
theorem rd_cat {x y : Str} {rs rs' rs2 : List Str} {row row' row2 : Str} (h : Rd x rs row rs' row') (h2 : Rd y rs' row' rs2 row2) : Rd (x ++ y) rs row rs2 row2 := fun text s hs => by
  obtain ⟨s1, r1, c1⟩ := h text s hs
  obtain ⟨s2, r2, c2⟩ := h2 text s1 c1
  exact ⟨s2, by rw [sgns_app]; exact r1.app r2, c2⟩
theorem rd_one {rs : List Str} {row : Str} : Rd " " rs row rs row := fun text s h => by
  obtain ⟨s1, e1, c1⟩ := sc_sp (text := text) h (.inl rfl)
  exact ⟨s1, by rw [show sgns " " = ([(" " : Str)] : List Str) by decide +kernel]; exact .cons e1 (.nil _), c1⟩
theorem rd_tab {rs : List Str} {row : Str} : Rd "\t " rs row rs row := fun text s h => by
  obtain ⟨s1, e1, c1⟩ := sc_sp (text := text) h (.inr rfl)
  obtain ⟨s2, e2, c2⟩ := sc_sp (text := text) c1 (.inl rfl)
  exact ⟨s2, by rw [show sgns "\t " = ([("\t" : Str), (" " : Str)] : List Str) by decide +kernel]; exact .cons e1 (.cons e2 (.nil _)), c2⟩
theorem rd_nl {w : Nat} {rs : List Str} {row : Str} (hw : w ≤ 10) (hs : Sm w rs) (hl : rs.length ≤ 10) (hr : row = "" ∨ row.length = w) : Rd "\n" rs row (if row = "" then rs else rs ++ [row]) "" := fun text s h => by
  obtain ⟨s1, e1, c1⟩ := sc_nl (text := text) h hw hs hl hr
  exact ⟨s1, by rw [show sgns "\n" = ([("\n" : Str)] : List Str) by decide +kernel]; exact .cons e1 (.nil _), c1⟩
theorem rd_tl {w c : Nat} {rs : List Str} {row : Str} (hc : c ∈ Tl) (hw : w ≤ 10) (hs : Sm w rs) (hl : rs.length ≤ 10) (hr : row.length < w) : Rd ⟨#[c]⟩ rs row rs (row ++ ⟨#[c]⟩) := fun text s h => by
  obtain ⟨s1, e1, c1⟩ := sc_tl (text := text) h hc hw hs hl hr
  exact ⟨s1, .cons e1 (.nil _), c1⟩
/-- blanks that are read over -/
def Bl (b : Str) : Prop := b.length ≤ 2 ∧ ∀ rs row, Rd b rs row rs row
theorem blank_ok (ds : List Int) : ∃ b ds', m_l_blank ds () = some (b, ds') ∧ Bl b := by
  suffices h : Ok (m_l_blank ds ()) fun r => Bl r.1 by
    obtain ⟨⟨b, d⟩, e, h⟩ := h
    exact ⟨b, d, e, h⟩
  obtain ⟨k, d1, e1, _, _⟩ := draw_some (ds := ds) (n := 6) (by decide)
  unfold m_l_blank n_l_blank
  simp only [o2, Option.bind_some, ok_bind, ok_some, ok_if]
  rw [ok_eq e1]
  have b0 : Bl " " := ⟨by decide +kernel, fun _ _ => rd_one⟩
  have b1 : Bl "\t " := ⟨by decide +kernel, fun _ _ => rd_tab⟩
  have b2 : Bl "" := ⟨by decide +kernel, fun _ _ => rd_nil⟩
  exact ⟨fun _ => b0, fun _ => ⟨fun _ => b1, fun _ => b2⟩⟩
def Tls (rows : List Str) : Prop := ∀ r ∈ rows, ∀ c ∈ r.cps.toList, c ∈ Tl
theorem len_cat (x y : Str) : (x ++ y).length = x.length + y.length := Array.size_append
theorem pcat_sm {x y : Str} (h : x.length + y.length ≤ 1000) : pcat x y = some (x ++ y) := if_pos (Nat.le_trans h (by decide))
theorem nl_len : ("\n" : Str).length = 1 := by decide +kernel
theorem nil_len : ("" : Str).length = 0 := by decide +kernel
/-- a row's signs, blanks between them -/
theorem signs_ok {rows : List Str} {k : Int} {w : Nat} {rs : List Str} {r : Str} (hw : w ≤ 10) (hs : Sm w rs) (hl : rs.length ≤ 10) (hr : r.length = w) (ht : ∀ c ∈ r.cps.toList, c ∈ Tl) {text : Str} (h0 : Rd text [] "" rs "") (hlen : text.length ≤ 500) (ds : List Int) :
    Ok (forN (fun x (s : List Int × Str) => m_l_text_b2 rows k x s.1 s.2) (sgns r) (ds, text)) fun s => Rd s.2 [] "" rs r ∧ s.2.length ≤ text.length + 3 * w := by
  have hsz : r.cps.toList.length = w := by rw [Array.length_toList]; exact hr
  refine ok_forN0 (fun j (s : List Int × Str) => Rd s.2 [] "" rs ⟨(r.cps.toList.take j).toArray⟩ ∧ s.2.length ≤ text.length + 3 * j) ⟨h0, Nat.le_refl _⟩ (fun j x s hx hI => ?_) (fun s hI => ?_)
  · obtain ⟨d, t⟩ := s
    obtain ⟨h1, h2⟩ := hI
    dsimp only at h1 h2
    unfold sgns at hx
    rw [List.getElem?_map] at hx
    cases hc : r.cps.toList[j]? with
    | none =>
      rw [hc] at hx
      cases hx
    | some c =>
      rw [hc] at hx
      cases hx
      have hj := (List.getElem?_eq_some_iff.mp hc).1
      obtain ⟨b, d1, e1, hb1, hb2⟩ := blank_ok d
      have et : r.cps.toList.take (j + 1) = r.cps.toList.take j ++ [c] := by rw [List.take_succ, hc]; rfl
      have l1 : (⟨#[c]⟩ : Str).length = 1 := rfl
      unfold m_l_text_b2
      simp only [o2, Option.bind_some, ok_bind, ok_some, ok_if]
      rw [ok_eq e1]
      (try simp only [o2, Option.bind_some, ok_bind, ok_some, ok_if])
      rw [ok_eq (pcat_sm (by omega))]
      (try simp only [o2, Option.bind_some, ok_bind, ok_some, ok_if])
      rw [ok_eq (pcat_sm (by rw [len_cat]; omega))]
      refine ⟨?_, ?_⟩
      · show Rd (t ++ b ++ ⟨#[c]⟩) [] "" rs _
        have := rd_cat (rd_cat h1 (hb2 _ _)) (rd_tl (w := w) (ht c (List.mem_of_getElem? hc)) hw hs hl (row := ⟨(r.cps.toList.take j).toArray⟩) (by show (List.toArray _).size < w; rw [List.size_toArray, List.length_take]; omega))
        rw [et]
        have e2 : (⟨(r.cps.toList.take j).toArray⟩ : Str) ++ (⟨#[c]⟩ : Str) = ⟨(r.cps.toList.take j ++ [c]).toArray⟩ := by
          show (⟨_ ++ _⟩ : Str) = _
          congr 1
          simp
        rw [← e2]
        exact this
      · show (t ++ b ++ (⟨#[c]⟩ : Str)).length ≤ _
        rw [len_cat, len_cat]
        omega
  · have hn : (sgns r).length = w := by rw [sgns_len]; exact hr
    rw [hn] at hI
    have e : r.cps.toList.take w = r.cps.toList := by rw [← hsz, List.take_length]
    rw [e] at hI
    exact hI
theorem take_sm {w : Nat} {rows : List Str} (h : Sm w rows) (k : Nat) : Sm w (rows.take k) := fun r hr => h r (List.mem_of_mem_take hr)
/-- where the text ends: behind a line feed, or behind the last row -/
def Ends' (x : Str) (rows : List Str) : Prop := Rd x [] "" rows "" ∨ ∃ rs r, rows = rs ++ [r] ∧ Rd x [] "" rs r
theorem text_ok {w : Nat} {rows : List Str} (hw : w ≤ 6) (hw0 : 0 < w) (hs : Sm w rows) (hl : rows.length ≤ 5) (hl0 : 0 < rows.length) (ht : Tls rows) (ds : List Int) : ∃ x ds', m_l_text ds (rows, ()) = some (x, ds') ∧ Ends' x rows := by
  suffices h : Ok (m_l_text ds (rows, ())) fun r => Ends' r.1 rows by
    obtain ⟨⟨b, d⟩, e, h⟩ := h
    exact ⟨b, d, e, h⟩
  unfold m_l_text n_l_text
  dsimp only
  simp only [o2, Option.bind_some, ok_bind, ok_some, ok_if]
  have er : prange1 ((rows.length : Nat) : Int) = some (rangeL 0 ((rows.length : Nat) : Int)) := if_pos (by omega)
  rw [ok_eq er]
  refine ok_forNr (fun i (s : List Int × Str) => s.2.length ≤ 60 * i ∧ (Rd s.2 [] "" (rows.take i) "" ∨ (i = rows.length ∧ Ends' s.2 rows))) ⟨by rw [nil_len]; exact Nat.zero_le _, .inl (by rw [List.take_zero]; exact rd_nil)⟩ (fun i s hi hI => ?_) (fun s hI => ?_)
  · obtain ⟨d, t⟩ := s
    obtain ⟨h1, h2⟩ := hI
    dsimp only at h1 h2
    have h2 : Rd t [] "" (rows.take i) "" := by
      rcases h2 with h2 | h2
      · exact h2
      · omega
    have ex : rows[i]? = some rows[i] := List.getElem?_eq_getElem hi
    have hr := hs _ (List.mem_of_getElem? ex)
    have htl : rows.take (i + 1) = rows.take i ++ [rows[i]] := by rw [List.take_succ, ex]; rfl
    have hlt : (rows.take i).length ≤ 10 := by rw [List.length_take]; omega
    have hne : rows[i] ≠ "" := fun z => by
      have := nil_iff.mp z
      omega
    -- behind the signs of the row
    have rest : ∀ (d : List Int) (t : Str), Rd t [] "" (rows.take i) "" → t.length ≤ 60 * i + 10 → Ok (Option.bind (Option.bind (at? rows (i : Int)) fun x => some (sgns x)) fun xs => Option.bind (forN (fun x (s : (List Int) × Str) => m_l_text_b2 rows (i : Int) x s.1 s.2) xs (d, t)) fun s98 =>
      (Option.bind (Option.bind (some (s98.2, s98.1)) fun p106 => Option.bind (Option.bind (m_l_blank p106.2 ()) fun q105 => some (q105.1, q105.2)) fun q107 => Option.bind (pcat p106.1 q107.1) fun z => some (z, q107.2)) fun p134 =>
      (Option.bind (Option.bind (some (((decide (((i : Int) + (1 : Int)) < ((rows.length : Int))))), p134.2)) fun p120 => if p120.1 = true then some (true, p120.2) else (Option.bind (Option.bind (draw p120.2 ((4 : Int), ())) fun q117 => some (q117.1, q117.2)) fun p118 => Option.bind (some ((0 : Int), p118.2)) fun q119 => Option.bind (some ((decide (p118.1 = q119.1)))) fun z => some (z, q119.2))) fun b133 => if b133.1 = true then
      (Option.bind (pcat p134.1 ("\n" : Str)) fun l_text_here127 =>
      some (b133.2, l_text_here127))
      else
      some (b133.2, p134.1)))) fun s => s.2.length ≤ 60 * (i + 1) ∧ (Rd s.2 [] "" (rows.take (i + 1)) "" ∨ (i + 1 = rows.length ∧ Ends' s.2 rows)) := fun d t hR hT => by
      simp only [o2, Option.bind_some, ok_bind, ok_some, ok_if]
      rw [ok_at ex]
      refine (signs_ok (w := w) (k := (i : Int)) (by omega) (take_sm hs i) hlt hr (ht _ (List.mem_of_getElem? ex)) hR (by omega) d).mono fun s1 hS => ?_
      obtain ⟨g1, g2⟩ := hS
      obtain ⟨b, d1, e1, hb1, hb2⟩ := blank_ok s1.1
      rw [ok_eq e1]
      (try simp only [o2, Option.bind_some, ok_bind, ok_some, ok_if])
      rw [ok_eq (pcat_sm (by omega))]
      (try simp only [o2, Option.bind_some, ok_bind, ok_some, ok_if])
      have g3 : Rd (s1.2 ++ b) [] "" (rows.take i) rows[i] := rd_cat g1 (hb2 _ _)
      have g4 : Rd (s1.2 ++ b ++ "\n") [] "" (rows.take (i + 1)) "" := by
        have := rd_cat g3 (rd_nl (w := w) (by omega) (take_sm hs i) hlt (.inr hr))
        rw [if_neg hne, ← htl] at this
        exact this
      have l1 : (s1.2 ++ b).length = s1.2.length + b.length := len_cat _ _
      have nlc : Ok (pcat (s1.2 ++ b) ("\n" : Str)) fun x => x.length ≤ 60 * (i + 1) ∧ (Rd x [] "" (rows.take (i + 1)) "" ∨ (i + 1 = rows.length ∧ Ends' x rows)) := by
        rw [ok_eq (pcat_sm (by rw [nl_len]; omega))]
        exact ⟨by rw [len_cat, nl_len]; omega, .inl g4⟩
      refine ⟨fun _ => ⟨fun _ => nlc, (fun z => by simp at z)⟩, fun hlast => ?_⟩
      have hn : i + 1 = rows.length := by
        have := of_decide_eq_false hlast
        omega
      obtain ⟨x, d2, e2, _, _⟩ := draw_some (ds := d1) (n := 4) (by decide)
      rw [ok_eq e2]
      (try simp only [o2, Option.bind_some, ok_bind, ok_some, ok_if])
      refine ⟨fun _ => nlc, fun _ => ⟨by omega, .inr ⟨hn, .inr ⟨rows.take i, rows[i], ?_, g3⟩⟩⟩⟩
      rw [← htl, hn, List.take_length]
    unfold m_l_text_b1
    obtain ⟨x, d1, e1, _, _⟩ := draw_some (ds := d) (n := 5) (by decide)
    rw [ok_bind, ok_bind]
    simp only [o2, Option.bind_some, ok_bind, ok_some, ok_if]
    rw [ok_eq e1]
    (try simp only [o2, Option.bind_some, ok_bind, ok_some, ok_if])
    have rest2 := fun d t h1 h2 => rest d t h1 h2
    simp only [o2, Option.bind_some, ok_bind, ok_some, ok_if] at rest2
    refine ⟨fun _ => ?_, fun _ => rest2 d1 t h2 (by omega)⟩
    obtain ⟨b, d2, e2, hb1, hb2⟩ := blank_ok d1
    rw [ok_eq e2]
    (try simp only [o2, Option.bind_some, ok_bind, ok_some, ok_if])
    rw [ok_eq (pcat_sm (by omega))]
    (try simp only [o2, Option.bind_some, ok_bind, ok_some, ok_if])
    rw [ok_eq (pcat_sm (by rw [len_cat, nl_len]; omega))]
    (try simp only [o2, Option.bind_some, ok_bind, ok_some, ok_if])
    refine rest2 d2 _ ?_ (by rw [len_cat, len_cat, nl_len]; omega)
    have := rd_cat (rd_cat h2 (hb2 _ _)) (rd_nl (w := w) (by omega) (take_sm hs i) hlt (.inl rfl))
    rw [if_pos rfl] at this
    exact this
  · obtain ⟨_, h⟩ := hI
    rcases h with h | h
    · rw [List.take_length] at h
      exact .inl h
    · exact h.2
/-- the reading gives just the rows -/
theorem scan_ok {w : Nat} {rows : List Str} {x : Str} (hw : w ≤ 6) (hw0 : 0 < w) (hs : Sm w rows) (hl : rows.length ≤ 5) (h : Ends' x rows) (hp : m_whole_problem rows = some ("" : Str)) : m_scan x = some (rows, none) := by
  refine Ok.eq ?_
  unfold m_scan
  simp only [o2, Option.bind_some, ok_bind, ok_some, ok_if]
  have c0 : Sc [] "" (((((), []), "", 1, 1, 0) : ScS)) := ⟨rfl, rfl, by show (0 : Int) ≤ _; omega⟩
  rcases h with h | ⟨rs, r, e, h⟩
  · obtain ⟨s1, r1, c1⟩ := h x _ c0
    rw [ok_eq r1.run]
    dsimp only
    (try simp only [o2, Option.bind_some, ok_bind, ok_some, ok_if])
    rw [c1.r, c1.w, ok_eq (row_problem_ok (w := w) (by omega) hs (.inl rfl))]
    (try simp only [o2, Option.bind_some, ok_bind, ok_some, ok_if])
    simp only [decide_true, Bool.not_true]
    refine ⟨fun _ => ⟨(fun z => nomatch z), fun _ => ?_⟩, (fun z => nomatch z)⟩
    rw [ok_eq hp]
    (try simp only [o2, Option.bind_some, ok_bind, ok_some, ok_if])
    simp only [decide_true, Bool.not_true]
    exact ⟨(fun z => nomatch z), fun _ => (by first | rw [c1.r] | trivial)⟩
  · obtain ⟨s1, r1, c1⟩ := h x _ c0
    subst e
    have hr : r.length = w := hs r (by simp)
    have hne : r ≠ "" := fun z => by
      have := nil_iff.mp z
      omega
    have hsr : Sm w rs := fun a ha => hs a (List.mem_append.mpr (.inl ha))
    rw [ok_eq r1.run]
    dsimp only
    (try simp only [o2, Option.bind_some, ok_bind, ok_some, ok_if])
    rw [List.length_append] at hl
    rw [c1.r, c1.w, ok_eq (row_problem_ok (w := w) (by omega) hsr (.inr hr))]
    (try simp only [o2, Option.bind_some, ok_bind, ok_some, ok_if])
    simp only [decide_true, decide_eq_false hne, Bool.not_false]
    refine ⟨fun _ => ⟨fun _ => ?_, (fun z => nomatch z)⟩, (fun z => nomatch z)⟩
    rw [ok_papp (by omega)]
    (try simp only [o2, Option.bind_some, ok_bind, ok_some, ok_if])
    rw [ok_eq hp]
    (try simp only [o2, Option.bind_some, ok_bind, ok_some, ok_if])
    simp only [decide_true, Bool.not_true]
    exact ⟨(fun z => nomatch z), fun _ => (by first | rfl | trivial)⟩
/-! the drawn rows: their signs, their stations -/
theorem tile_ok2 (ds : List Int) (shuts many : Int) (hm : many ≤ 3) : ∃ c ds', m_l_tile ds (shuts, many, ()) = some (⟨#[c]⟩, ds') ∧ c ∈ Tl := by
  suffices h : Ok (m_l_tile ds (shuts, many, ())) fun r => ∃ c, r.1 = ⟨#[c]⟩ ∧ c ∈ Tl by
    obtain ⟨⟨t, d⟩, e, c, h1, h2⟩ := h
    dsimp only at h1
    subst h1
    exact ⟨c, d, e, h2⟩
  obtain ⟨k, d1, e1, k0, k1⟩ := draw_some (ds := ds) (n := 12) (by decide)
  have hA : ∀ j : Nat, j < 3 → atS? ("ABCD" : Str) (j : Int) = some ⟨#[65 + j]⟩ ∧ atS? ("abc" : Str) (j : Int) = some ⟨#[97 + j]⟩ ∧ 65 + j ∈ Tl ∧ 97 + j ∈ Tl := fun j hj => by
    match j, hj with
    | 0, _ => decide +kernel
    | 1, _ => decide +kernel
    | 2, _ => decide +kernel
  have dm : 0 < many → ∀ d : List Int, ∃ j d', j < 3 ∧ draw d (many, ()) = some (((j : Nat) : Int), d') := fun h d => by
    obtain ⟨x, d', e, x0, x1⟩ := draw_some (ds := d) (n := many) h
    obtain ⟨j, rfl⟩ := Int.eq_ofNat_of_zero_le x0
    exact ⟨j, d', by omega, e⟩
  unfold m_l_tile n_l_tile
  dsimp only
  simp only [o2, Option.bind_some, ok_bind, ok_some, ok_if]
  rw [ok_eq e1]
  have hp : ∃ c, ("+" : Str) = ⟨#[c]⟩ ∧ c ∈ Tl := ⟨43, by decide +kernel, by decide⟩
  have hd : ∃ c, ("." : Str) = ⟨#[c]⟩ ∧ c ∈ Tl := ⟨46, by decide +kernel, by decide⟩
  have small : 0 < many → ∀ d : List Int, Ok (draw d (many, ())) fun x => Ok (atS? ("abc" : Str) x.1) fun x => ∃ c, x = ⟨#[c]⟩ ∧ c ∈ Tl := fun h d => by
    obtain ⟨j, d', hj, e⟩ := dm h d
    rw [ok_eq e, ok_eq (hA j hj).2.1]
    exact ⟨_, rfl, (hA j hj).2.2.2⟩
  have large : 0 < many → ∀ d : List Int, Ok (draw d (many, ())) fun x => Ok (atS? ("ABCD" : Str) x.1) fun x => ∃ c, x = ⟨#[c]⟩ ∧ c ∈ Tl := fun h d => by
    obtain ⟨j, d', hj, e⟩ := dm h d
    rw [ok_eq e, ok_eq (hA j hj).1]
    exact ⟨_, rfl, (hA j hj).2.2.1⟩
  have last : ∀ d : List Int, (decide (k > 8) = true → (decide (many > 0) = true → Ok (draw d (many, ())) fun x => Ok (atS? ("ABCD" : Str) x.1) fun x => ∃ c, x = ⟨#[c]⟩ ∧ c ∈ Tl) ∧ (decide (many > 0) = false → (decide (k > 7) = true → ∃ c, ("+" : Str) = ⟨#[c]⟩ ∧ c ∈ Tl) ∧ (decide (k > 7) = false → ∃ c, ("." : Str) = ⟨#[c]⟩ ∧ c ∈ Tl))) ∧
    (decide (k > 8) = false → (false = true → Ok (draw d (many, ())) fun x => Ok (atS? ("ABCD" : Str) x.1) fun x => ∃ c, x = ⟨#[c]⟩ ∧ c ∈ Tl) ∧ (True → (decide (k > 7) = true → ∃ c, ("+" : Str) = ⟨#[c]⟩ ∧ c ∈ Tl) ∧ (decide (k > 7) = false → ∃ c, ("." : Str) = ⟨#[c]⟩ ∧ c ∈ Tl))) := fun d =>
    ⟨fun _ => ⟨fun h => large (of_decide_eq_true h) d, fun _ => ⟨fun _ => hp, fun _ => hd⟩⟩, fun _ => ⟨(fun z => nomatch z), fun _ => ⟨fun _ => hp, fun _ => hd⟩⟩⟩
  exact ⟨fun _ => ⟨35, by decide +kernel, by decide⟩, fun _ => ⟨fun _ => ⟨fun h => small (of_decide_eq_true h) d1, fun _ => last d1⟩, fun _ => ⟨(fun z => nomatch z), fun _ => last d1⟩⟩⟩
def hasK (k : Int) (r : Str) : Bool := r.cps.toList.any fun c => decide (stn c = some k)
theorem hasK_iff {k : Nat} (hk : k < 3) (r : Str) : (decide (65 + k ∈ r.cps.toList) || decide (97 + k ∈ r.cps.toList)) = hasK (k : Int) r := by
  rw [Bool.eq_iff_iff]
  unfold hasK
  rw [Bool.or_eq_true, decide_eq_true_eq, decide_eq_true_eq, List.any_eq_true]
  have key : ∀ c : Nat, stn c = some (k : Int) ↔ c = 65 + k ∨ c = 97 + k := fun c => by
    unfold stn
    match k, hk with
    | 0, _ => constructor <;> intro h <;> (repeat' split at h) <;> (repeat' split) <;> first | omega | (simp at h; done) | simp_all
    | 1, _ => constructor <;> intro h <;> (repeat' split at h) <;> (repeat' split) <;> first | omega | (simp at h; done) | simp_all
    | 2, _ => constructor <;> intro h <;> (repeat' split at h) <;> (repeat' split) <;> first | omega | (simp at h; done) | simp_all
  constructor
  · rintro (h | h)
    · exact ⟨_, h, decide_eq_true ((key _).mpr (.inl rfl))⟩
    · exact ⟨_, h, decide_eq_true ((key _).mpr (.inr rfl))⟩
  · rintro ⟨c, h, e⟩
    rcases (key c).mp (of_decide_eq_true e) with z | z
    · exact .inl (z ▸ h)
    · exact .inr (z ▸ h)
theorem used_b2 {rows : List Str} {k : Nat} (hk : k < 3) (r : Str) (st : Unit × List Int) (hl : st.2.length ≤ 10) : m_l_used_b2 rows (k : Int) r st = some (st.1, if (k : Int) ∈ st.2 then st.2 else if hasK (k : Int) r = true then st.2 ++ [(k : Int)] else st.2) := by
  have hA : atS? ("ABCD" : Str) (k : Int) = some ⟨#[65 + k]⟩ ∧ atS? ("abc" : Str) (k : Int) = some ⟨#[97 + k]⟩ := by
    match k, hk with
    | 0, _ => decide +kernel
    | 1, _ => decide +kernel
    | 2, _ => decide +kernel
  have hi : ∀ c, inS ⟨#[c]⟩ r = some (decide (c ∈ r.cps.toList)) := fun c => rfl
  unfold m_l_used_b2
  rw [hA.1, hA.2]
  simp only [o2, Option.bind_some, decide_true, decide_false, Bool.not_true, Bool.not_false, Bool.false_eq_true, Bool.true_eq_false, if_false, if_true, ite_true, ite_false, Bool.true_or, Bool.or_false, Bool.false_or, eq_self_iff_true, reduceCtorEq]
  rw [hi, hi]
  rw [← hasK_iff hk r]
  by_cases hm : (k : Int) ∈ st.2
  · rw [decide_eq_true hm, if_pos hm]
    rfl
  · rw [decide_eq_false hm, if_neg hm]
    simp only [o2, Option.bind_some, decide_true, decide_false, Bool.not_true, Bool.not_false, Bool.false_eq_true, Bool.true_eq_false, if_false, if_true, ite_true, ite_false, Bool.true_or, Bool.or_false, Bool.false_or, eq_self_iff_true, reduceCtorEq]
    cases h1 : decide (65 + k ∈ r.cps.toList) <;> cases h2 : decide (97 + k ∈ r.cps.toList) <;> simp only [o2, Option.bind_some, decide_true, decide_false, Bool.not_true, Bool.not_false, Bool.false_eq_true, Bool.true_eq_false, if_false, if_true, ite_true, ite_false, Bool.true_or, Bool.or_false, Bool.false_or, eq_self_iff_true, reduceCtorEq] <;> first | rfl | (rw [show papp st.2 (k : Int) = some (st.2 ++ [(k : Int)]) from if_pos (by omega)]; rfl)
theorem used_b1 {rows : List Str} {k : Nat} (hk : k < 3) : ∀ (xs : List Str) (u : Unit) (us : List Int), us.length ≤ 5 → (k : Int) ∉ us → forN (fun x (s : (Unit × (List Int))) => m_l_used_b2 rows (k : Int) x s) xs (u, us) = some (u, if xs.any (hasK (k : Int)) = true then us ++ [(k : Int)] else us) := by
  intro xs
  have there : ∀ (xs : List Str) (u : Unit) (us : List Int), us.length ≤ 6 → (k : Int) ∈ us → forN (fun x (s : (Unit × (List Int))) => m_l_used_b2 rows (k : Int) x s) xs (u, us) = some (u, us) := by
    intro xs
    induction xs with
    | nil => intro u us _ _; rfl
    | cons r xs ih =>
      intro u us hl hm
      rw [forN_cons, used_b2 hk r (u, us) (by show us.length ≤ 10; omega)]
      show forN _ xs (u, if (k : Int) ∈ us then us else _) = _
      rw [if_pos hm]
      exact ih u us hl hm
  induction xs with
  | nil => intro u us _ _; rfl
  | cons r xs ih =>
    intro u us hl hm
    rw [forN_cons, used_b2 hk r (u, us) (by show us.length ≤ 10; omega)]
    show forN _ xs (u, if (k : Int) ∈ us then us else if hasK (k : Int) r = true then us ++ [(k : Int)] else us) = _
    rw [if_neg hm, List.any_cons]
    cases h : hasK (k : Int) r with
    | true =>
      rw [if_pos rfl, Bool.true_or, if_pos rfl]
      exact there xs u _ (by rw [List.length_append]; exact Nat.succ_le_succ hl) (List.mem_append_right _ List.mem_cons_self)
    | false =>
      rw [if_neg Bool.false_ne_true, Bool.false_or]
      exact ih u us hl hm
def usd (rows : List Str) : List Int := ([0, 1, 2] : List Int).filter fun k => rows.any (hasK k)
theorem used_ok2 (rows : List Str) : m_l_used rows = some (usd rows) := by
  have e : prange1 (3 : Int) = some [0, 1, 2] := by decide +kernel
  have b : ∀ (k : Nat), k < 3 → ∀ us : List Int, us.length ≤ 5 → (k : Int) ∉ us → m_l_used_b1 rows (k : Int) ((), us) = some ((), if rows.any (hasK (k : Int)) = true then us ++ [(k : Int)] else us) := fun k hk us h1 h2 => by
    unfold m_l_used_b1
    rw [Option.bind_some, used_b1 hk rows () us h1 h2]
    rfl
  unfold m_l_used
  simp only [o2, Option.bind_some, decide_true, decide_false, Bool.not_true, Bool.not_false, Bool.false_eq_true, Bool.true_eq_false, if_false, if_true, ite_true, ite_false, Bool.true_or, Bool.or_false, Bool.false_or, eq_self_iff_true, reduceCtorEq]
  rw [e, Option.bind_some]
  show ((forN (fun x (s : (Unit × (List Int))) => m_l_used_b1 rows x s) [((0 : Nat) : Int), ((1 : Nat) : Int), ((2 : Nat) : Int)] ((), [])).bind fun s => some s.2) = _
  have l1 : (if rows.any (hasK ((0 : Nat) : Int)) = true then ([] : List Int) ++ [((0 : Nat) : Int)] else []).length ≤ 1 := by split <;> decide
  have n1 : ((1 : Nat) : Int) ∉ (if rows.any (hasK ((0 : Nat) : Int)) = true then ([] : List Int) ++ [((0 : Nat) : Int)] else []) := by split <;> decide
  rw [forN_cons, b 0 (by decide) [] (by decide) (by simp), Option.bind_some, forN_cons, b 1 (by decide) _ (by omega) n1, Option.bind_some, forN_cons, b 2 (by decide) _ (by split <;> (try rw [List.length_append]) <;> (try have := l1) <;> first | omega | (simp only [List.length_cons, List.length_nil]; omega)) (by
    cases rows.any (hasK ((0 : Nat) : Int)) <;> cases rows.any (hasK ((1 : Nat) : Int)) <;> decide), Option.bind_some]
  show some _ = some (usd rows)
  unfold usd
  have h0 : rows.any (hasK ((0 : Nat) : Int)) = rows.any (hasK 0) := rfl
  have h1 : rows.any (hasK ((1 : Nat) : Int)) = rows.any (hasK 1) := rfl
  have h2 : rows.any (hasK ((2 : Nat) : Int)) = rows.any (hasK 2) := rfl
  rw [h0, h1, h2]
  simp only [List.filter_cons, List.filter_nil]
  cases rows.any (hasK 0) <;> cases rows.any (hasK 1) <;> cases rows.any (hasK 2) <;> rfl
/-! renaming -/
def subs : List (List Int) := [[], [0], [1], [2], [0, 1], [0, 2], [1, 2], [0, 1, 2]]
theorem usd_subs (rows : List Str) : usd rows ∈ subs := by
  unfold usd
  simp only [List.filter_cons, List.filter_nil]
  cases rows.any (hasK 0) <;> cases rows.any (hasK 1) <;> cases rows.any (hasK 2) <;> decide
def rn (us : List Int) (c : Nat) : Nat := match stn c with
  | none => c
  | some k => (if c < 97 then 65 else 97) + us.idxOf k
def okc (us : List Int) (c : Nat) : Bool := match stn c with
  | none => true
  | some k => decide (k ∈ us)
def rnB (us : List Int) (c : Nat) : Bool := !okc us c || (decide (forN (fun x (s : Str) => m_l_renamed_b2 "" us "" ⟨#[c]⟩ x s) (rangeL 0 (us.length : Int)) ⟨#[c]⟩ = some ⟨#[rn us c]⟩) && decide (rn us c ∈ Tl) && decide (stn (rn us c) = (stn c).map fun k => ((us.idxOf k : Nat) : Int)))
theorem rnB_all : (subs.all fun us => Tl.all (rnB us)) = true := by decide +kernel
structure RnF (us : List Int) (c : Nat) : Prop where
  run : ∀ row new, forN (fun x (s : Str) => m_l_renamed_b2 row us new ⟨#[c]⟩ x s) (rangeL 0 (us.length : Int)) ⟨#[c]⟩ = some ⟨#[rn us c]⟩
  tl : rn us c ∈ Tl
  st : stn (rn us c) = (stn c).map fun k => ((us.idxOf k : Nat) : Int)
theorem rnF {us : List Int} {c : Nat} (hu : us ∈ subs) (hc : c ∈ Tl) (ho : okc us c = true) : RnF us c := by
  have := List.all_eq_true.mp (List.all_eq_true.mp rnB_all us hu) c hc
  unfold rnB at this
  rw [ho] at this
  simp only [Bool.not_true, Bool.false_or, Bool.and_eq_true, decide_eq_true_eq] at this
  exact ⟨fun row new => this.1.1, this.1.2, this.2⟩
theorem renamed_ok2 {us : List Int} (hu : us ∈ subs) {r : Str} (hl : r.length ≤ 100) (ht : ∀ c ∈ r.cps.toList, c ∈ Tl ∧ okc us c = true) : m_l_renamed r us = some ⟨(r.cps.toList.map (rn us)).toArray⟩ := by
  have hul : us.length ≤ 3 := by
    have : ∀ us ∈ subs, us.length ≤ 3 := by decide
    exact this us hu
  suffices h : Ok (m_l_renamed r us) fun x => x = ⟨(r.cps.toList.map (rn us)).toArray⟩ by
    obtain ⟨x, e, rfl⟩ := h
    exact e
  have hsz : r.cps.toList.length = r.length := Array.length_toList
  unfold m_l_renamed
  simp only [o2, Option.bind_some, ok_bind, ok_some, ok_if]
  refine ok_forN0 (fun j (s : Str) => s = ⟨((r.cps.toList.take j).map (rn us)).toArray⟩) rfl (fun j x s hx hI => ?_) (fun s hI => ?_)
  · subst hI
    unfold sgns at hx
    rw [List.getElem?_map] at hx
    cases hc : r.cps.toList[j]? with
    | none =>
      rw [hc] at hx
      cases hx
    | some c =>
      rw [hc] at hx
      cases hx
      have hj := (List.getElem?_eq_some_iff.mp hc).1
      obtain ⟨h1, h2⟩ := ht c (List.mem_of_getElem? hc)
      have F := rnF hu h1 h2
      have er : prange1 ((us.length : Nat) : Int) = some (rangeL 0 ((us.length : Nat) : Int)) := if_pos (by omega)
      have et : r.cps.toList.take (j + 1) = r.cps.toList.take j ++ [c] := by rw [List.take_succ, hc]; rfl
      unfold m_l_renamed_b1
      simp only [o2, Option.bind_some, ok_bind, ok_some, ok_if]
      rw [ok_eq er, ok_eq (F.run _ _), ok_eq (pcat_sm (by
        show (List.toArray _).size + 1 ≤ 1000
        rw [List.size_toArray, List.length_map, List.length_take]
        omega))]
      rw [et, List.map_append]
      show (⟨_ ++ _⟩ : Str) = _
      congr 1
      simp
  · have hn : (sgns r).length = r.cps.toList.length := by rw [sgns_len, hsz]; rfl
    rw [hn, List.take_length] at hI
    exact hI
def isD (c : Nat) : Bool := decide (c ∈ ("+abc" : Str).cps.toList)
theorem forF_any {α R : Type} {b : α → Unit → Option (Fl Unit R)} {p : α → Bool} {r : R} : ∀ (xs : List α), (∀ x ∈ xs, b x () = some (if p x = true then .rt r else .nx ())) → forF b xs () = some (if xs.any p = true then .rt r else .nx ())
  | [], _ => rfl
  | x :: xs, h => by
    rw [forF_cons, h x List.mem_cons_self, List.any_cons]
    have ih := forF_any xs fun y hy => h y (List.mem_cons_of_mem _ hy)
    cases p x with
    | true => rfl
    | false =>
      rw [if_neg Bool.false_ne_true, Bool.false_or]
      exact ih
theorem has_door2 (rows : List Str) : m_l_has_door rows = some (rows.any fun r => r.cps.toList.any isD) := by
  have h1 : ∀ r : Str, m_l_has_door_b1 rows r = some (if (r.cps.toList.any isD) = true then .rt true else .nx ()) := fun r => by
    unfold m_l_has_door_b1
    simp only [o2, Option.bind_some, decide_true, decide_false, Bool.not_true, Bool.not_false, Bool.false_eq_true, Bool.true_eq_false, if_false, if_true, ite_true, ite_false, Bool.true_or, Bool.or_false, Bool.false_or, eq_self_iff_true, reduceCtorEq]
    rw [forF_any (p := fun t : Str => t.cps.toList.any isD) (r := true) (sgns r) fun x hx => ?_]
    · have e : (sgns r).any (fun t : Str => t.cps.toList.any isD) = r.cps.toList.any isD := by
        unfold sgns
        rw [List.any_map]
        congr 1
        funext c
        show (([c] : List Nat).any isD) = _
        simp
      rw [e]
      cases r.cps.toList.any isD <;> rfl
    · obtain ⟨c, _, rfl⟩ := sgns_mem hx
      unfold m_l_has_door_b2
      rw [inS_c, Option.bind_some]
      have e : (([c] : List Nat).any isD) = decide (c ∈ ("+abc" : Str).cps.toList) := by simp [isD]
      show _ = some (if (([c] : List Nat).any isD) = true then _ else _)
      rw [e]
      cases decide (c ∈ ("+abc" : Str).cps.toList) <;> rfl
  unfold m_l_has_door
  simp only [o2, Option.bind_some, decide_true, decide_false, Bool.not_true, Bool.not_false, Bool.false_eq_true, Bool.true_eq_false, if_false, if_true, ite_true, ite_false, Bool.true_or, Bool.or_false, Bool.false_or, eq_self_iff_true, reduceCtorEq]
  rw [forF_any (p := fun r : Str => r.cps.toList.any isD) (r := true) rows fun r _ => h1 r]
  cases (rows.any fun r => r.cps.toList.any isD) <;> rfl
def dr (c : Nat) : Nat := if c = 65 then 97 else if c = 66 then 98 else if c = 67 then 99 else 43
def drB (c : Nat) : Bool := decide (forN (fun x (s : Str) => m_l_with_door_b1 [] ⟨#[c]⟩ x s) [0, 1, 2] ("+" : Str) = some ⟨#[dr c]⟩) && decide (dr c ∈ Tl) && isD (dr c) && (isD c || decide (stn (dr c) = stn c))
theorem drB_all : (Tl.all drB) = true := by decide +kernel
theorem with_door2 {c0 : Nat} {t : List Nat} {rest : List Str} (hc : c0 ∈ Tl) (ht : t.length ≤ 100) (hr : rest.length ≤ 100) : m_l_with_door (⟨(c0 :: t).toArray⟩ :: rest) = some (⟨(dr c0 :: t).toArray⟩ :: rest) := by
  have hb := List.all_eq_true.mp drB_all c0 hc
  unfold drB at hb
  simp only [Bool.and_eq_true, decide_eq_true_eq] at hb
  have hrun := hb.1.1.1
  have e : prange1 (3 : Int) = some [0, 1, 2] := by decide +kernel
  have e0 : at? ((⟨(c0 :: t).toArray⟩ : Str) :: rest) 0 = some ⟨(c0 :: t).toArray⟩ := rfl
  have hl : (⟨(c0 :: t).toArray⟩ : Str).length ≤ 1000 := by show (List.toArray _).size ≤ _; rw [List.size_toArray, List.length_cons]; omega
  have ec : atS? (⟨(c0 :: t).toArray⟩ : Str) 0 = some ⟨#[c0]⟩ := by
    unfold atS?
    rw [if_pos (Nat.le_trans hl (by decide)), Option.bind_some]
    rfl
  have ez : cutS (⟨(c0 :: t).toArray⟩ : Str) (some 1) none = ⟨t.toArray⟩ := by
    unfold cutS
    rw [HT.sIx_none, show ((1 : Int)) = ((1 : Nat) : Int) from rfl, HT.sIx_nat]
    have hs : (⟨(c0 :: t).toArray⟩ : Str).length = t.length + 1 := by show (List.toArray _).size = _; rw [List.size_toArray, List.length_cons]
    rw [hs, Nat.min_eq_left (by omega)]
    congr 2
    show List.take _ (List.drop 1 (c0 :: t)) = t
    rw [List.drop_one, List.tail_cons]
    exact List.take_of_length_le (by omega)
  have ec2 : cut ((⟨(c0 :: t).toArray⟩ : Str) :: rest) (some 1) none = rest := by
    unfold cut
    rw [HT.sIx_none, show ((1 : Int)) = ((1 : Nat) : Int) from rfl, HT.sIx_nat, List.length_cons, Nat.min_eq_left (by omega)]
    exact List.take_of_length_le (by rw [List.drop_one, List.tail_cons]; omega)
  have ep : pcutS (⟨(c0 :: t).toArray⟩ : Str) (some 1) none = some ⟨t.toArray⟩ := by
    unfold pcutS
    rw [if_pos (Nat.le_trans hl (by decide)), ez]
  have eq : pcat (⟨#[dr c0]⟩ : Str) ⟨t.toArray⟩ = some ⟨(dr c0 :: t).toArray⟩ := by
    rw [pcat_sm (by show 1 + (List.toArray _).size ≤ 1000; rw [List.size_toArray]; omega)]
    congr 1
    show (⟨_ ++ _⟩ : Str) = _
    congr 1
    simp
  unfold m_l_with_door
  have e0b : ∀ (rows : List Str) (f : Str), (fun x (s : Str) => m_l_with_door_b1 rows f x s) = (fun x (s : Str) => m_l_with_door_b1 [] f x s) := fun _ _ => rfl
  simp only [e0, ec, o2, Option.bind_some, decide_true, decide_false, Bool.not_true, Bool.not_false, Bool.false_eq_true, Bool.true_eq_false, if_false, if_true, ite_true, ite_false, Bool.true_or, Bool.or_false, Bool.false_or, eq_self_iff_true, reduceCtorEq]
  rw [e, Option.bind_some, e0b, hrun]
  simp only [ep, eq, ec2, o2, Option.bind_some, decide_true, decide_false, Bool.not_true, Bool.not_false, Bool.false_eq_true, Bool.true_eq_false, if_false, if_true, ite_true, ite_false, Bool.true_or, Bool.or_false, Bool.false_or, eq_self_iff_true, reduceCtorEq]
  rw [plst_some (by show 1 < 1000000; decide)]
  simp only [ec2, o2, Option.bind_some, decide_true, decide_false, Bool.not_true, Bool.not_false, Bool.false_eq_true, Bool.true_eq_false, if_false, if_true, ite_true, ite_false, Bool.true_or, Bool.or_false, Bool.false_or, eq_self_iff_true, reduceCtorEq]
  rw [plst_some (by simp; omega)]
  rfl
theorem dr_ok {c : Nat} (hc : c ∈ Tl) : dr c ∈ Tl ∧ isD (dr c) = true ∧ (isD c = true ∨ stn (dr c) = stn c) := by
  have hb := List.all_eq_true.mp drB_all c hc
  unfold drB at hb
  simp only [Bool.and_eq_true, decide_eq_true_eq, Bool.or_eq_true] at hb
  exact ⟨hb.1.1.2, hb.1.2, hb.2⟩
def St (rows : List Str) (k : Int) : Prop := ∃ r ∈ rows, ∃ c ∈ r.cps.toList, stn c = some k
/-- a map's rows -/
structure Map (w : Nat) (rows : List Str) : Prop where
  w0 : 0 < w
  w6 : w ≤ 6
  h0 : 0 < rows.length
  h5 : rows.length ≤ 5
  sm : Sm w rows
  tl : Tls rows
  door : ∃ r ∈ rows, ∃ c ∈ r.cps.toList, isD c = true
  cons : ∀ k, St rows k → ∀ j, 0 ≤ j → j ≤ k → St rows j
theorem usd_mem {rows : List Str} {k : Int} : k ∈ usd rows ↔ (k = 0 ∨ k = 1 ∨ k = 2) ∧ St rows k := by
  unfold usd St
  rw [List.mem_filter, List.any_eq_true]
  simp only [List.mem_cons, List.not_mem_nil, or_false]
  constructor
  · rintro ⟨h, r, hr, e⟩
    unfold hasK at e
    rw [List.any_eq_true] at e
    obtain ⟨c, hc, e⟩ := e
    exact ⟨h, r, hr, c, hc, of_decide_eq_true e⟩
  · rintro ⟨h, r, hr, c, hc, e⟩
    refine ⟨h, r, hr, ?_⟩
    unfold hasK
    rw [List.any_eq_true]
    exact ⟨c, hc, decide_eq_true e⟩
theorem st_usd {rows : List Str} {k : Int} (h : St rows k) : k ∈ usd rows := by
  refine usd_mem.mpr ⟨?_, h⟩
  obtain ⟨_, _, c, _, e⟩ := h
  have := stn_lt e
  omega
def ren (us : List Int) (r : Str) : Str := ⟨(r.cps.toList.map (rn us)).toArray⟩
theorem ren_len (us : List Int) (r : Str) : (ren us r).length = r.length := by
  show (List.toArray _).size = r.cps.size
  rw [List.size_toArray, List.length_map, Array.length_toList]
theorem ren_cons {rows : List Str} (ht : Tls rows) : ∀ k, St (rows.map (ren (usd rows))) k → ∀ j, 0 ≤ j → j ≤ k → St (rows.map (ren (usd rows))) j := by
  have hu := usd_subs rows
  have nd : ∀ us ∈ subs, us.Nodup := by decide
  have hok : ∀ r ∈ rows, ∀ c ∈ r.cps.toList, okc (usd rows) c = true := fun r hr c hc => by
    unfold okc
    cases e : stn c with
    | none => rfl
    | some k => exact decide_eq_true (st_usd ⟨r, hr, c, hc, e⟩)
  rintro k ⟨r', hr', c', hc', e'⟩ j h0 hj
  obtain ⟨r, hr, rfl⟩ := List.mem_map.mp hr'
  obtain ⟨c, hc, rfl⟩ := List.mem_map.mp (show c' ∈ r.cps.toList.map (rn (usd rows)) from hc')
  have F := rnF hu (ht r hr c hc) (hok r hr c hc)
  rw [F.st] at e'
  cases em : stn c with
  | none =>
    rw [em] at e'
    cases e'
  | some m =>
    rw [em] at e'
    have e' : (((usd rows).idxOf m : Nat) : Int) = k := Option.some.inj e'
    have hm : m ∈ usd rows := st_usd ⟨r, hr, c, hc, em⟩
    have hlt := List.idxOf_lt_length_of_mem hm
    obtain ⟨n, rfl⟩ := Int.eq_ofNat_of_zero_le h0
    have hn : n < (usd rows).length := by omega
    obtain ⟨_, r2, hr2, c2, hc2, e2⟩ := usd_mem.mp (List.getElem_mem hn)
    have F2 := rnF hu (ht r2 hr2 c2 hc2) (hok r2 hr2 c2 hc2)
    refine ⟨ren (usd rows) r2, List.mem_map.mpr ⟨r2, hr2, rfl⟩, rn (usd rows) c2, ?_, ?_⟩
    · show _ ∈ r2.cps.toList.map (rn (usd rows))
      exact List.mem_map.mpr ⟨c2, hc2, rfl⟩
    · rw [F2.st, e2]
      dsimp only [Option.map]
      rw [List.Nodup.idxOf_getElem (nd _ hu) n hn]
theorem rows_ok2 (ds : List Int) : ∃ w rows ds', m_l_rows ds () = some (rows, ds') ∧ Map w rows := by
  suffices h : Ok (m_l_rows ds ()) fun r => ∃ w, Map w r.1 by
    obtain ⟨⟨rows, d⟩, e, w, h⟩ := h
    exact ⟨w, rows, d, e, h⟩
  unfold m_l_rows n_l_rows
  obtain ⟨a, d1, e1, a0, a1⟩ := draw_some (ds := ds) (n := 5) (by decide)
  obtain ⟨b, d2, e2, b0, b1⟩ := draw_some (ds := d1) (n := 6) (by decide)
  obtain ⟨c, d3, e3, _, _⟩ := draw_some (ds := d2) (n := 3) (by decide)
  obtain ⟨m, d4, e4, m0, m1⟩ := draw_some (ds := d3) (n := 4) (by decide)
  obtain ⟨an, rfl⟩ := Int.eq_ofNat_of_zero_le a0
  obtain ⟨bn, rfl⟩ := Int.eq_ofNat_of_zero_le b0
  simp only [o2, Option.bind_some, ok_bind, ok_some, ok_if]
  rw [ok_eq e1]
  (try simp only [o2, Option.bind_some, ok_bind, ok_some, ok_if])
  rw [ok_eq e2]
  (try simp only [o2, Option.bind_some, ok_bind, ok_some, ok_if])
  rw [ok_eq e3]
  (try simp only [o2, Option.bind_some, ok_bind, ok_some, ok_if])
  rw [ok_eq (pmul_l (by decide) (by decide)), ok_eq e4]
  (try simp only [o2, Option.bind_some, ok_bind, ok_some, ok_if])
  have er : ∀ n : Nat, n ≤ 10 → prange1 ((1 : Int) + (n : Int)) = some (rangeL 0 ((n + 1 : Nat) : Int)) := fun n hn => by
    rw [show (1 : Int) + (n : Int) = ((n + 1 : Nat) : Int) by omega]
    exact if_pos (by omega)
  rw [ok_eq (er an (by omega))]
  refine ok_forNr (fun i (s : List Int × List Str) => s.2.length = i ∧ Sm (bn + 1) s.2 ∧ Tls s.2) ⟨rfl, (fun r hr => by cases hr), (fun r hr => by cases hr)⟩ (fun i s hi hI => ?_) (fun s hI => ?_)
  · obtain ⟨d, rs⟩ := s
    obtain ⟨h1, h2, h3⟩ := hI
    dsimp only at h1 h2 h3
    unfold m_l_rows_b1
    simp only [o2, Option.bind_some, ok_bind, ok_some, ok_if]
    rw [ok_eq (er bn (by omega))]
    refine ok_forNr (fun j (t : (List Int × List Str) × Str) => t.1.2 = rs ∧ t.2.length = j ∧ ∀ c ∈ t.2.cps.toList, c ∈ Tl) ⟨rfl, nil_len, (fun c hc => by rw [show ("" : Str).cps.toList = [] by decide +kernel] at hc; cases hc)⟩ (fun j t hj hJ => ?_) (fun t hJ => ?_)
    · obtain ⟨⟨d', rs'⟩, t⟩ := t
      obtain ⟨g1, g2, g3⟩ := hJ
      dsimp only at g1 g2 g3
      subst g1
      unfold m_l_rows_b2
      simp only [o2, Option.bind_some, ok_bind, ok_some, ok_if]
      obtain ⟨k, d5, e5, hk⟩ := tile_ok2 d' (2 * c) m (by omega)
      rw [ok_eq e5]
      (try simp only [o2, Option.bind_some, ok_bind, ok_some, ok_if])
      rw [ok_eq (pcat_sm (by show t.length + 1 ≤ 1000; omega))]
      refine ⟨(by first | rfl | trivial), by show (t ++ (⟨#[k]⟩ : Str)).length = _; rw [len_cat, g2]; rfl, fun c' hc' => ?_⟩
      rw [show (t ++ (⟨#[k]⟩ : Str)).cps.toList = t.cps.toList ++ [k] from Array.toList_append] at hc'
      rcases List.mem_append.mp hc' with h | h
      · exact g3 c' h
      · rw [List.mem_singleton.mp h]
        exact hk
    · obtain ⟨⟨d', rs'⟩, t⟩ := t
      obtain ⟨g1, g2, g3⟩ := hJ
      dsimp only at g1 g2 g3
      subst g1
      (try simp only [o2, Option.bind_some, ok_bind, ok_some, ok_if])
      rw [ok_papp (by omega)]
      refine ⟨by show (rs' ++ [t]).length = _; rw [List.length_append, h1]; rfl, fun r hr => ?_, fun r hr => ?_⟩
      · rcases List.mem_append.mp hr with h | h
        · exact h2 r h
        · rw [List.mem_singleton.mp h, g2]
      · rcases List.mem_append.mp hr with h | h
        · exact h3 r h
        · rw [List.mem_singleton.mp h]
          exact g3
  · obtain ⟨d, rs⟩ := s
    obtain ⟨h1, h2, h3⟩ := hI
    dsimp only at h1 h2 h3
    (try simp only [o2, Option.bind_some, ok_bind, ok_some, ok_if])
    have hu := usd_subs rs
    rw [ok_eq (used_ok2 rs), ok_pbig (by omega)]
    have hren : ∀ r ∈ rs, m_l_renamed r (usd rs) = some (ren (usd rs) r) := fun r hr => renamed_ok2 hu (by have := h2 r hr; omega) fun c hc => ⟨h3 r hr c hc, by
      unfold okc
      cases e : stn c with
      | none => rfl
      | some k => exact decide_eq_true (st_usd ⟨r, hr, c, hc, e⟩)⟩
    refine ok_lcF (fun _ => true) (ren (usd rs)) (fun _ _ => rfl) (fun r hr _ => hren r hr) ?_
    rw [List.filter_eq_self.mpr fun _ _ => rfl]
    have r1 : (rs.map (ren (usd rs))).length = an + 1 := by rw [List.length_map, h1]
    have r2 : Sm (bn + 1) (rs.map (ren (usd rs))) := fun r hr => by
      obtain ⟨q, hq, rfl⟩ := List.mem_map.mp hr
      rw [ren_len, h2 q hq]
    have r3 : Tls (rs.map (ren (usd rs))) := fun r hr c' hc' => by
      obtain ⟨q, hq, rfl⟩ := List.mem_map.mp hr
      obtain ⟨c, hc, rfl⟩ := List.mem_map.mp (show c' ∈ q.cps.toList.map (rn (usd rs)) from hc')
      refine (rnF hu (h3 q hq c hc) ?_).tl
      unfold okc
      cases e : stn c with
      | none => rfl
      | some k => exact decide_eq_true (st_usd ⟨q, hq, c, hc, e⟩)
    have r4 := ren_cons h3
    generalize rs.map (ren (usd rs)) = R at r1 r2 r3 r4 ⊢
    show Ok (m_l_has_door R) _
    rw [ok_eq (has_door2 R)]
    refine ⟨fun hno => ?_, fun hyes => ⟨bn + 1, ⟨by omega, by omega, by show 0 < R.length; omega, by show R.length ≤ 5; omega, r2, r3, ?_, r4⟩⟩⟩
    · cases R with
      | nil => cases r1
      | cons r0 rest =>
        have hl0 := r2 r0 List.mem_cons_self
        obtain ⟨⟨l⟩⟩ := r0
        cases l with
        | nil => cases hl0
        | cons c0 t =>
          have hc0 : c0 ∈ Tl := r3 _ List.mem_cons_self c0 List.mem_cons_self
          have hlt : (c0 :: t).length = bn + 1 := hl0
          rw [List.length_cons] at hlt r1
          rw [ok_eq (with_door2 hc0 (by omega) (by omega))]
          obtain ⟨q1, q2, q3⟩ := dr_ok hc0
          have hnd : isD c0 = false := by
            have : (((⟨(c0 :: t).toArray⟩ : Str) :: rest).any fun r => r.cps.toList.any isD) = false := by simpa using hno
            rw [List.any_cons, Bool.or_eq_false_iff] at this
            have := this.1
            rw [show (⟨(c0 :: t).toArray⟩ : Str).cps.toList = c0 :: t from rfl, List.any_cons, Bool.or_eq_false_iff] at this
            exact this.1
          have q4 : stn (dr c0) = stn c0 := q3.resolve_left (by rw [hnd]; exact Bool.false_ne_true)
          have stE : ∀ k, St ((⟨(dr c0 :: t).toArray⟩ : Str) :: rest) k ↔ St ((⟨(c0 :: t).toArray⟩ : Str) :: rest) k := fun k => by
            constructor
            · rintro ⟨r, hr, c, hc, e⟩
              rcases List.mem_cons.mp hr with h | h
              · subst h
                rcases List.mem_cons.mp (show c ∈ dr c0 :: t from hc) with h | h
                · exact ⟨_, List.mem_cons_self, c0, List.mem_cons_self, by rw [← q4, ← h]; exact e⟩
                · exact ⟨_, List.mem_cons_self, c, List.mem_cons_of_mem _ h, e⟩
              · exact ⟨r, List.mem_cons_of_mem _ h, c, hc, e⟩
            · rintro ⟨r, hr, c, hc, e⟩
              rcases List.mem_cons.mp hr with h | h
              · subst h
                rcases List.mem_cons.mp (show c ∈ c0 :: t from hc) with h | h
                · exact ⟨_, List.mem_cons_self, dr c0, List.mem_cons_self, by rw [q4, ← h]; exact e⟩
                · exact ⟨_, List.mem_cons_self, c, List.mem_cons_of_mem _ h, e⟩
              · exact ⟨r, List.mem_cons_of_mem _ h, c, hc, e⟩
          refine ⟨bn + 1, ⟨by omega, by omega, by show 0 < (_ :: rest).length; rw [List.length_cons]; omega, by show (_ :: rest).length ≤ 5; rw [List.length_cons]; omega, fun r hr => ?_, fun r hr => ?_, ⟨_, List.mem_cons_self, dr c0, List.mem_cons_self, q2⟩, fun k hk j j0 jk => (stE j).mpr (r4 k ((stE k).mp hk) j j0 jk)⟩⟩
          · rcases List.mem_cons.mp hr with h | h
            · subst h
              show (List.toArray _).size = _
              rw [List.size_toArray, List.length_cons, hlt]
            · exact r2 r (List.mem_cons_of_mem _ h)
          · rcases List.mem_cons.mp hr with h | h
            · subst h
              intro c hc
              rcases List.mem_cons.mp (show c ∈ dr c0 :: t from hc) with h | h
              · rw [h]
                exact q1
              · exact r3 _ List.mem_cons_self c (List.mem_cons_of_mem _ h)
            · exact r3 r (List.mem_cons_of_mem _ h)
    · have : (R.any fun r => r.cps.toList.any isD) = true := by simpa using hyes
      rw [List.any_eq_true] at this
      obtain ⟨r, hr, h⟩ := this
      rw [List.any_eq_true] at h
      obtain ⟨c, hc, h⟩ := h
      exact ⟨r, hr, c, hc, h⟩
/-! a whole map has no fault -/
def Tn (rows : List Str) : List Nat := (rows.map fun r => r.cps.toList).flatten
theorem joinL_nil : ∀ l : List (List Nat), TL.joinL [] l = l.flatten
  | [] => rfl
  | [p] => by simp [TL.joinL]
  | p :: q :: r => by
    show p ++ ([] ++ TL.joinL [] (q :: r)) = _
    rw [joinL_nil (q :: r)]
    simp
theorem join_rows (rows : List Str) : Txt.join "" rows = ⟨(Tn rows).toArray⟩ := by
  have e := SX.join_S [] (rows.map fun r => r.cps.toList)
  rw [joinL_nil, List.map_map] at e
  have : rows.map (SX.S ∘ fun r => r.cps.toList) = rows := by
    conv => rhs; rw [← List.map_id rows]
    exact List.map_congr_left fun r _ => SX.S_tl r
  rw [this] at e
  exact e
theorem sum_le {w : Nat} : ∀ {rows : List Str}, Sm w rows → (rows.map (·.length)).sum ≤ rows.length * w
  | [], _ => Nat.zero_le _
  | a :: l, hs => by
    have h1 := hs a List.mem_cons_self
    have h2 := sum_le fun r hr => hs r (List.mem_cons_of_mem _ hr)
    rw [List.map_cons, List.sum_cons, List.length_cons, Nat.succ_mul]
    omega
theorem tn_mem {rows : List Str} {c : Nat} : c ∈ Tn rows ↔ ∃ r ∈ rows, c ∈ r.cps.toList := by
  unfold Tn
  rw [List.mem_flatten]
  constructor
  · rintro ⟨l, hl, hc⟩
    obtain ⟨r, hr, rfl⟩ := List.mem_map.mp hl
    exact ⟨r, hr, hc⟩
  · rintro ⟨r, hr, hc⟩
    exact ⟨_, List.mem_map.mpr ⟨r, hr, rfl⟩, hc⟩
theorem tn_len {rows : List Str} : (Tn rows).length = (rows.map (·.length)).sum := by
  unfold Tn
  rw [List.length_flatten, List.map_map]
  congr 1
theorem max_mem : ∀ (r : List Int) (n : Int), r.foldl max n ∈ n :: r
  | [], n => List.mem_cons_self
  | a :: r, n => by
    rw [List.foldl_cons]
    have := max_mem r (max n a)
    rcases List.mem_cons.mp this with h | h
    · rw [h]
      by_cases q : n ≤ a
      · rw [show max n a = a by omega]
        exact List.mem_cons_of_mem _ List.mem_cons_self
      · rw [show max n a = n by omega]
        exact List.mem_cons_self
    · exact List.mem_cons_of_mem _ (List.mem_cons_of_mem _ h)
theorem isD_all : (Tl.all fun c => isD c == decide (c = 43 ∨ c = 97 ∨ c = 98 ∨ c = 99)) = true := by decide +kernel
theorem isD_eq {c : Nat} (h : c ∈ Tl) : isD c = decide (c = 43 ∨ c = 97 ∨ c = 98 ∨ c = 99) := eq_of_beq (List.all_eq_true.mp isD_all c h)
def nums (rows : List Str) : List Int := (Tn rows).filterMap stn
theorem nums_mem {rows : List Str} {k : Int} : k ∈ nums rows ↔ St rows k := by
  unfold nums St
  rw [List.mem_filterMap]
  constructor
  · rintro ⟨c, hc, e⟩
    obtain ⟨r, hr, h⟩ := tn_mem.mp hc
    exact ⟨r, hr, c, h, e⟩
  · rintro ⟨r, hr, c, h, e⟩
    exact ⟨c, tn_mem.mpr ⟨r, hr, h⟩, e⟩
theorem nums_run {l : List Nat} (ht : ∀ c ∈ l, c ∈ Tl) : lcF (fun x => (Option.bind (m_station_of x) fun x => some (x.isSome))) (fun x => (Option.bind (m_station_of x) fun x => x)) (l.map fun c => (⟨#[c]⟩ : Str)) = some (l.filterMap stn) := by
  induction l with
  | nil => rfl
  | cons c l ih =>
    have F := tlF (ht c List.mem_cons_self)
    have ih := ih fun d hd => ht d (List.mem_cons_of_mem _ hd)
    rw [List.map_cons]
    show ((Option.bind (m_station_of ⟨#[c]⟩) fun x => some (x.isSome)).bind fun b => if b = true then ((Option.bind (m_station_of ⟨#[c]⟩) fun x => x)).bind fun y => (lcF _ _ (l.map fun c => (⟨#[c]⟩ : Str))).bind fun ys => some (y :: ys) else lcF _ _ (l.map fun c => (⟨#[c]⟩ : Str))) = _
    rw [F.stn, ih]
    cases e : stn c with
    | none => rw [List.filterMap_cons_none e]; rfl
    | some k => rw [List.filterMap_cons_some e]; rfl
theorem whole_ok {w : Nat} {rows : List Str} (M : Map w rows) : m_whole_problem rows = some ("" : Str) := by
  have hsum := sum_le M.sm
  have h5 := M.h5
  have h6 := M.w6
  have hm : rows.length * w ≤ 5 * 6 := Nat.mul_le_mul h5 h6
  have hT : ∀ c ∈ Tn rows, c ∈ Tl := fun c hc => by
    obtain ⟨r, hr, h⟩ := tn_mem.mp hc
    exact M.tl r hr c h
  have hl : (Tn rows).length ≤ 30 := by rw [tn_len]; omega
  have ne : rows.isEmpty = false := by
    cases rows with
    | nil => exact absurd M.h0 (Nat.lt_irrefl 0)
    | cons => rfl
  have ej : pjoin "" rows = some ⟨(Tn rows).toArray⟩ := by
    unfold pjoin
    rw [if_pos (by rw [nil_len]; omega), join_rows]
  have ed : ((Tn rows).any fun c => [c] == ("+" : Str).cps.toList || decide (c ∈ ("abcdefghijklmnopqrstuvwxyz" : Str).cps.toList)) = true := by
    obtain ⟨r, hr, c, hc, hd⟩ := M.door
    have hcT := tn_mem.mpr ⟨r, hr, hc⟩
    rw [List.any_eq_true]
    refine ⟨c, hcT, ?_⟩
    rw [(tlF (hT c hcT)).dr, ← isD_eq (hT c hcT)]
    exact hd
  suffices h : Ok (m_whole_problem rows) fun x => x = ("" : Str) by
    obtain ⟨x, e, rfl⟩ := h
    exact e
  unfold m_whole_problem
  simp only [ne, o2, Option.bind_some, ok_bind, ok_some, ok_if]
  refine ⟨(fun z => by simp at z), fun _ => ?_⟩
  rw [ok_eq ej]
  (try simp only [o2, Option.bind_some, ok_bind, ok_some, ok_if])
  refine ⟨fun z => ?_, fun _ => ?_⟩
  · have z : (!((Tn rows).any fun c => [c] == ("+" : Str).cps.toList || decide (c ∈ ("abcdefghijklmnopqrstuvwxyz" : Str).cps.toList))) = true := z
    rw [ed] at z
    cases z
  have es : sgns (⟨(Tn rows).toArray⟩ : Str) = (Tn rows).map fun c => (⟨#[c]⟩ : Str) := rfl
  rw [es, ok_pbig (by rw [List.length_map]; omega), ok_eq (nums_run hT)]
  have hmax : pmaxD (nums rows) (-1) = -1 ∧ nums rows = [] ∨ St rows (pmaxD (nums rows) (-1)) := by
    cases e : nums rows with
    | nil => exact .inl ⟨rfl, rfl⟩
    | cons n r =>
      refine .inr (nums_mem.mp ?_)
      rw [e]
      exact max_mem r n
  have hlt : -1 ≤ pmaxD (nums rows) (-1) ∧ pmaxD (nums rows) (-1) < 3 := by
    rcases hmax with ⟨h, _⟩ | ⟨_, _, c, _, e⟩
    · omega
    · have := stn_lt e
      omega
  obtain ⟨n, hn⟩ := Int.eq_ofNat_of_zero_le (show 0 ≤ pmaxD (nums rows) (-1) + 1 by omega)
  have er : prange1 (pmaxD ((Tn rows).filterMap stn) (-1) + 1) = some (rangeL 0 ((n : Nat) : Int)) := by
    show prange1 (pmaxD (nums rows) (-1) + 1) = _
    rw [hn]
    exact if_pos (by omega)
  rw [ok_eq er]
  refine ok_forFr (fun _ _ => True) trivial (fun i s hi _ => ?_) (fun s _ => ?_)
  · have hmem : (i : Int) ∈ (Tn rows).filterMap stn := by
      show (i : Int) ∈ nums rows
      rcases hmax with ⟨h, _⟩ | h
      · omega
      · exact nums_mem.mpr (M.cons _ h _ (by omega) (by omega))
    unfold m_whole_problem_b1
    rw [decide_eq_true hmem]
    exact ⟨_, rfl, trivial⟩
  · exact ⟨_, rfl, rfl⟩
abbrev sg (c : Nat) : Str := ⟨#[c]⟩
theorem app_sg (cs : List Nat) (c : Nat) : (⟨cs.toArray⟩ : Str) ++ sg c = ⟨(cs ++ [c]).toArray⟩ := by
  show (⟨_ ++ _⟩ : Str) = _
  congr 1
  simp
theorem rd_row {w : Nat} {rs : List Str} (hw : w ≤ 10) (hs : Sm w rs) (hl : rs.length ≤ 10) : ∀ (l acc : List Nat), acc.length + l.length ≤ w → (∀ c ∈ l, c ∈ Tl) → Rd ⟨l.toArray⟩ rs ⟨acc.toArray⟩ rs ⟨(acc ++ l).toArray⟩
  | [], acc, _, _ => by
    rw [List.append_nil]
    exact rd_nil
  | c :: l, acc, h, ht => by
    rw [List.length_cons] at h
    have h1 := rd_tl (w := w) (ht c List.mem_cons_self) hw hs hl (row := ⟨acc.toArray⟩) (by show acc.toArray.size < w; rw [List.size_toArray]; omega)
    have h2 := rd_row hw hs hl l (acc ++ [c]) (by rw [List.length_append, List.length_singleton]; omega) fun d hd => ht d (List.mem_cons_of_mem _ hd)
    have e1 : (⟨#[c]⟩ : Str) ++ (⟨l.toArray⟩ : Str) = ⟨(c :: l).toArray⟩ := by
      show (⟨_ ++ _⟩ : Str) = _
      congr 1
      simp
    have e2 : (⟨acc.toArray⟩ : Str) ++ (⟨#[c]⟩ : Str) = ⟨(acc ++ [c]).toArray⟩ := app_sg acc c
    rw [e2] at h1
    rw [← e1]
    have := rd_cat h1 h2
    rw [List.append_assoc] at this
    exact this
theorem rd_join {w : Nat} (hw : w ≤ 10) (hw0 : 0 < w) : ∀ (l rs : List Str), l ≠ [] → Sm w l → Tls l → Sm w rs → rs.length + l.length ≤ 10 → ∃ l' r, l = l' ++ [r] ∧ Rd (SX.S (TL.joinL [10] (l.map fun r : Str => r.cps.toList))) rs "" (rs ++ l') r
  | [], _, h, _, _, _, _ => absurd rfl h
  | [r], rs, _, hs, ht, hr, hl => by
    refine ⟨[], r, rfl, ?_⟩
    rw [List.append_nil]
    have hlen : r.cps.toList.length = w := by rw [Array.length_toList]; exact hs r List.mem_cons_self
    have := rd_row hw hr (by omega) r.cps.toList [] (by rw [hlen]; simp) (ht r List.mem_cons_self)
    rw [List.nil_append] at this
    have e : (⟨([] : List Nat).toArray⟩ : Str) = "" := by decide +kernel
    rw [e] at this
    exact this
  | r :: q :: l, rs, _, hs, ht, hr, hl => by
    rw [List.length_cons] at hl
    have hrw := hs r List.mem_cons_self
    have hne : r ≠ "" := fun z => by
      have := nil_iff.mp z
      omega
    obtain ⟨l', z, e, h⟩ := rd_join hw hw0 (q :: l) (rs ++ [r]) (by simp) (fun a ha => hs a (List.mem_cons_of_mem _ ha)) (fun a ha => ht a (List.mem_cons_of_mem _ ha)) (fun a ha => by
      rcases List.mem_append.mp ha with h | h
      · exact hr a h
      · rw [List.mem_singleton.mp h]; exact hrw) (by rw [List.length_append, List.length_singleton]; omega)
    refine ⟨r :: l', z, by rw [e]; rfl, ?_⟩
    have hlen : r.cps.toList.length = w := by rw [Array.length_toList]; exact hrw
    have h1 := rd_row hw hr (by omega) r.cps.toList [] (by rw [hlen]; simp) (ht r List.mem_cons_self)
    rw [List.nil_append] at h1
    have e0 : (⟨([] : List Nat).toArray⟩ : Str) = "" := by decide +kernel
    rw [e0] at h1
    have h2 := rd_nl hw hr (by omega) (.inr hrw)
    rw [if_neg hne] at h2
    have h3 := rd_cat (rd_cat h1 h2) h
    rw [List.append_assoc] at h3
    have es : (⟨r.cps.toList.toArray⟩ : Str) ++ "\n" ++ SX.S (TL.joinL [10] ((q :: l).map fun r : Str => r.cps.toList)) = SX.S (TL.joinL [10] ((r :: q :: l).map fun r : Str => r.cps.toList)) := by
      have en : ("\n" : Str) = ⟨#[10]⟩ := by decide +kernel
      rw [en]
      show (⟨_ ++ _ ++ _⟩ : Str) = ⟨_⟩
      congr 1
      show _ = (r.cps.toList ++ ([10] ++ TL.joinL [10] ((q :: l).map fun r : Str => r.cps.toList))).toArray
      simp
    rw [es] at h3
    exact h3
theorem join_text {w : Nat} {rows : List Str} (M : Map w rows) : ∃ x, pjoin "\n" rows = some x ∧ Ends' x rows := by
  have h5 := M.h5
  have h6 := M.w6
  have hsum := sum_le M.sm
  have hm : rows.length * w ≤ 5 * 6 := Nat.mul_le_mul h5 h6
  have e : Txt.join "\n" rows = SX.S (TL.joinL [10] (rows.map fun r : Str => r.cps.toList)) := by
    have e := SX.join_S [10] (rows.map fun r : Str => r.cps.toList)
    rw [List.map_map] at e
    have : rows.map (SX.S ∘ fun r => r.cps.toList) = rows := by
      conv => rhs; rw [← List.map_id rows]
      exact List.map_congr_left fun r _ => SX.S_tl r
    rw [this] at e
    have en : ("\n" : Str) = SX.S [10] := by decide +kernel
    rw [en]
    exact e
  refine ⟨SX.S (TL.joinL [10] (rows.map fun r : Str => r.cps.toList)), ?_, ?_⟩
  · unfold pjoin
    rw [if_pos (by rw [nl_len]; omega), e]
  · obtain ⟨l', r, e1, h⟩ := rd_join (w := w) (by omega) M.w0 rows [] (fun z => by have := M.h0; rw [z] at this; exact absurd this (Nat.lt_irrefl 0)) M.sm M.tl (fun r hr => (nomatch hr)) (by show 0 + _ ≤ _; omega)
    exact .inr ⟨l', r, e1, h⟩
theorem law_true (ns : List Int) (hl : ns.length ≤ 63) : m_law ⟨ns⟩ = some true := by
  refine Ok.eq ?_
  unfold m_law
  obtain ⟨ds, hd⟩ := digits_some ns (a := 0) (l := 63) (by decide) (by decide) (by decide)
  obtain ⟨w, rows, d1, e1, M⟩ := rows_ok2 ds
  obtain ⟨x, d2, e2, hx⟩ := text_ok M.w6 M.w0 M.sm M.h5 M.h0 M.tl d1
  obtain ⟨y, e3, hy⟩ := join_text M
  have s1 := scan_ok M.w6 M.w0 M.sm M.h5 hx (whole_ok M)
  have s2 := scan_ok M.w6 M.w0 M.sm M.h5 hy (whole_ok M)
  have chk : ∀ {t : Str}, m_scan t = some (rows, none) → m_check_map t = some none := fun {t} e => by
    unfold m_check_map
    rw [e]
    rfl
  have rd : ∀ {t : Str}, m_scan t = some (rows, none) → m_read_rows t = some rows := fun {t} e => by
    unfold m_read_rows
    rw [e]
    rfl
  have fm : ∀ {t : Str}, m_scan t = some (rows, none) → m_format_map t = some y := fun {t} e => by
    unfold m_format_map
    simp only [Option.bind_some]
    rw [rd e]
    simp only [Option.bind_some]
    rw [e3]
    rfl
  have h5 := M.h5
  rw [ok_bind, ok_eq hd, ok_bind, ok_bind]
  dsimp only
  rw [ok_eq e1, ok_some, ok_bind, ok_bind]
  dsimp only
  rw [ok_eq e2, ok_some, ok_bind]
  dsimp only
  simp only [o2, Option.bind_some]
  rw [ok_eq e3, chk s1]
  simp only [Option.bind_some, Option.isSome_none, Bool.false_eq_true, if_false]
  rw [chk s2]
  simp only [Option.bind_some, Option.isSome_none, Bool.false_eq_true, if_false]
  rw [rd s1]
  simp only [Option.bind_some, Bool.not_true, Bool.false_eq_true, if_false, decide_true]
  rw [ok_bind, ok_prange1 (by omega), ok_bind]
  have L1 : ∀ st0 : Unit × List Int, Ok (forF (fun k (s : ((Unit × (List Int)) × (List Str))) => m_law_b1 ⟨ns⟩ rows x y k s) (rangeL 0 ((rows.length : Nat) : Int)) (st0, rows)) fun f => f = .nx (st0, rows) := fun st0 => by
    refine ok_forFr (fun i (s : ((Unit × (List Int)) × (List Str))) => s = (st0, rows)) rfl (fun i s hi hI => ?_) (fun s hI => by rw [hI])
    subst hI
    have ex : rows[i]? = some rows[i] := List.getElem?_eq_getElem hi
    have ea : at? rows (i : Int) = some rows[i] := (ok_at (Q := fun y => y = rows[i]) ex).mpr rfl |> Ok.eq
    unfold m_law_b1
    dsimp only
    rw [ea]
    simp only [o2, Option.bind_some, Bool.not_true, Bool.false_eq_true, if_false, decide_true]
    exact ok_some.mpr rfl
  refine (L1 _).mono fun f hf => ?_
  subst hf
  dsimp only
  rw [ok_bind, ok_bind]
  rw [ok_papp (by omega), ok_some]
  dsimp only
  rw [fm s1]
  simp only [Option.bind_some, Bool.not_true, Bool.false_eq_true, if_false, decide_true]
  rw [fm s2]
  simp only [Option.bind_some, Bool.not_true, Bool.false_eq_true, if_false, decide_true]
  rw [if_pos trivial, rd s2]
  simp only [Option.bind_some, decide_true]
  exact ok_some.mpr rfl
end Cw

set_option Elab.async false
set_option linter.all false
set_option maxRecDepth 100000
set_option maxHeartbeats 4000000
namespace Cw
open PySem L2 Cf
open PySem.Spec PyProof.Rows
def d_l_cell : He.DefD := ⟨("_law_cell", none), "_law_cell", "_law_cell", defArgs s_l_cell, defBody s_l_cell, defScope s_l_cell, [], []⟩
def d_l_digits : He.DefD := ⟨("_law_digits", none), "_law_digits", "_law_digits", defArgs s_l_digits, defBody s_l_digits, defScope s_l_digits, [], []⟩
def d_l_draw : He.DefD := ⟨("_law_draw", none), "_law_draw", "_law_draw", defArgs s_l_draw, defBody s_l_draw, defScope s_l_draw, [], []⟩
def d_l_tile : He.DefD := ⟨("_law_tile", none), "_law_tile", "_law_tile", defArgs s_l_tile, defBody s_l_tile, defScope s_l_tile, [], []⟩
def d_l_used : He.DefD := ⟨("_law_used", none), "_law_used", "_law_used", defArgs s_l_used, defBody s_l_used, defScope s_l_used, [], []⟩
def d_l_renamed : He.DefD := ⟨("_law_renamed", none), "_law_renamed", "_law_renamed", defArgs s_l_renamed, defBody s_l_renamed, defScope s_l_renamed, [], []⟩
def d_l_has_door : He.DefD := ⟨("_law_has_door", none), "_law_has_door", "_law_has_door", defArgs s_l_has_door, defBody s_l_has_door, defScope s_l_has_door, [], []⟩
def d_l_with_door : He.DefD := ⟨("_law_with_door", none), "_law_with_door", "_law_with_door", defArgs s_l_with_door, defBody s_l_with_door, defScope s_l_with_door, [], []⟩
def d_l_rows : He.DefD := ⟨("_law_rows", none), "_law_rows", "_law_rows", defArgs s_l_rows, defBody s_l_rows, defScope s_l_rows, [], []⟩
def d_l_blank : He.DefD := ⟨("_law_blank", none), "_law_blank", "_law_blank", defArgs s_l_blank, defBody s_l_blank, defScope s_l_blank, [], []⟩
def d_l_text : He.DefD := ⟨("_law_text", none), "_law_text", "_law_text", defArgs s_l_text, defBody s_l_text, defScope s_l_text, [], []⟩
def d_station_of : He.DefD := ⟨("station_of", none), "station_of", "station_of", defArgs s_station_of, defBody s_station_of, defScope s_station_of, [], []⟩
def d_is_tile : He.DefD := ⟨("is_tile", none), "is_tile", "is_tile", defArgs s_is_tile, defBody s_is_tile, defScope s_is_tile, [], []⟩
def d_is_cell : He.DefD := ⟨("is_cell", none), "is_cell", "is_cell", defArgs s_is_cell, defBody s_is_cell, defScope s_is_cell, [], []⟩
def d_is_door : He.DefD := ⟨("is_door", none), "is_door", "is_door", defArgs s_is_door, defBody s_is_door, defScope s_is_door, [], []⟩
def d_row_problem : He.DefD := ⟨("row_problem", none), "row_problem", "row_problem", defArgs s_row_problem, defBody s_row_problem, defScope s_row_problem, [], []⟩
def d_tile_problem : He.DefD := ⟨("tile_problem", none), "tile_problem", "tile_problem", defArgs s_tile_problem, defBody s_tile_problem, defScope s_tile_problem, [], []⟩
def d_whole_problem : He.DefD := ⟨("whole_problem", none), "whole_problem", "whole_problem", defArgs s_whole_problem, defBody s_whole_problem, defScope s_whole_problem, [], []⟩
def d_scan : He.DefD := ⟨("scan", none), "scan", "scan", defArgs s_scan, defBody s_scan, defScope s_scan, [], []⟩
def d_check_map : He.DefD := ⟨("check_map", none), "check_map", "check_map", defArgs s_check_map, defBody s_check_map, defScope s_check_map, [], []⟩
def d_read_rows : He.DefD := ⟨("read_rows", none), "read_rows", "read_rows", defArgs s_read_rows, defBody s_read_rows, defScope s_read_rows, [], []⟩
def d_format_map : He.DefD := ⟨("format_map", none), "format_map", "format_map", defArgs s_format_map, defBody s_format_map, defScope s_format_map, [], []⟩
def d_law : He.DefD := ⟨("law", none), "law", "law", defArgs s_law, defBody s_law, defScope s_law, [], []⟩
def fnL : List He.DefD := [d_l_cell, d_l_digits, d_l_draw, d_l_tile, d_l_used, d_l_renamed, d_l_has_door, d_l_with_door, d_l_rows, d_l_blank, d_l_text, d_station_of, d_is_tile, d_is_cell, d_is_door, d_row_problem, d_tile_problem, d_whole_problem, d_scan, d_check_map, d_read_rows, d_format_map, d_law]
def faL : List He.Fa := [.free "any", .free "int", .free "isinstance", .free "len", .free "list", .free "max", .free "range", .free "str", .int "CELL_LIMIT" 120, .int "COLUMN_LIMIT" 16, .int "ROW_LIMIT" 16, .int "STATION_LIMIT" 8, .str "CAPITALS" "ABCDEFGHIJKLMNOPQRSTUVWXYZ", .str "SMALL_LETTERS" "abcdefghijklmnopqrstuvwxyz", .glo "_law_cell", .glo "_law_digits", .glo "_law_draw", .glo "_law_tile", .glo "_law_used", .glo "_law_renamed", .glo "_law_has_door", .glo "_law_with_door", .glo "_law_rows", .glo "_law_blank", .glo "_law_text", .glo "station_of", .glo "is_tile", .glo "is_cell", .glo "is_door", .glo "row_problem", .glo "tile_problem", .glo "whole_problem", .glo "scan", .glo "check_map", .glo "read_rows", .glo "format_map", .glo "law"]
def loose : List PySem.Str := (["ClearfloorError", "ValueError", "MapError", "ROW_LIMIT", "COLUMN_LIMIT", "CELL_LIMIT", "STATION_LIMIT", "CAPITALS", "SMALL_LETTERS", "station_of", "is_tile", "is_cell", "is_door", "row_problem", "tile_problem", "whole_problem", "scan", "check_map", "read_rows", "format_map", "_law_cell", "_law_digits", "_law_draw", "_law_tile", "_law_used", "_law_renamed", "_law_has_door", "_law_with_door", "_law_rows", "_law_blank"] : List PySem.Str) ++ (["_law_text"] : List PySem.Str)
abbrev R : PySem.W.OpenRow := PySem.W.OpenLaw.row PySem.Challenge.rw_clearfloor_k00_rows_written_back
def tfL : List He.Defn := [("whole_problem", none)]
def exL (K : PySem.W.Frag) : Bool := true
abbrev hk : PySem.W.Hook := He.hookX 5 faL fnL [] tfL exL
def ob (s : PySem.W.SharedT) : He.AlX := He.obsX 5 faL fnL [] tfL exL (HandSHeadRun.getT s)
theorem ob_eq (s : PySem.W.SharedT) : ob s = hk.obs s.abs := He.obsX_eq (HandSHeadRun.getT_eq s)
set_option maxHeartbeats 0 in
theorem run (w : World) : HandSHeadRun.RunEq R (PySem.W.view R.prog [33]) hk ob 8000 loose w := by
  intro os
  kernel_rfl
theorem facts {P : Program} {w : World} {K : PySem.W.Frag} {h : Heap} {mg : Str → Option Value} {f : Addr} (X : K.In h) (G : h.Ns mainGlobals mg) (hfa : mg ("law" : Str) = some (.ref f)) (c : He.SaysD faL fnL K) (hex : exL K = true) :
    ∃ fd : FuncData, (∀ (s : Shared) (v : Value), BindsTo s fd ⟨[v], []⟩ [("_law_script", v)]) ∧ ∀ base : Heap, K.In base → base.Ns mainGlobals mg → GxR.TabB base mg (He.cT K ("whole_problem", none)).1 (He.cT K ("whole_problem", none)).2 → FnOk P w K mg base CX0 7 f fd ["_law_script"] (sp_law K) := by
  have T : Tx K mg := ⟨He.free_ok X G (c.fact 0 rfl), He.free_ok X G (c.fact 1 rfl), He.free_ok X G (c.fact 2 rfl), He.free_ok X G (c.fact 3 rfl), He.free_ok X G (c.fact 4 rfl), He.free_ok X G (c.fact 5 rfl), He.free_ok X G (c.fact 6 rfl), He.free_ok X G (c.fact 7 rfl), He.int_ok X G (c.fact 8 rfl), He.int_ok X G (c.fact 9 rfl), He.int_ok X G (c.fact 10 rfl), He.int_ok X G (c.fact 11 rfl), He.str_ok X G (c.fact 12 rfl), He.str_ok X G (c.fact 13 rfl)⟩
  obtain ⟨fd0, F0⟩ := c.def_ 0 (d := d_l_cell) rfl
  obtain ⟨fd1, F1⟩ := c.def_ 1 (d := d_l_digits) rfl
  obtain ⟨fd2, F2⟩ := c.def_ 2 (d := d_l_draw) rfl
  obtain ⟨fd3, F3⟩ := c.def_ 3 (d := d_l_tile) rfl
  obtain ⟨fd4, F4⟩ := c.def_ 4 (d := d_l_used) rfl
  obtain ⟨fd5, F5⟩ := c.def_ 5 (d := d_l_renamed) rfl
  obtain ⟨fd6, F6⟩ := c.def_ 6 (d := d_l_has_door) rfl
  obtain ⟨fd7, F7⟩ := c.def_ 7 (d := d_l_with_door) rfl
  obtain ⟨fd8, F8⟩ := c.def_ 8 (d := d_l_rows) rfl
  obtain ⟨fd9, F9⟩ := c.def_ 9 (d := d_l_blank) rfl
  obtain ⟨fd10, F10⟩ := c.def_ 10 (d := d_l_text) rfl
  obtain ⟨fd11, F11⟩ := c.def_ 11 (d := d_station_of) rfl
  obtain ⟨fd12, F12⟩ := c.def_ 12 (d := d_is_tile) rfl
  obtain ⟨fd13, F13⟩ := c.def_ 13 (d := d_is_cell) rfl
  obtain ⟨fd14, F14⟩ := c.def_ 14 (d := d_is_door) rfl
  obtain ⟨fd15, F15⟩ := c.def_ 15 (d := d_row_problem) rfl
  obtain ⟨fd16, F16⟩ := c.def_ 16 (d := d_tile_problem) rfl
  obtain ⟨fd17, F17⟩ := c.def_ 17 (d := d_whole_problem) rfl
  obtain ⟨fd18, F18⟩ := c.def_ 18 (d := d_scan) rfl
  obtain ⟨fd19, F19⟩ := c.def_ 19 (d := d_check_map) rfl
  obtain ⟨fd20, F20⟩ := c.def_ 20 (d := d_read_rows) rfl
  obtain ⟨fd21, F21⟩ := c.def_ 21 (d := d_format_map) rfl
  obtain ⟨fd22, F22⟩ := c.def_ 22 (d := d_law) rfl
  have e := hfa.symm.trans (He.glo_ok X G (c.fact 36 rfl))
  cases e
  refine ⟨fd22, fun s v => FunD.bindsA (ps := ["_law_script"]) F22 (fun _ _ _ _ _ _ us hl => match us, hl with | [_], _ => rfl) s [v] rfl, fun base _ _ tb => ?_⟩
  have c_l_cell : Fc P w K mg base 1 "_law_cell" ["_law_script", "_law_k"] (sp_l_cell K) := fc_of F0 (ok_l_cell F0 T ) (He.glo_ok X G (c.fact 14 rfl)) (fun _ _ _ _ _ _ us hl => match us, hl with | [_, _], _ => rfl)
  have c_l_digits : Fc P w K mg base 2 "_law_digits" ["_law_script", "_law_first", "_law_last"] (sp_l_digits K) := fc_of F1 (ok_l_digits F1 T c_l_cell) (He.glo_ok X G (c.fact 15 rfl)) (fun _ _ _ _ _ _ us hl => match us, hl with | [_, _, _], _ => rfl)
  have c_l_draw : Fc P w K mg base 1 "_law_draw" ["_law_box", "_law_many"] (sp_l_draw K) := fc_of F2 (ok_l_draw F2 T ) (He.glo_ok X G (c.fact 16 rfl)) (fun _ _ _ _ _ _ us hl => match us, hl with | [_, _], _ => rfl)
  have c_l_tile : Fc P w K mg base 2 "_law_tile" ["_law_box", "_law_shuts", "_law_many"] (sp_l_tile K) := fc_of F3 (ok_l_tile F3 T c_l_draw) (He.glo_ok X G (c.fact 17 rfl)) (fun _ _ _ _ _ _ us hl => match us, hl with | [_, _, _], _ => rfl)
  have c_l_used : Fc P w K mg base 1 "_law_used" ["_law_rows_here"] (sp_l_used K) := fc_of F4 (ok_l_used F4 T ) (He.glo_ok X G (c.fact 18 rfl)) (fun _ _ _ _ _ _ us hl => match us, hl with | [_], _ => rfl)
  have c_l_renamed : Fc P w K mg base 1 "_law_renamed" ["_law_row", "_law_used_here"] (sp_l_renamed K) := fc_of F5 (ok_l_renamed F5 T ) (He.glo_ok X G (c.fact 19 rfl)) (fun _ _ _ _ _ _ us hl => match us, hl with | [_, _], _ => rfl)
  have c_l_has_door : Fc P w K mg base 1 "_law_has_door" ["_law_rows_here"] (sp_l_has_door K) := fc_of F6 (ok_l_has_door F6 T ) (He.glo_ok X G (c.fact 20 rfl)) (fun _ _ _ _ _ _ us hl => match us, hl with | [_], _ => rfl)
  have c_l_with_door : Fc P w K mg base 1 "_law_with_door" ["_law_rows_here"] (sp_l_with_door K) := fc_of F7 (ok_l_with_door F7 T ) (He.glo_ok X G (c.fact 21 rfl)) (fun _ _ _ _ _ _ us hl => match us, hl with | [_], _ => rfl)
  have c_l_rows : Fc P w K mg base 3 "_law_rows" ["_law_box"] (sp_l_rows K) := fc_of F8 (ok_l_rows F8 T c_l_draw c_l_has_door c_l_renamed c_l_tile c_l_used c_l_with_door) (He.glo_ok X G (c.fact 22 rfl)) (fun _ _ _ _ _ _ us hl => match us, hl with | [_], _ => rfl)
  have c_l_blank : Fc P w K mg base 2 "_law_blank" ["_law_box"] (sp_l_blank K) := fc_of F9 (ok_l_blank F9 T c_l_draw) (He.glo_ok X G (c.fact 23 rfl)) (fun _ _ _ _ _ _ us hl => match us, hl with | [_], _ => rfl)
  have c_l_text : Fc P w K mg base 3 "_law_text" ["_law_box", "_law_rows_here"] (sp_l_text K) := fc_of F10 (ok_l_text F10 T c_l_blank c_l_draw) (He.glo_ok X G (c.fact 24 rfl)) (fun _ _ _ _ _ _ us hl => match us, hl with | [_, _], _ => rfl)
  have c_station_of : Fc P w K mg base 1 "station_of" ["tile"] (sp_station_of K) := fc_of F11 (ok_station_of F11 T ) (He.glo_ok X G (c.fact 25 rfl)) (fun _ _ _ _ _ _ us hl => match us, hl with | [_], _ => rfl)
  have c_is_tile : Fc P w K mg base 2 "is_tile" ["sign"] (sp_is_tile K) := fc_of F12 (ok_is_tile F12 T c_station_of) (He.glo_ok X G (c.fact 26 rfl)) (fun _ _ _ _ _ _ us hl => match us, hl with | [_], _ => rfl)
  have c_is_cell : Fc P w K mg base 1 "is_cell" ["tile"] (sp_is_cell K) := fc_of F13 (ok_is_cell F13 T ) (He.glo_ok X G (c.fact 27 rfl)) (fun _ _ _ _ _ _ us hl => match us, hl with | [_], _ => rfl)
  have q_is_door : QuietD P w K mg "is_door" (fun c => [c] == ("+" : Str).cps.toList || decide (c ∈ ("abcdefghijklmnopqrstuvwxyz" : Str).cps.toList)) := quietD_or F14 (He.glo_ok X G (c.fact 28 rfl)) sc_is_door rfl rfl (fun _ _ _ _ _ _ _ => rfl) T.str_SMALL_LETTERS
  have c_is_door : Fc P w K mg base 1 "is_door" ["tile"] (sp_is_door K) := fc_of F14 (ok_is_door F14 T ) (He.glo_ok X G (c.fact 28 rfl)) (fun _ _ _ _ _ _ us hl => match us, hl with | [_], _ => rfl)
  have c_row_problem : Fc P w K mg base 1 "row_problem" ["rows", "row"] (sp_row_problem K) := fc_of F15 (ok_row_problem F15 T ) (He.glo_ok X G (c.fact 29 rfl)) (fun _ _ _ _ _ _ us hl => match us, hl with | [_, _], _ => rfl)
  have c_tile_problem : Fc P w K mg base 3 "tile_problem" ["rows", "row", "sign", "cells"] (sp_tile_problem K) := fc_of F16 (ok_tile_problem F16 T c_is_cell c_is_tile c_station_of) (He.glo_ok X G (c.fact 30 rfl)) (fun _ _ _ _ _ _ us hl => match us, hl with | [_, _, _, _], _ => rfl)
  have c_whole_problem : Fc P w K mg base 2 "whole_problem" ["rows"] (sp_whole_problem K) := fc_of F17 (ok_whole_problem F17 T tb q_is_door c_station_of) (He.glo_ok X G (c.fact 31 rfl)) (fun _ _ _ _ _ _ us hl => match us, hl with | [_], _ => rfl)
  have c_scan : Fc P w K mg base 4 "scan" ["text"] (sp_scan K) := fc_of F18 (ok_scan F18 T c_is_cell c_row_problem c_tile_problem c_whole_problem) (He.glo_ok X G (c.fact 32 rfl)) (fun _ _ _ _ _ _ us hl => match us, hl with | [_], _ => rfl)
  have c_check_map : Fc P w K mg base 5 "check_map" ["text"] (sp_check_map K) := fc_of F19 (ok_check_map F19 T c_scan) (He.glo_ok X G (c.fact 33 rfl)) (fun _ _ _ _ _ _ us hl => match us, hl with | [_], _ => rfl)
  have c_read_rows : Fc P w K mg base 5 "read_rows" ["text"] (sp_read_rows K) := fc_of F20 (ok_read_rows F20 T c_scan) (He.glo_ok X G (c.fact 34 rfl)) (fun _ _ _ _ _ _ us hl => match us, hl with | [_], _ => rfl)
  have c_format_map : Fc P w K mg base 6 "format_map" ["text"] (sp_format_map K) := fc_of F21 (ok_format_map F21 T c_read_rows) (He.glo_ok X G (c.fact 35 rfl)) (fun _ _ _ _ _ _ us hl => match us, hl with | [_], _ => rfl)
  exact ok_law F22 T c_l_digits c_l_rows c_l_text c_check_map c_format_map c_read_rows
end Cw
open PySem PySem.W PySem.Calls PyProof.Rows
theorem PySem.Challenge.cw_clearfloor_k00_rows_written_back_holds : PySem.Challenge.rw_clearfloor_k00_rows_written_back.Holds := by
  w_on; o_law
  refine HandSHeadRun.head_any (r := OpenLaw.row PySem.Challenge.rw_clearfloor_k00_rows_written_back) (q := view (OpenLaw.row PySem.Challenge.rw_clearfloor_k00_rows_written_back).prog [33]) (H := Cw.hk) (ob := Cw.ob) (M := 8000) (loose := Cw.loose) (d := HandSHeadRun.topDef (OpenLaw.row PySem.Challenge.rw_clearfloor_k00_rows_written_back).prog 33) (kwd := []) Cw.ob_eq
    (by kernel_rfl) (fun s => by kernel_rfl) Cw.run (by kernel_rfl) (by kernel_rfl) (by kernel_rfl) (by rfl) (by first | assumption | decide +kernel) (by decide +kernel) ⟨rfl, rfl, rfl, rfl, rfl, by decide +kernel⟩ ?hw ?hc
  case hw => w_witness2
  case hc =>
    refine LamX.walk_ofTsE (l := PySem.Challenge.rw_clearfloor_k00_rows_written_back) (n := 63) (k := 7) (x := "_law_script") (CX := fun _ => L2.CX0) rfl (by decide) (by kernel_rfl) ⟨rfl, by decide, by decide⟩ ?F (fun _ _ _ _ _ z => z)
    intro w mg fa h Y G hmg0
    obtain ⟨K, KX, c⟩ := Y
    have hmg : mg ("law" : PySem.Str) = some (.ref fa) := by
      have e : (HandSHeadRun.topDef (OpenLaw.row PySem.Challenge.rw_clearfloor_k00_rows_written_back).prog 33).name = ("law" : PySem.Str) := by kernel_rfl
      rw [← e]
      exact hmg0
    obtain ⟨fd, hb, hF⟩ := Cw.facts (P := (PySem.Challenge.rw_clearfloor_k00_rows_written_back).prog) (w := w) KX G hmg c.t.d c.more
    have c1 := c.empty _ List.mem_cons_self
    have c2 := c.out _ List.mem_cons_self
    have c3 := codeHd_of_K KX (c.hd _ List.mem_cons_self)
    refine ⟨K, KX, fd, [_], Cw.sp_law K, fun p hp => ?_, fun p hp => ?_, fun p hp => ?_, hb, fun H a ns hl _ hH hS => Cf.spT_law (hH _ List.mem_cons_self) hS (Cw.law_true ns hl), fun base h1 h2 h3 => ?_⟩
    · rw [List.mem_singleton.mp hp]
      exact c1
    · rw [List.mem_singleton.mp hp]
      exact c2
    · rw [List.mem_singleton.mp hp]
      exact c3
    · have tb := h3 _ List.mem_cons_self
      exact hF base h1 h2 ⟨tb.code, tb.bm, tb.gP⟩
