import PyProof.Rows.All
import Wide.All
import OpenK.AllK
import Wide.FinOn
import HandS.ForMost
import HandS.Exc
import HandS.Defaults
import HandS.HeadHook2
import HandS.HeadEnd
import HandS.Head2
import HandS.RaiseMore
import HandS.Text
import PySem.Challenge.RW_clearfloor_k66_words_are_mixed
set_option Elab.async false
set_option linter.all false
set_option maxRecDepth 100000
set_option maxHeartbeats 4000000
namespace Cf
open PySem L2

/-! ### heaps: B what is known and stays, H what stands -/
abbrev Fg := PySem.W.Frag
def Ex (B H : Hp) : Prop := ∀ a o, B a = some o → H a = some o
theorem Ex.refl (H : Hp) : Ex H H := fun _ _ h => h
theorem Ex.trans {A B C : Hp} (a : Ex A B) (b : Ex B C) : Ex A C := fun x o h => b x o (a x o h)
theorem Ex.new {H : Hp} {p : Addr} {o : HO} (h : H p = none) : Ex H (upd H p o) := fun a u e => by
  rw [upd_ne (ne_of_none e h)]
  exact e
theorem Ex.mut {B H : Hp} {p : Addr} {o : HO} (e : Ex B H) (h : B p = none) : Ex B (upd H p o) := fun a u q => by
  rw [upd_ne (ne_of_none q h)]
  exact e a u q
theorem Ex.two {B H : Hp} {p : Addr} {o : HO} (e : Ex B H) : Ex (upd B p o) (upd H p o) := fun a u q => by
  by_cases h : a = p
  · subst h
    rw [upd_same] at q
    rw [upd_same]
    exact q
  · rw [upd_ne h] at q
    rw [upd_ne h]
    exact e a u q
theorem Ex.add {B H : Hp} {p : Addr} {o : HO} (e : Ex B H) (h : H p = some o) : Ex (upd B p o) H := fun a u q => by
  by_cases hp : a = p
  · subst hp
    rw [upd_same] at q
    rw [h]
    exact q
  · rw [upd_ne hp] at q
    exact e a u q
theorem Ex.none {B H : Hp} {p : Addr} (e : Ex B H) (h : H p = Option.none) : B p = Option.none := by
  cases q : B p with
  | none => rfl
  | some o =>
    rw [e p o q] at h
    cases h

/-- from (B, H) to (B', H'): what stands stays but for the places M; what is known is more; what was known apart stays apart -/
structure Gr (M : List Addr) (B H B' H' : Hp) : Prop where
  s : Ex B H
  b : Ex B B'
  h : ∀ a o, a ∉ M → H a = some o → H' a = some o
  e : Ex B' H'
  n : ∀ a, H a ≠ none → B a = none → B' a = none
  k : ∀ a, H a ≠ none → H' a ≠ none
section
variable {M M' : List Addr} {B H B1 H1 B2 H2 : Hp} {p : Addr} {o : HO}
theorem ne_free (hp : H p = none) {a : Addr} (h : H a ≠ none) : a ≠ p := by
  rintro rfl
  exact h hp
theorem Gr.refl (e : Ex B H) : Gr M B H B H := ⟨e, Ex.refl B, fun _ _ _ h => h, e, fun _ _ h => h, fun _ h => h⟩
theorem Gr.trans (x : Gr M B H B1 H1) (y : Gr M B1 H1 B2 H2) : Gr M B H B2 H2 :=
  ⟨x.s, x.b.trans y.b, fun a o m h => y.h a o m (x.h a o m h), y.e, fun a h n => y.n a (x.k a h) (x.n a h n), fun a h => y.k a (x.k a h)⟩
theorem Gr.mono (x : Gr M B H B1 H1) (s : ∀ a ∈ M, a ∈ M') : Gr M' B H B1 H1 := ⟨x.s, x.b, fun a o m h => x.h a o (fun q => m (s a q)) h, x.e, x.n, x.k⟩
theorem Gr.up (x : Gr [] B H B1 H1) : Gr M B H B1 H1 := x.mono fun a h => by cases h
theorem Gr.then (x : Gr M B H B1 H1) (y : Gr [] B1 H1 B2 H2) : Gr M B H B2 H2 := x.trans y.up
theorem Gr.exH (x : Gr [] B H B1 H1) : Ex H H1 := fun a o h => x.h a o (fun q => by cases q) h
theorem Gr.keep (x : Gr [] B H B1 H1) {a : Addr} {o : HO} (h : H a = some o) : H1 a = some o := x.h a o (fun q => by cases q) h
theorem Gr.keepM (x : Gr M B H B1 H1) {a : Addr} {o : HO} (h : H a = some o) (m : a ∉ M) : H1 a = some o := x.h a o m h
theorem Gr.apart (x : Gr M B H B1 H1) {a : Addr} {o : HO} (h : H a = some o) (n : B a = none) : B1 a = none := x.n a (fun q => by rw [h] at q; cases q) n
theorem Gr.fresh (x : Gr M B H B1 H1) {a : Addr} (h : H1 a = none) : H a = none := by
  cases q : H a with
  | none => rfl
  | some o => exact absurd h (x.k a fun z => by rw [q] at z; cases z)
/-- a new object, known from now on -/
theorem Gr.new (e : Ex B H) (hp : H p = none) : Gr M B H (upd B p o) (upd H p o) :=
  ⟨e, Ex.new (e.none hp), fun a u _ h => Ex.new hp a u h, e.two, fun a h n => by rw [upd_ne (ne_free hp h)]; exact n, fun a h z => h (by rw [upd_ne (ne_free hp h)] at z; exact z)⟩
/-- a new object that may change -/
theorem Gr.newM (e : Ex B H) (hp : H p = none) : Gr M B H B (upd H p o) :=
  ⟨e, Ex.refl B, fun a u _ h => Ex.new hp a u h, e.mut (e.none hp), fun a _ n => n, fun a h z => h (by rw [upd_ne (ne_free hp h)] at z; exact z)⟩
/-- an object changes that is M's, or new since the start -/
theorem Gr.mut (x : Gr M B H B1 H1) (hp : p ∈ M ∨ H p = none) (n : B1 p = none) : Gr M B H B1 (upd H1 p o) :=
  ⟨x.s, x.b, fun a u m h => by
    have ne : a ≠ p := by
      rintro rfl
      rcases hp with q | q
      · exact m q
      · rw [q] at h
        cases h
    rw [upd_ne ne]
    exact x.h a u m h, x.e.mut n, x.n, fun a h z => by
    by_cases ne : a = p
    · subst ne
      rw [upd_same] at z
      cases z
    · rw [upd_ne ne] at z
      exact x.k a h z⟩
/-- what could change is known from now on -/
theorem Gr.freeze (x : Gr M B H B1 H1) (hp : H1 p = some o) (f : H p = none) (n : B1 p = none) : Gr M B H (upd B1 p o) H1 :=
  ⟨x.s, x.b.trans (Ex.new n), x.h, x.e.add hp, fun a h q => by
    rw [upd_ne (ne_free f h)]
    exact x.n a h q, x.k⟩
end

/-! ### data and the values that stand for it -/
class Rp (α : Type) where
  rp : Fg → Hp → V → α → Prop
  mono : ∀ {K : Fg} {B B' : Hp} {v : V} {x : α}, Ex B B' → rp K B v x → rp K B' v x
open Rp (rp)
theorem rd_mono {B B' : Hp} {a : Addr} {u : HO} (e : Ex B B') (h : Rd B a u) : Rd B' a u := by
  rcases h with h | ⟨o, h⟩
  · exact .inl (e _ _ h)
  · exact .inr ⟨o, e _ _ h⟩
theorem sql_mono {K : Fg} {B B' : Hp} {a : Addr} {xs : List V} (e : Ex B B') (h : SqL K B a xs) : SqL K B' a xs := by
  rcases h with h | h
  · exact .inl (rd_mono e h)
  · exact .inr h
theorem sqt_mono {K : Fg} {B B' : Hp} {a : Addr} {xs : List V} (e : Ex B B') (h : SqT K B a xs) : SqT K B' a xs := by
  rcases h with h | h
  · exact .inl (rd_mono e h)
  · exact .inr h
mutual
theorem dp_mono {K : Fg} {B B' : Hp} (e : Ex B B') : ∀ (d : PyData) (v : V), Dp K B v d → Dp K B' v d
  | .none, v, h => by cases h; exact .non
  | .bool b, v, h => by cases h; exact .bl b
  | .int i, v, h => by cases h; exact .int i
  | .str x, v, h => by cases h; exact .str x
  | .list ds, v, h => by
    cases h with
    | lst h1 h2 => exact .lst (sql_mono e h1) (dpall_mono e ds _ h2)
  | .tuple ds, v, h => by
    cases h with
    | tup h1 h2 => exact .tup (sqt_mono e h1) (dpall_mono e ds _ h2)
  | .dict _, v, h => by cases h
theorem dpall_mono {K : Fg} {B B' : Hp} (e : Ex B B') : ∀ (ds : List PyData) (vs : List V), DpAll K B vs ds → DpAll K B' vs ds
  | [], vs, h => by cases h; exact .nil
  | d :: ds, vs, h => by
    cases h with
    | cons h1 h2 => exact .cons (dp_mono e d _ h1) (dpall_mono e ds _ h2)
end

theorem pr_mono {α : Type} [Rp α] {K : Fg} {B B' : Hp} (e : Ex B B') : ∀ {vs : List V} {xs : List α}, Paired (rp K B) vs xs → Paired (rp K B') vs xs
  | _, _, .nil => .nil
  | _, _, .cons r t => .cons (Rp.mono e r) (pr_mono e t)
theorem pr_get {α β : Type} {R : α → β → Prop} : ∀ {vs : List α} {xs : List β} {i : Nat} {x : β}, Paired R vs xs → xs[i]? = some x → ∃ v, vs[i]? = some v ∧ R v x
  | _, _, _, _, .nil, e => by simp at e
  | _, _, 0, _, .cons r _, e => by simp at e; subst e; exact ⟨_, rfl, r⟩
  | _, _, i + 1, x, .cons _ t, e => by
    obtain ⟨u, h1, h2⟩ := pr_get (i := i) (x := x) t (by simpa using e)
    exact ⟨u, by simpa using h1, h2⟩
theorem pr_getL {α β : Type} {R : α → β → Prop} : ∀ {vs : List α} {xs : List β} {i : Nat} {v : α}, Paired R vs xs → vs[i]? = some v → ∃ x, xs[i]? = some x ∧ R v x
  | _, _, _, _, .nil, e => by simp at e
  | _, _, 0, _, .cons r _, e => by simp at e; subst e; exact ⟨_, rfl, r⟩
  | _, _, i + 1, x, .cons _ t, e => by
    obtain ⟨u, h1, h2⟩ := pr_getL (i := i) t (by simpa using e)
    exact ⟨u, by simpa using h1, h2⟩
theorem pr_app {α β : Type} {R : α → β → Prop} : ∀ {vs us : List α} {xs ys : List β}, Paired R vs xs → Paired R us ys → Paired R (vs ++ us) (xs ++ ys)
  | _, _, _, _, .nil, s => s
  | _, _, _, _, .cons r t, s => .cons r (pr_app t s)
theorem pr_len {α β : Type} {R : α → β → Prop} {vs : List α} {xs : List β} (p : Paired R vs xs) : vs.length = xs.length := Paired.length p
theorem pr_set {α β : Type} {R : α → β → Prop} {v : α} {x : β} (r : R v x) : ∀ {vs : List α} {xs : List β} (i : Nat), Paired R vs xs → Paired R (vs.set i v) (xs.set i x)
  | _, _, _, .nil => .nil
  | _, _, 0, .cons _ t => .cons r t
  | _, _, i + 1, .cons q t => .cons q (pr_set r i t)
theorem pr_take {α β : Type} {R : α → β → Prop} : ∀ {vs : List α} {xs : List β} (n : Nat), Paired R vs xs → Paired R (vs.take n) (xs.take n)
  | _, _, 0, _ => .nil
  | _, _, _ + 1, .nil => .nil
  | _, _, n + 1, .cons r t => .cons r (pr_take n t)
theorem pr_drop {α β : Type} {R : α → β → Prop} : ∀ {vs : List α} {xs : List β} (n : Nat), Paired R vs xs → Paired R (vs.drop n) (xs.drop n)
  | _, _, 0, r => r
  | _, _, _ + 1, .nil => .nil
  | _, _, n + 1, .cons _ t => pr_drop n t
theorem pr_rev {α β : Type} {R : α → β → Prop} : ∀ {vs : List α} {xs : List β}, Paired R vs xs → Paired R vs.reverse xs.reverse
  | _, _, .nil => .nil
  | _, _, .cons r t => by
    rw [List.reverse_cons, List.reverse_cons]
    exact pr_app (pr_rev t) (.cons r .nil)
theorem pr_ints {K : Fg} {B : Hp} : True := trivial
instance : Rp Int := ⟨fun _ _ v x => v = .int x, fun _ h => h⟩
instance : Rp Bool := ⟨fun _ _ v x => v = .bl x, fun _ h => h⟩
instance : Rp Str := ⟨fun _ _ v x => v = .str x, fun _ h => h⟩
instance : Rp Unit := ⟨fun _ _ v _ => v = .non, fun _ h => h⟩
def rpO {α : Type} [Rp α] (K : Fg) (B : Hp) (v : V) : Option α → Prop
  | none => v = .non
  | some y => rp K B v y
instance {α : Type} [Rp α] : Rp (Option α) := ⟨rpO, fun {K B B' v x} e h => by
  cases x with
  | none => exact h
  | some y => exact Rp.mono (α := α) e h⟩
instance {α : Type} [Rp α] : Rp (List α) := ⟨fun K B v xs => ∃ a vs, v = .ref a ∧ SqL K B a vs ∧ Paired (rp K B) vs xs, fun e ⟨a, vs, h, s, p⟩ => ⟨a, vs, h, sql_mono e s, pr_mono e p⟩⟩
instance {α β : Type} [Rp α] [Rp β] : Rp (α × β) := ⟨fun K B v x => ∃ a u w, v = .ref a ∧ SqT K B a [u, w] ∧ rp K B u x.1 ∧ rp K B w x.2, fun e ⟨a, u, w, h, s, p, q⟩ => ⟨a, u, w, h, sqt_mono e s, Rp.mono e p, Rp.mono e q⟩⟩
/-! longer tuples -/
structure T3 (α β γ : Type) where
  a : α
  b : β
  c : γ
  deriving DecidableEq
structure T4 (α β γ δ : Type) where
  a : α
  b : β
  c : γ
  d : δ
  deriving DecidableEq
structure T5 (α β γ δ ε : Type) where
  a : α
  b : β
  c : γ
  d : δ
  e : ε
  deriving DecidableEq
instance {α β γ : Type} [Rp α] [Rp β] [Rp γ] : Rp (T3 α β γ) := ⟨fun K B v x => ∃ a u1 u2 u3, v = .ref a ∧ SqT K B a [u1, u2, u3] ∧ rp K B u1 x.a ∧ rp K B u2 x.b ∧ rp K B u3 x.c, fun e ⟨a, u1, u2, u3, h, s, p1, p2, p3⟩ => ⟨a, u1, u2, u3, h, sqt_mono e s, Rp.mono e p1, Rp.mono e p2, Rp.mono e p3⟩⟩
instance {α β γ δ : Type} [Rp α] [Rp β] [Rp γ] [Rp δ] : Rp (T4 α β γ δ) := ⟨fun K B v x => ∃ a u1 u2 u3 u4, v = .ref a ∧ SqT K B a [u1, u2, u3, u4] ∧ rp K B u1 x.a ∧ rp K B u2 x.b ∧ rp K B u3 x.c ∧ rp K B u4 x.d,
  fun e ⟨a, u1, u2, u3, u4, h, s, p1, p2, p3, p4⟩ => ⟨a, u1, u2, u3, u4, h, sqt_mono e s, Rp.mono e p1, Rp.mono e p2, Rp.mono e p3, Rp.mono e p4⟩⟩
instance {α β γ δ ε : Type} [Rp α] [Rp β] [Rp γ] [Rp δ] [Rp ε] : Rp (T5 α β γ δ ε) := ⟨fun K B v x => ∃ a u1 u2 u3 u4 u5, v = .ref a ∧ SqT K B a [u1, u2, u3, u4, u5] ∧ rp K B u1 x.a ∧ rp K B u2 x.b ∧ rp K B u3 x.c ∧ rp K B u4 x.d ∧ rp K B u5 x.e,
  fun e ⟨a, u1, u2, u3, u4, u5, h, s, p1, p2, p3, p4, p5⟩ => ⟨a, u1, u2, u3, u4, u5, h, sqt_mono e s, Rp.mono e p1, Rp.mono e p2, Rp.mono e p3, Rp.mono e p4, Rp.mono e p5⟩⟩
/-! arguments -/
class RpL (τ : Type) where
  rpl : Fg → Hp → List V → τ → Prop
  mono : ∀ {K : Fg} {B B' : Hp} {vs : List V} {x : τ}, Ex B B' → rpl K B vs x → rpl K B' vs x
open RpL (rpl)
instance : RpL Unit := ⟨fun _ _ vs _ => vs = [], fun _ h => h⟩
instance {α τ : Type} [Rp α] [RpL τ] : RpL (α × τ) := ⟨fun K B vs x => ∃ v us, vs = v :: us ∧ rp K B v x.1 ∧ rpl K B us x.2, fun e ⟨v, us, h, p, q⟩ => ⟨v, us, h, Rp.mono e p, RpL.mono e q⟩⟩

/-! ### data that == reads -/
class Enc (α : Type) extends Rp α where
  enc : α → PyData
  to : ∀ {K : Fg} {B : Hp} {v : V} {x : α}, rp K B v x → Dp K B v (enc x)
open Enc (enc)
theorem dpall_of {α : Type} [Enc α] {K : Fg} {B : Hp} : ∀ {vs : List V} {xs : List α}, Paired (rp K B) vs xs → DpAll K B vs (xs.map enc)
  | _, _, .nil => .nil
  | _, _, .cons r t => .cons (Enc.to r) (dpall_of t)
instance : Enc Int := ⟨PyData.int, fun h => by cases h; exact .int _⟩
instance : Enc Bool := ⟨PyData.bool, fun h => by cases h; exact .bl _⟩
instance : Enc Str := ⟨PyData.str, fun h => by cases h; exact .str _⟩
instance : Enc Unit := ⟨fun _ => PyData.none, fun h => by cases h; exact .non⟩
def encO {α : Type} [Enc α] : Option α → PyData
  | none => PyData.none
  | some y => enc y
instance {α : Type} [Enc α] : Enc (Option α) := ⟨encO, fun {K B v x} h => by
  cases x with
  | none => cases (show v = .non from h); exact .non
  | some y => exact Enc.to (α := α) h⟩
instance {α : Type} [Enc α] : Enc (List α) where
  enc := fun xs => PyData.list (xs.map enc)
  to := fun h => by
    obtain ⟨a, vs, rfl, s, p⟩ := h
    exact .lst s (dpall_of p)
instance {α β : Type} [Enc α] [Enc β] : Enc (α × β) where
  enc := fun x => PyData.tuple [enc x.1, enc x.2]
  to := fun h => by
    obtain ⟨a, u, w, rfl, s, p, q⟩ := h
    exact .tup s (.cons (Enc.to p) (.cons (Enc.to q) .nil))
instance {α β γ : Type} [Enc α] [Enc β] [Enc γ] : Enc (T3 α β γ) where
  enc := fun x => PyData.tuple [enc x.a, enc x.b, enc x.c]
  to := fun h => by
    obtain ⟨a, u1, u2, u3, rfl, s, p1, p2, p3⟩ := h
    exact .tup s (.cons (Enc.to p1) (.cons (Enc.to p2) (.cons (Enc.to p3) .nil)))
instance {α β γ δ : Type} [Enc α] [Enc β] [Enc γ] [Enc δ] : Enc (T4 α β γ δ) where
  enc := fun x => PyData.tuple [enc x.a, enc x.b, enc x.c, enc x.d]
  to := fun h => by
    obtain ⟨a, u1, u2, u3, u4, rfl, s, p1, p2, p3, p4⟩ := h
    exact .tup s (.cons (Enc.to p1) (.cons (Enc.to p2) (.cons (Enc.to p3) (.cons (Enc.to p4) .nil))))
instance {α β γ δ ε : Type} [Enc α] [Enc β] [Enc γ] [Enc δ] [Enc ε] : Enc (T5 α β γ δ ε) where
  enc := fun x => PyData.tuple [enc x.a, enc x.b, enc x.c, enc x.d, enc x.e]
  to := fun h => by
    obtain ⟨a, u1, u2, u3, u4, u5, rfl, s, p1, p2, p3, p4, p5⟩ := h
    exact .tup s (.cons (Enc.to p1) (.cons (Enc.to p2) (.cons (Enc.to p3) (.cons (Enc.to p4) (.cons (Enc.to p5) .nil)))))
end Cf

set_option Elab.async false
set_option linter.all false
set_option maxRecDepth 100000
set_option maxHeartbeats 4000000
namespace Cf
open PySem L2
open Rp (rp)
open RpL (rpl)
open Enc (enc)

/-! ### what an expression, a test, arguments reckon -/
abbrev o2 {α β γ : Type} (m1 : Option α) (m2 : Option β) (f : α → β → Option γ) : Option γ := m1.bind fun x => m2.bind fun y => f x y
def Cp {α : Type} [Rp α] (K : Fg) (te : TE) (σ : L2.St) (B H : Hp) (m : Option α) : Prop :=
  ∀ B1 H1, Gr [] B H B1 H1 → ∀ x, m = some x → ∀ Q : VK, (∀ v B2 H2, Gr [] B1 H1 B2 H2 → rp K B2 v x → Q v H2) → te σ H1 Q
def Ct (tt : TT) (σ : L2.St) (B H : Hp) (m : Option Bool) : Prop :=
  ∀ B1 H1, Gr [] B H B1 H1 → ∀ x, m = some x → ∀ Q : Bool → Hp → Prop, (∀ B2 H2, Gr [] B1 H1 B2 H2 → Q x H2) → tt σ H1 Q
def Ca {τ : Type} [RpL τ] (K : Fg) (ta : TA) (σ : L2.St) (B H : Hp) (m : Option τ) : Prop :=
  ∀ B1 H1, Gr [] B H B1 H1 → ∀ x, m = some x → ∀ Q : List V → Hp → Prop, (∀ vs B2 H2, Gr [] B1 H1 B2 H2 → rpl K B2 vs x → Q vs H2) → ta σ H1 Q
/-- a new list, nobody else's yet -/
def Co {α : Type} [Rp α] (K : Fg) (te : TE) (σ : L2.St) (B H : Hp) (m : Option (List α)) : Prop :=
  ∀ B1 H1, Gr [] B H B1 H1 → ∀ xs, m = some xs → ∀ Q : VK, (∀ p vs B2 H2, Gr [] B1 H1 B2 H2 → H1 p = none → B2 p = none → H2 p = some (.lst vs) → Paired (rp K B2) vs xs → Q (.ref p) H2) → te σ H1 Q
/-- operators on values -/
def R2p {α β γ : Type} [Rp α] [Rp β] [Rp γ] (K : Fg) (r : R2) (f : α → β → Option γ) : Prop :=
  ∀ B H x y z vx vy, Ex B H → rp K B vx x → rp K B vy y → f x y = some z → ∀ Q : VK, (∀ v B2 H2, Gr [] B H B2 H2 → rp K B2 v z → Q v H2) → r vx vy H Q
def R1p {α γ : Type} [Rp α] [Rp γ] (K : Fg) (r : V → Hp → VK → Prop) (f : α → Option γ) : Prop :=
  ∀ B H x z vx, Ex B H → rp K B vx x → f x = some z → ∀ Q : VK, (∀ v B2 H2, Gr [] B H B2 H2 → rp K B2 v z → Q v H2) → r vx H Q
def Rcp {τ γ : Type} [RpL τ] [Rp γ] (K : Fg) (r : List V → Hp → VK → Prop) (f : τ → Option γ) : Prop :=
  ∀ B H t z vs, Ex B H → rpl K B vs t → f t = some z → ∀ Q : VK, (∀ v B2 H2, Gr [] B H B2 H2 → rp K B2 v z → Q v H2) → r vs H Q
section
variable {K : Fg} {σ : L2.St} {B H B' H' : Hp} {te ta tb tc : TE} {tt tu : TT} {tas : TA} {α β γ τ ρ : Type}
theorem o2_some {m1 : Option α} {m2 : Option β} {f : α → β → Option γ} {z : γ} (h : o2 m1 m2 f = some z) : ∃ x y, m1 = some x ∧ m2 = some y ∧ f x y = some z := by
  cases m1 with
  | none => cases h
  | some x => cases m2 with
    | none => cases h
    | some y => exact ⟨x, y, rfl, rfl, h⟩
theorem bd_some {m : Option α} {f : α → Option γ} {z : γ} (h : m.bind f = some z) : ∃ x, m = some x ∧ f x = some z := by
  cases m with
  | none => cases h
  | some x => exact ⟨x, rfl, h⟩
theorem Cp.mono [Rp α] {m : Option α} (h : Cp K te σ B H m) (g : Gr [] B H B' H') : Cp K te σ B' H' m := fun B1 H1 g1 => h B1 H1 (g.trans g1)
theorem Ct.mono {m : Option Bool} (h : Ct tt σ B H m) (g : Gr [] B H B' H') : Ct tt σ B' H' m := fun B1 H1 g1 => h B1 H1 (g.trans g1)
theorem Ca.mono [RpL τ] {m : Option τ} (h : Ca K tas σ B H m) (g : Gr [] B H B' H') : Ca K tas σ B' H' m := fun B1 H1 g1 => h B1 H1 (g.trans g1)
theorem Cp.to [Rp α] {m m' : Option α} (h : Cp K te σ B H m) (e : m = m') : Cp K te σ B H m' := e ▸ h
theorem Ct.to {m m' : Option Bool} (h : Ct tt σ B H m) (e : m = m') : Ct tt σ B H m' := e ▸ h
theorem Co.cp [Rp α] {m : Option (List α)} (h : Co K te σ B H m) : Cp K te σ B H m := fun B1 H1 g xs e Q q => h B1 H1 g xs e Q fun p vs B2 H2 g2 f n hp pr =>
  q (.ref p) (upd B2 p (.lst vs)) H2 (g2.freeze hp f n) ⟨p, vs, rfl, .inl (.inl upd_same), pr_mono (Ex.new n) pr⟩
theorem cp_var [Rp α] {i : Nat} {v : V} {x : α} (hs : σ[i]? = some (some v)) (h : rp K B v x) : Cp K (tVar i) σ B H (some x) := fun B1 H1 g y e Q q => by
  cases e
  exact ⟨v, hs, q v B1 H1 (Gr.refl g.e) (Rp.mono g.b h)⟩
theorem cp_c [Rp α] {v : V} {x : α} (h : rp K B v x) : Cp K (tC v) σ B H (some x) := fun B1 H1 g y e Q q => by
  cases e
  exact q v B1 H1 (Gr.refl g.e) (Rp.mono g.b h)
theorem cp_int {i : Int} : Cp K (tC (.int i)) σ B H (some i) := cp_c rfl
theorem cp_bl {i : Bool} : Cp K (tC (.bl i)) σ B H (some i) := cp_c rfl
theorem cp_str {i : Str} : Cp K (tC (.str i)) σ B H (some i) := cp_c rfl
theorem cp_non : Cp K (tC .non) σ B H (some ()) := cp_c rfl
/-- None where something may be -/
theorem cp_nonO [Rp α] : Cp K (tC .non) σ B H (some (none : Option α)) := cp_c rfl
theorem Cp.opt [Rp α] {m : Option α} (h : Cp K te σ B H m) : Cp K te σ B H (m.bind fun x => some (some x)) := fun B1 H1 g y e Q q => by
  obtain ⟨x, e1, e2⟩ := bd_some e
  cases e2
  exact h B1 H1 g x e1 Q q
/-- what is not None -/
theorem Cp.got [Rp α] {m : Option (Option α)} (h : Cp K te σ B H m) : Cp K te σ B H (m.bind fun x => x) := fun B1 H1 g y e Q q => by
  obtain ⟨x, e1, e2⟩ := bd_some e
  subst e2
  exact h B1 H1 g _ e1 Q q
theorem cp_op [Rp α] [Rp β] [Rp γ] {r : R2} {f : α → β → Option γ} {m1 : Option α} {m2 : Option β} (hr : R2p K r f) (ha : Cp K ta σ B H m1) (hb : Cp K tb σ B H m2) : Cp K (tOp r ta tb) σ B H (o2 m1 m2 f) := fun B1 H1 g z e Q q => by
  obtain ⟨x, y, e1, e2, e3⟩ := o2_some e
  refine ha B1 H1 g x e1 _ fun v B2 H2 g2 hv => ?_
  refine hb B2 H2 (g.trans g2) y e2 _ fun u B3 H3 g3 hu => ?_
  exact hr B3 H3 x y z v u g3.e (Rp.mono g3.b hv) hu e3 Q fun w B4 H4 g4 hw => q w B4 H4 ((g2.trans g3).trans g4) hw
theorem cp_un [Rp α] [Rp γ] {r : V → Hp → VK → Prop} {f : α → Option γ} {m : Option α} (hr : R1p K r f) (ha : Cp K ta σ B H m) : Cp K (tUn r ta) σ B H (m.bind f) := fun B1 H1 g z e Q q => by
  obtain ⟨x, e1, e2⟩ := bd_some e
  refine ha B1 H1 g x e1 _ fun v B2 H2 g2 hv => ?_
  exact hr B2 H2 x z v g2.e hv e2 Q fun w B3 H3 g3 hw => q w B3 H3 (g2.trans g3) hw
theorem cp_cb [RpL τ] [Rp γ] {r : List V → Hp → VK → Prop} {f : τ → Option γ} {m : Option τ} (hr : Rcp K r f) (ha : Ca K tas σ B H m) : Cp K (tCB r tas) σ B H (m.bind f) := fun B1 H1 g z e Q q => by
  obtain ⟨x, e1, e2⟩ := bd_some e
  refine ha B1 H1 g x e1 _ fun vs B2 H2 g2 hv => ?_
  exact hr B2 H2 x z vs g2.e hv e2 Q fun w B3 H3 g3 hw => q w B3 H3 (g2.trans g3) hw
theorem ca_nil : Ca K tNil σ B H (some ()) := fun B1 H1 g x e Q q => q [] B1 H1 (Gr.refl g.e) rfl
theorem ca_cons [Rp α] [RpL τ] {m1 : Option α} {m2 : Option τ} (ha : Cp K ta σ B H m1) (hb : Ca K tas σ B H m2) : Ca K (tCons ta tas) σ B H (o2 m1 m2 fun x y => some (x, y)) := fun B1 H1 g z e Q q => by
  obtain ⟨x, y, e1, e2, e3⟩ := o2_some e
  cases e3
  refine ha B1 H1 g x e1 _ fun v B2 H2 g2 hv => ?_
  refine hb B2 H2 (g.trans g2) y e2 _ fun vs B3 H3 g3 hu => ?_
  exact q (v :: vs) B3 H3 (g2.trans g3) ⟨v, vs, rfl, Rp.mono g3.b hv, hu⟩
/-- the promise of a def that changes nothing: f of its arguments -/
def spP {τ γ : Type} [RpL τ] [Rp γ] (K : Fg) (f : τ → Option γ) : Sp := fun vs H Q _ => ∃ B t r, Ex B H ∧ rpl K B vs t ∧ f t = some r ∧ ∀ v B' H', Gr [] B H B' H' → rp K B' v r → Q v H'
/-- .. that hands back a new list -/
def spO {τ γ : Type} [RpL τ] [Rp γ] (K : Fg) (f : τ → Option (List γ)) : Sp := fun vs H Q _ => ∃ B t r, Ex B H ∧ rpl K B vs t ∧ f t = some r ∧ ∀ p us B' H', Gr [] B H B' H' → H p = none → B' p = none → H' p = some (.lst us) → Paired (rp K B') us r → Q (.ref p) H'
theorem cp_call [RpL τ] [Rp γ] {f : τ → Option γ} {m : Option τ} {E : XK} (ha : Ca K tas σ B H m) : Cp K (tCall (spP K f) [] E tas) σ B H (m.bind f) := fun B1 H1 g z e Q q => by
  obtain ⟨x, e1, e2⟩ := bd_some e
  refine ha B1 H1 g x e1 _ fun vs B2 H2 g2 hv => ?_
  rw [List.append_nil]
  exact ⟨B2, x, z, g2.e, hv, e2, fun v B3 H3 g3 h3 => q v B3 H3 (g2.trans g3) h3⟩
theorem co_call [RpL τ] [Rp γ] {f : τ → Option (List γ)} {m : Option τ} {E : XK} (ha : Ca K tas σ B H m) : Co K (tCall (spO K f) [] E tas) σ B H (m.bind f) := fun B1 H1 g z e Q q => by
  obtain ⟨x, e1, e2⟩ := bd_some e
  refine ha B1 H1 g x e1 _ fun vs B2 H2 g2 hv => ?_
  rw [List.append_nil]
  exact ⟨B2, x, z, g2.e, hv, e2, fun p us B3 H3 g3 f n hp pr => q p us B3 H3 (g2.trans g3) (g2.fresh f) n hp pr⟩
/-! ### tests -/
theorem ct_test {m : Option Bool} (h : Cp K te σ B H m) : Ct (tTest te) σ B H m := fun B1 H1 g x e Q q => h B1 H1 g x e _ fun v B2 H2 g2 hv => ⟨x, hv, q B2 H2 g2⟩
theorem ct_B {m : Option Bool} (h : Cp K te σ B H m) : Ct (tB te) σ B H m := fun B1 H1 g x e Q q => h B1 H1 g x e _ fun v B2 H2 g2 hv => ⟨x, hv, q B2 H2 g2⟩
theorem ct_and {m1 m2 : Option Bool} (h1 : Ct tt σ B H m1) (h2 : Ct tu σ B H m2) : Ct (tAnd tt tu) σ B H (m1.bind fun a => if a = true then m2 else some false) := fun B1 H1 g z e Q q => by
  obtain ⟨a, e1, e2⟩ := bd_some e
  refine h1 B1 H1 g a e1 _ fun B2 H2 g2 => ?_
  cases a with
  | true => exact h2 B2 H2 (g.trans g2) z e2 Q fun B3 H3 g3 => q B3 H3 (g2.trans g3)
  | false =>
    cases e2
    exact q B2 H2 g2
theorem ct_or {m1 m2 : Option Bool} (h1 : Ct tt σ B H m1) (h2 : Ct tu σ B H m2) : Ct (tOr tt tu) σ B H (m1.bind fun a => if a = true then some true else m2) := fun B1 H1 g z e Q q => by
  obtain ⟨a, e1, e2⟩ := bd_some e
  refine h1 B1 H1 g a e1 _ fun B2 H2 g2 => ?_
  cases a with
  | false => exact h2 B2 H2 (g.trans g2) z e2 Q fun B3 H3 g3 => q B3 H3 (g2.trans g3)
  | true =>
    cases e2
    exact q B2 H2 g2
theorem ct_not {m : Option Bool} (h : Ct tt σ B H m) : Ct (tNot tt) σ B H (m.bind fun a => some (!a)) := fun B1 H1 g z e Q q => by
  obtain ⟨a, e1, e2⟩ := bd_some e
  cases e2
  exact h B1 H1 g a e1 _ fun B2 H2 g2 => q B2 H2 g2
theorem cp_andV {m1 m2 : Option Bool} (h1 : Cp K ta σ B H m1) (h2 : Cp K tb σ B H m2) : Cp K (tAndV ta tb) σ B H (m1.bind fun a => if a = true then m2 else some false) := fun B1 H1 g z e Q q => by
  obtain ⟨a, e1, e2⟩ := bd_some e
  refine h1 B1 H1 g a e1 _ fun v B2 H2 g2 hv => ⟨a, hv, ?_⟩
  cases a with
  | true => exact h2 B2 H2 (g.trans g2) z e2 Q fun v B3 H3 g3 h3 => q v B3 H3 (g2.trans g3) h3
  | false =>
    cases e2
    exact q _ B2 H2 g2 rfl
theorem cp_orV {m1 m2 : Option Bool} (h1 : Cp K ta σ B H m1) (h2 : Cp K tb σ B H m2) : Cp K (tOrV ta tb) σ B H (m1.bind fun a => if a = true then some true else m2) := fun B1 H1 g z e Q q => by
  obtain ⟨a, e1, e2⟩ := bd_some e
  refine h1 B1 H1 g a e1 _ fun v B2 H2 g2 hv => ⟨a, hv, ?_⟩
  cases a with
  | false => exact h2 B2 H2 (g.trans g2) z e2 Q fun v B3 H3 g3 h3 => q v B3 H3 (g2.trans g3) h3
  | true =>
    cases e2
    exact q _ B2 H2 g2 rfl
theorem cp_notV {m : Option Bool} (h : Cp K ta σ B H m) : Cp K (tNotV ta) σ B H (m.bind fun a => some (!a)) := fun B1 H1 g z e Q q => by
  obtain ⟨a, e1, e2⟩ := bd_some e
  cases e2
  exact h B1 H1 g a e1 _ fun v B2 H2 g2 hv => ⟨a, hv, q _ B2 H2 g2 rfl⟩
theorem cp_chain [Rp α] [Rp β] [Rp γ] {r r' : R2} {f : α → β → Option Bool} {f' : β → γ → Option Bool} {m1 : Option α} {m2 : Option β} {m3 : Option γ} (hr : R2p K r f) (hr' : R2p K r' f')
    (ha : Cp K ta σ B H m1) (hb : Cp K tb σ B H m2) (hc : Cp K tc σ B H m3) : Cp K (tChain r r' ta tb tc) σ B H (o2 m1 m2 fun x y => (f x y).bind fun k => if k = true then m3.bind fun z => f' y z else some false) := fun B1 H1 g z e Q q => by
  obtain ⟨x, y, e1, e2, e3⟩ := o2_some e
  obtain ⟨k, e4, e5⟩ := bd_some e3
  refine ha B1 H1 g x e1 _ fun v B2 H2 g2 hv => ?_
  refine hb B2 H2 (g.trans g2) y e2 _ fun u B3 H3 g3 hu => ?_
  refine hr B3 H3 x y k v u g3.e (Rp.mono g3.b hv) hu e4 _ fun w B4 H4 g4 hw => ⟨k, hw, ?_⟩
  cases k with
  | true =>
    obtain ⟨c, e6, e7⟩ := bd_some e5
    refine hc B4 H4 (((g.trans g2).trans g3).trans g4) c e6 _ fun t B5 H5 g5 ht => ?_
    exact hr' B5 H5 y c z u t g5.e (Rp.mono (g4.trans g5).b hu) ht e7 Q fun t2 B6 H6 g6 h6 => q t2 B6 H6 ((((g2.trans g3).trans g4).trans g5).trans g6) h6
  | false =>
    cases e5
    exact q _ B4 H4 ((g2.trans g3).trans g4) rfl
end

/-! ### operators -/
def pdiv (i j : Int) : Option Int := if 0 < j ∧ j < 1073741824 then some (i / j) else none
def pmod (i j : Int) : Option Int := if 0 < j then some (i % j) else none
def pmul (i j : Int) : Option Int := if (-(2 ^ 64) < i ∧ i < 2 ^ 64) ∨ (-(2 ^ 64) < j ∧ j < 2 ^ 64) then some (i * j) else none
def ppow (i j : Int) : Option Int := if 0 ≤ j ∧ j ≤ 1000000 ∧ i.natAbs < 2 ^ 64 then some (i ^ j.toNat) else none
def pshr (i j : Int) : Option Int := if 0 ≤ j then some (i / 2 ^ j.toNat) else none
section
variable {K : Fg}
theorem r2_I0 {γ : Type} [Rp γ] {g : Int → Int → V} {f : Int → Int → γ} (h : ∀ i j K B, rp K B (g i j) (f i j)) : R2p K (rI0 g) (fun i j => some (f i j)) := fun B H x y z vx vy e hx hy ez Q q => by
  cases ez
  exact ⟨x, y, hx, hy, q _ B H (Gr.refl e) (h x y K B)⟩
theorem r2_I {C : Int → Int → Prop} {g : Int → Int → V} {f : Int → Int → Option Int} (h : ∀ i j z, f i j = some z → C i j ∧ g i j = .int z) : R2p K (rI C g) f := fun B H x y z vx vy e hx hy ez Q q => by
  obtain ⟨c, ge⟩ := h x y z ez
  exact ⟨x, y, hx, hy, c, q _ B H (Gr.refl e) ge⟩
theorem if_some {α : Type} {c : Prop} [Decidable c] {x z : α} (h : (if c then some x else none) = some z) : c ∧ x = z := by
  by_cases hc : c
  · rw [if_pos hc] at h
    exact ⟨hc, Option.some.inj h⟩
  · rw [if_neg hc] at h
    cases h
theorem r2_add : R2p K (rI0 fun i j => .int (i + j)) (fun i j : Int => some (i + j)) := r2_I0 fun _ _ _ _ => rfl
theorem r2_sub : R2p K (rI0 fun i j => .int (i - j)) (fun i j : Int => some (i - j)) := r2_I0 fun _ _ _ _ => rfl
theorem r2_mul : R2p K (rI CMul fun i j => .int (i * j)) pmul := r2_I fun i j z h => by
  obtain ⟨c, e⟩ := if_some h
  exact ⟨c, by rw [e]⟩
theorem r2_div : R2p K (rI CDiv fun i j => .int (i / j)) pdiv := r2_I fun i j z h => by
  obtain ⟨c, e⟩ := if_some h
  exact ⟨c, by rw [e]⟩
theorem r2_mod : R2p K (rI (fun _ j => 0 < j) fun i j => .int (i % j)) pmod := r2_I fun i j z h => by
  obtain ⟨c, e⟩ := if_some h
  exact ⟨c, by rw [e]⟩
theorem r2_pow : R2p K (rI CPow fun i j => .int (i ^ j.toNat)) ppow := r2_I fun i j z h => by
  obtain ⟨c, e⟩ := if_some h
  exact ⟨c, by rw [e]⟩
theorem r2_shr : R2p K (rI (fun _ j => 0 ≤ j) fun i j => .int (i / 2 ^ j.toNat)) pshr := r2_I fun i j z h => by
  obtain ⟨c, e⟩ := if_some h
  exact ⟨c, by rw [e]⟩
theorem r2_xor : R2p K (rI0 fun i j => .int (Builtin.bitXor i j)) (fun i j : Int => some (Builtin.bitXor i j)) := r2_I0 fun _ _ _ _ => rfl
theorem r2_lt : R2p K (rI0 fun i j => .bl (decide (i < j))) (fun i j : Int => some (decide (i < j))) := r2_I0 fun _ _ _ _ => rfl
theorem r2_le : R2p K (rI0 fun i j => .bl (decide (i ≤ j))) (fun i j : Int => some (decide (i ≤ j))) := r2_I0 fun _ _ _ _ => rfl
theorem r2_gt : R2p K (rI0 fun i j => .bl (decide (j < i))) (fun i j : Int => some (decide (j < i))) := r2_I0 fun _ _ _ _ => rfl
theorem r2_ge : R2p K (rI0 fun i j => .bl (decide (j ≤ i))) (fun i j : Int => some (decide (j ≤ i))) := r2_I0 fun _ _ _ _ => rfl
theorem r1_neg : R1p K (rU fun i => .int (-i)) (fun i : Int => some (-i)) := fun B H x z vx e hx ez Q q => by
  cases ez
  exact ⟨x, hx, q _ B H (Gr.refl e) rfl⟩
/-- == of scalars of one kind -/
class Sc (α : Type) extends Rp α where
  dec : DecidableEq α
  ok : ∀ {K : Fg} {B : Hp} {u v : V} {x y : α}, rp K B u x → rp K B v y → scal u v = true ∧ (u = v ↔ x = y)
instance : Sc Int := { dec := inferInstance, ok := fun h1 h2 => by cases h1; cases h2; exact ⟨rfl, by simp⟩ }
instance : Sc Bool := { dec := inferInstance, ok := fun h1 h2 => by cases h1; cases h2; exact ⟨rfl, by simp⟩ }
instance : Sc Str := { dec := inferInstance, ok := fun h1 h2 => by cases h1; cases h2; exact ⟨rfl, by simp⟩ }
/-- a scalar that is not None -/
class Sn (α : Type) extends Sc α where
  nn : ∀ {K : Fg} {B : Hp} {u : V} {x : α}, rp K B u x → u ≠ .non ∧ scal u .non = true ∧ scal .non u = true
instance : Sn Int where
  nn := fun h => by cases h; exact ⟨(fun e => nomatch e), rfl, rfl⟩
instance : Sn Bool where
  nn := fun h => by cases h; exact ⟨(fun e => nomatch e), rfl, rfl⟩
instance : Sn Str where
  nn := fun h => by cases h; exact ⟨(fun e => nomatch e), rfl, rfl⟩
instance {α : Type} [Sn α] : Sc (Option α) where
  dec := by
    have : DecidableEq α := Sc.dec
    infer_instance
  ok := fun {K B u v x y} h1 h2 => by
    cases x with
    | none =>
      cases (show u = .non from h1)
      cases y with
      | none => cases (show v = .non from h2); exact ⟨rfl, by simp⟩
      | some j =>
        obtain ⟨n1, n2, n3⟩ := Sn.nn (α := α) (show rp K B v j from h2)
        exact ⟨n3, ⟨fun e => absurd e.symm n1, fun e => nomatch e⟩⟩
    | some i =>
      cases y with
      | none =>
        cases (show v = .non from h2)
        obtain ⟨n1, n2, n3⟩ := Sn.nn (α := α) (show rp K B u i from h1)
        exact ⟨n2, ⟨fun e => absurd e n1, fun e => nomatch e⟩⟩
      | some j =>
        obtain ⟨s, e⟩ := Sc.ok (α := α) (show rp K B u i from h1) (show rp K B v j from h2)
        exact ⟨s, e.trans ⟨fun z => congrArg some z, fun z => Option.some.inj z⟩⟩
instance (priority := low) {α : Type} [Sc α] : DecidableEq α := Sc.dec
theorem r2_eq {α : Type} [i : Sc α] [d : DecidableEq α] : R2p K rEq (fun x y : α => some (decide (x = y))) := fun B H x y z vx vy e hx hy ez Q q => by
  cases ez
  obtain ⟨s, h⟩ := i.ok hx hy
  refine ⟨s, q _ B H (Gr.refl e) ?_⟩
  show V.bl _ = V.bl _
  rw [decide_eq_decide.mpr h]
theorem r2_ne {α : Type} [i : Sc α] [d : DecidableEq α] : R2p K rNe (fun x y : α => some (!decide (x = y))) := fun B H x y z vx vy e hx hy ez Q q => by
  cases ez
  obtain ⟨s, h⟩ := i.ok hx hy
  refine ⟨s, q _ B H (Gr.refl e) ?_⟩
  show V.bl _ = V.bl _
  rw [decide_eq_decide.mpr h]
/-! ### built-in calls -/
def RInt : List V → Hp → VK → Prop := fun xs H Q => (∃ i, xs = [.int i] ∧ Q (.int i) H) ∨ ∃ k, xs = [.bl k] ∧ Q (.int (if k then 1 else 0)) H
theorem call_int_ {X : Cx} : CallR X (.type "int") RInt := call_int1
theorem rc_int : Rcp K RInt (fun t : Int × Unit => some t.1) := fun B H t z vs e h ez Q q => by
  cases ez
  obtain ⟨v, us, rfl, h1, h2⟩ := h
  cases (show us = [] from h2)
  cases (show v = .int _ from h1)
  exact .inl ⟨_, rfl, q _ B H (Gr.refl e) rfl⟩
/-! ### indexes -/
/-- the item at a place counted from either end -/
def at? {α : Type} (xs : List α) (i : Int) : Option α := if 0 ≤ i then xs[i.toNat]? else if 0 ≤ i + (xs.length : Int) then xs[(i + (xs.length : Int)).toNat]? else none
theorem atI_of {α : Type} {R : V → α → Prop} {vs : List V} {xs : List α} {i : Int} {x : α} (p : Paired R vs xs) (h : at? xs i = some x) : ∃ v, atI vs i = some v ∧ R v x := by
  have hl := pr_len p
  unfold at? at h
  unfold atI ixN
  by_cases h0 : 0 ≤ i
  · rw [if_pos h0] at h
    obtain ⟨v, hv, r⟩ := pr_get p h
    have hb : i.toNat < vs.length := (List.getElem?_eq_some_iff.mp hv).1
    refine ⟨v, ?_, r⟩
    rw [if_pos h0, if_pos (by omega)]
    exact hv
  · rw [if_neg h0] at h
    by_cases h1 : 0 ≤ i + (xs.length : Int)
    · rw [if_pos h1] at h
      obtain ⟨v, hv, r⟩ := pr_get p h
      refine ⟨v, ?_, r⟩
      rw [if_neg h0, if_pos (by omega), hl]
      exact hv
    · rw [if_neg h1] at h
      cases h
theorem r2_ixL {α : Type} [Rp α] : R2p K (rIxL K) (fun (xs : List α) (i : Int) => at? xs i) := fun B H xs i z vx vy e hx hy ez Q q => by
  obtain ⟨a, vs, rfl, hs, hp⟩ := hx
  cases (show vy = .int i from hy)
  obtain ⟨v, hv, hr⟩ := atI_of hp ez
  exact ⟨a, vs, i, v, rfl, rfl, sql_mono e hs, hv, q v B H (Gr.refl e) hr⟩
end
end Cf

set_option Elab.async false
set_option linter.all false
set_option maxRecDepth 100000
set_option maxHeartbeats 4000000
namespace Cf
open PySem L2
open Rp (rp)
open RpL (rpl)
open Enc (enc)
/-! ### loops in the mirror -/
inductive Fl (S R : Type) where
  | nx (s : S)
  | bk (s : S)
  | rt (r : R)
def forF {α S R : Type} (b : α → S → Option (Fl S R)) : List α → S → Option (Fl S R)
  | [], s => some (.nx s)
  | x :: xs, s => (b x s).bind fun c => match c with
    | .nx s' => forF b xs s'
    | .bk s' => some (.nx s')
    | .rt r => some (.rt r)
def forN {α S : Type} (b : α → S → Option S) : List α → S → Option S
  | [], s => some s
  | x :: xs, s => (b x s).bind fun s' => forN b xs s'
def whF {S R : Type} (c : S → Option Bool) (b : S → Option (Fl S R)) : Nat → S → Option (Fl S R)
  | 0, _ => none
  | n + 1, s => (c s).bind fun t => if t = true then (b s).bind fun c' => match c' with
      | .nx s' => whF c b n s'
      | .bk s' => some (.nx s')
      | .rt r => some (.rt r)
    else some (.nx s)
def whN {S : Type} (c : S → Option Bool) (b : S → Option S) : Nat → S → Option S
  | 0, _ => none
  | n + 1, s => (c s).bind fun t => if t = true then (b s).bind fun s' => whN c b n s' else some s
def rangeL (lo hi : Int) : List Int := (List.range (hi - lo).toNat).map fun (i : Nat) => lo + (i : Int)
section
variable {K : Fg} {σ : L2.St} {B H B' H' : Hp} {te ta tb tc : TE} {tt tu : TT} {tas : TA} {α β γ τ ρ S R : Type} {D : Ends} {t u ts : TS} {g : TG}
/-! ### statements -/
theorem st_asg [Rp α] {m m' : Option α} {k : α → Option ρ} {r : ρ} {i : Nat} (hm : m'.bind k = some r) (e : Ex B H) (hc : Cp K te σ B H m) (he : m = m')
    (q : ∀ x v B1 H1, m' = some x → k x = some r → Gr [] B H B1 H1 → rp K B1 v x → D.nx (σ.set i (some v)) H1) : tAsg te (gName i) D σ H := by
  subst he
  obtain ⟨x, e1, e2⟩ := bd_some hm
  exact hc B H (Gr.refl e) x e1 _ fun v B1 H1 g hv => q x v B1 H1 e1 e2 g hv
theorem st_asgO [Rp α] {m m' : Option (List α)} {k : List α → Option ρ} {r : ρ} {i : Nat} (hm : m'.bind k = some r) (e : Ex B H) (hc : Co K te σ B H m) (he : m = m')
    (q : ∀ xs p vs B1 H1, m' = some xs → k xs = some r → Gr [] B H B1 H1 → H p = none → B1 p = none → H1 p = some (.lst vs) → Paired (rp K B1) vs xs → D.nx (σ.set i (some (.ref p))) H1) : tAsg te (gName i) D σ H := by
  subst he
  obtain ⟨x, e1, e2⟩ := bd_some hm
  exact hc B H (Gr.refl e) x e1 _ fun p vs B1 H1 g f n hp pr => q x p vs B1 H1 e1 e2 g f n hp pr
theorem st_drop [Rp α] {m m' : Option α} {k : α → Option ρ} {r : ρ} (hm : m'.bind k = some r) (e : Ex B H) (hc : Cp K te σ B H m) (he : m = m')
    (q : ∀ x B1 H1, m' = some x → k x = some r → Gr [] B H B1 H1 → D.nx σ H1) : tDrop te D σ H := by
  subst he
  obtain ⟨x, e1, e2⟩ := bd_some hm
  exact hc B H (Gr.refl e) x e1 _ fun v B1 H1 g hv => q x B1 H1 e1 e2 g
theorem st_ret [Rp α] {m m' : Option α} {r : α} (hm : m' = some r) (e : Ex B H) (hc : Cp K te σ B H m) (he : m = m') (q : ∀ v B1 H1, Gr [] B H B1 H1 → rp K B1 v r → D.rt v H1) : tRet te D σ H := by
  subst he
  exact hc B H (Gr.refl e) r hm _ fun v B1 H1 g hv => q v B1 H1 g hv
theorem st_retF [Rp α] {m m' : Option α} {k : α → Option ρ} {c : ρ} (hm : m'.bind k = some c) (e : Ex B H) (hc : Cp K te σ B H m) (he : m = m') (q : ∀ x v B1 H1, k x = some c → Gr [] B H B1 H1 → rp K B1 v x → D.rt v H1) : tRet te D σ H := by
  subst he
  obtain ⟨x, e1, e2⟩ := bd_some hm
  exact hc B H (Gr.refl e) x e1 _ fun v B1 H1 g hv => q x v B1 H1 e2 g hv
theorem st_if {c c' : Option Bool} {A A' : Option ρ} {r : ρ} (hm : (c'.bind fun b => if b = true then A else A') = some r) (e : Ex B H) (hc : Ct tt σ B H c) (he : c = c')
    (h1 : ∀ B1 H1, c' = some true → A = some r → Gr [] B H B1 H1 → t D σ H1) (h2 : ∀ B1 H1, c' = some false → A' = some r → Gr [] B H B1 H1 → u D σ H1) : tIfS tt t u D σ H := by
  subst he
  obtain ⟨b, e1, e2⟩ := bd_some hm
  refine hc B H (Gr.refl e) b e1 _ fun B1 H1 g => ?_
  cases b with
  | true => exact h1 B1 H1 e1 e2 g
  | false => exact h2 B1 H1 e1 e2 g
/-- an if whose ways meet: J is what holds there -/
theorem st_ifJ {c c' : Option Bool} {A A' : Option S} {k : S → Option ρ} {r : ρ} (hm : ((c'.bind fun b => if b = true then A else A').bind k) = some r) (J : S → L2.St → Hp → Prop) (e : Ex B H) (hc : Ct tt σ B H c) (he : c = c')
    (h1 : ∀ s B1 H1 (N : L2.St → Hp → Prop), c' = some true → A = some s → Gr [] B H B1 H1 → (∀ σ' H', J s σ' H' → N σ' H') → t { D with nx := N } σ H1)
    (h2 : ∀ s B1 H1 (N : L2.St → Hp → Prop), c' = some false → A' = some s → Gr [] B H B1 H1 → (∀ σ' H', J s σ' H' → N σ' H') → u { D with nx := N } σ H1)
    (q : ∀ s σ' H', k s = some r → J s σ' H' → D.nx σ' H') : tIfS tt t u D σ H := by
  subst he
  obtain ⟨s, e0, e3⟩ := bd_some hm
  obtain ⟨b, e1, e2⟩ := bd_some e0
  refine hc B H (Gr.refl e) b e1 _ fun B1 H1 g => ?_
  cases b with
  | true => exact h1 s B1 H1 D.nx e1 e2 g fun σ' H' j => q s σ' H' e3 j
  | false => exact h2 s B1 H1 D.nx e1 e2 g fun σ' H' j => q s σ' H' e3 j
/-! ### loops -/
/-- a walk over the items xs: the loop's own iterator J yields their values, in a heap that is I's again -/
theorem forF_run {J : It} {xs : List α} [Rp α] {b : α → S → Option (Fl S R)} {k : Fl S R → Option ρ} {r : ρ} {s0 : S} (I : S → Hp → L2.St → Hp → Prop)
    (hgo : ∀ i s B σ H, I s B σ H → i < xs.length → J.go i H) (hst : ∀ i s B σ H, I s B σ H → xs.length ≤ i → J.stop i H)
    (hy : ∀ i x s B σ H v H', I s B σ H → xs[i]? = some x → J.yld i H v H' → ∃ B', I s B' σ H' ∧ rp K B' v x)
    (hm : (forF b xs s0).bind k = some r) (h0 : I s0 B σ H)
    (hs : ∀ x s B σ H v c (N : L2.St → Hp → Prop), I s B σ H → rp K B v x → b x s = some c → (∀ s2 B2 σ2 H2, c = .nx s2 → I s2 B2 σ2 H2 → N σ2 H2) → (∀ s2 B2 σ2 H2, c = .bk s2 → I s2 B2 σ2 H2 → D.nx σ2 H2) →
      (∀ r', c = .rt r' → k (.rt r') = some r) → g v σ H fun σ2 H2 => ts { D with nx := N, ct := N, bk := D.nx } σ2 H2)
    (hd : ∀ s B σ H, k (.nx s) = some r → I s B σ H → D.nx σ H) :
    ∃ W : Nat → Nat → L2.St → Hp → Prop, (∃ m, W 0 m σ H) ∧ ∀ i m σ H, W i m σ H → (J.stop i H ∧ D.nx σ H) ∨ (J.go i H ∧ ∃ N : L2.St → Hp → Prop, (∀ σ' H', N σ' H' → ∃ m', m' < m ∧ W (i + 1) m' σ' H') ∧
      ∀ x H', J.yld i H x H' → g x σ H' fun σ2 H2 => ts { D with nx := N, ct := N, bk := D.nx } σ2 H2) := by
  refine ⟨fun i m σ H => m = xs.length - i ∧ i ≤ xs.length ∧ ∃ s B, I s B σ H ∧ (forF b (xs.drop i) s).bind k = some r, ⟨_, rfl, Nat.zero_le _, s0, B, h0, hm⟩, ?_⟩
  rintro i m σ H ⟨rfl, hi, s, B, hI, hk⟩
  by_cases hlt : i < xs.length
  · refine .inr ⟨hgo i s B σ H hI hlt, fun σ' H' => i + 1 ≤ xs.length ∧ ∃ s B, I s B σ' H' ∧ (forF b (xs.drop (i + 1)) s).bind k = some r, fun σ' H' h => ⟨xs.length - (i + 1), by omega, rfl, h.1, h.2⟩, fun v H' y => ?_⟩
    have hx : xs[i]? = some xs[i] := List.getElem?_eq_getElem hlt
    obtain ⟨B', hI', hv⟩ := hy i xs[i] s B σ H v H' hI hx y
    have ed : xs.drop i = xs[i] :: xs.drop (i + 1) := List.drop_eq_getElem_cons hlt
    rw [ed] at hk
    obtain ⟨fl, e1, e2⟩ := bd_some hk
    obtain ⟨c, e3, e4⟩ := bd_some (show ((b xs[i] s).bind fun c => match c with | .nx s' => forF b (xs.drop (i + 1)) s' | .bk s' => some (.nx s') | .rt r => some (.rt r)) = some fl from e1)
    refine hs xs[i] s B' σ H' v c _ hI' hv e3 (fun s2 B2 σ2 H2 ec hI2 => ⟨hlt, s2, B2, hI2, ?_⟩) (fun s2 B2 σ2 H2 ec hI2 => ?_) (fun r' ec => ?_)
    · subst ec
      rw [show forF b (xs.drop (i + 1)) s2 = some fl from e4]
      exact e2
    · subst ec
      have : (Fl.nx s2 : Fl S R) = fl := Option.some.inj e4
      subst this
      exact hd s2 B2 σ2 H2 e2 hI2
    · subst ec
      have : (Fl.rt r' : Fl S R) = fl := Option.some.inj e4
      subst this
      exact e2
  · have e : xs.drop i = [] := List.drop_eq_nil_of_le (by omega)
    rw [e] at hk
    exact .inl ⟨hst i s B σ H hI (by omega), hd s B σ H hk hI⟩
theorem forN_F {b : α → S → Option S} : ∀ (xs : List α) (s : S), (forN b xs s).map (Fl.nx (R := R)) = forF (fun x s => (b x s).map Fl.nx) xs s
  | [], s => rfl
  | x :: xs, s => by
    unfold forN forF
    cases h : b x s with
    | none => rfl
    | some s' => exact forN_F xs s'
/-- the same, no way out of the loop but its end -/
theorem forN_run {J : It} {xs : List α} [Rp α] {b : α → S → Option S} {k : S → Option ρ} {r : ρ} {s0 : S} (I : S → Hp → L2.St → Hp → Prop)
    (hgo : ∀ i s B σ H, I s B σ H → i < xs.length → J.go i H) (hst : ∀ i s B σ H, I s B σ H → xs.length ≤ i → J.stop i H)
    (hy : ∀ i x s B σ H v H', I s B σ H → xs[i]? = some x → J.yld i H v H' → ∃ B', I s B' σ H' ∧ rp K B' v x)
    (hm : (forN b xs s0).bind k = some r) (h0 : I s0 B σ H)
    (hs : ∀ x s B σ H v s' (N : L2.St → Hp → Prop), I s B σ H → rp K B v x → b x s = some s' → (∀ B2 σ2 H2, I s' B2 σ2 H2 → N σ2 H2) → g v σ H fun σ2 H2 => ts { D with nx := N, ct := N, bk := D.nx } σ2 H2)
    (hd : ∀ s B σ H, k s = some r → I s B σ H → D.nx σ H) :
    ∃ W : Nat → Nat → L2.St → Hp → Prop, (∃ m, W 0 m σ H) ∧ ∀ i m σ H, W i m σ H → (J.stop i H ∧ D.nx σ H) ∨ (J.go i H ∧ ∃ N : L2.St → Hp → Prop, (∀ σ' H', N σ' H' → ∃ m', m' < m ∧ W (i + 1) m' σ' H') ∧
      ∀ x H', J.yld i H x H' → g x σ H' fun σ2 H2 => ts { D with nx := N, ct := N, bk := D.nx } σ2 H2) := by
  refine forF_run (K := K) (R := Unit) (b := fun x s => (b x s).map Fl.nx) (k := fun f => match f with | .nx s => k s | .bk _ => none | .rt _ => none) (r := r) (s0 := s0) I hgo hst hy ?_ h0 (fun x s B σ H v c N hI hv hb n1 n2 n3 => ?_) (fun s B σ H e hI => hd s B σ H e hI)
  · rw [← forN_F]
    cases h : forN b xs s0 with
    | none =>
      rw [h] at hm
      cases hm
    | some s =>
      rw [h] at hm
      exact hm
  · cases h : b x s with
    | none =>
      rw [h] at hb
      cases hb
    | some s' =>
      rw [h] at hb
      have e : Fl.nx s' = c := Option.some.inj hb
      exact hs x s B σ H v s' N hI hv h fun B2 σ2 H2 hI2 => n1 s' B2 σ2 H2 e.symm hI2
theorem itl_go {K : Fg} {H : Hp} {a : Addr} {vs : List V} {i : Nat} (h : SqL K H a vs) (hi : i < vs.length) : (Itl K a).go i H := ⟨vs, vs[i], h, List.getElem?_eq_getElem hi⟩
theorem itl_stop {K : Fg} {H : Hp} {a : Addr} {vs : List V} {i : Nat} (h : SqL K H a vs) (hi : vs.length ≤ i) : (Itl K a).stop i H := ⟨vs, h, hi⟩
/-- for x in a list that is known -/
theorem st_forF_list [Rp α] {mi mi' : Option (List α)} {b : α → S → Option (Fl S R)} {s0 : S} {k : Fl S R → Option ρ} {r : ρ} (I : Hp → S → Hp → L2.St → Hp → Prop) (hm : (mi'.bind fun xs => (forF b xs s0).bind k) = some r) (e : Ex B H) (hc : Cp K te σ B H mi) (he : mi = mi')
    (hx : ∀ Be s B σ H, I Be s B σ H → Ex Be B ∧ Ex B H) (h0 : ∀ Be H1, Gr [] B H Be H1 → I Be s0 Be σ H1)
    (hs : ∀ Be x s B σ H v c (N : L2.St → Hp → Prop), I Be s B σ H → rp K B v x → b x s = some c → (∀ s2 B2 σ2 H2, c = .nx s2 → I Be s2 B2 σ2 H2 → N σ2 H2) → (∀ s2 B2 σ2 H2, c = .bk s2 → I Be s2 B2 σ2 H2 → D.nx σ2 H2) →
      (∀ r', c = .rt r' → k (.rt r') = some r) → g v σ H fun σ2 H2 => ts { D with nx := N, ct := N, bk := D.nx } σ2 H2)
    (hd : ∀ Be s B σ H, k (.nx s) = some r → I Be s B σ H → D.nx σ H) : tFor (iList K te) g ts D σ H := by
  subst he
  obtain ⟨xs, e1, e2⟩ := bd_some hm
  refine hc B H (Gr.refl e) xs e1 _ fun v Be H1 g1 hv => ?_
  obtain ⟨a, vs, rfl, hS, hp⟩ := hv
  have hl := pr_len hp
  refine ⟨a, rfl, ⟨vs, sql_mono g1.e hS⟩, forF_run (K := K) (xs := xs) (B := Be) (I Be) (fun i s B σ H hI hi => ?_) (fun i s B σ H hI hi => ?_) (fun i x s B σ H v H' hI hxi y => ?_) e2 (h0 Be H1 g1) (fun x s B σ H v c N => hs Be x s B σ H v c N) (fun s B σ H => hd Be s B σ H)⟩
  · obtain ⟨x1, x2⟩ := hx _ _ _ _ _ hI
    exact itl_go (sql_mono (x1.trans x2) hS) (by omega)
  · obtain ⟨x1, x2⟩ := hx _ _ _ _ _ hI
    exact itl_stop (sql_mono (x1.trans x2) hS) (by omega)
  · obtain ⟨x1, x2⟩ := hx _ _ _ _ _ hI
    obtain ⟨eH, y⟩ := y
    subst eH
    obtain ⟨w, hw, hr⟩ := pr_get hp hxi
    have ew := y vs (sql_mono (x1.trans x2) hS)
    rw [hw] at ew
    cases ew
    exact ⟨B, hI, Rp.mono x1 hr⟩
theorem st_forN_list [Rp α] {mi mi' : Option (List α)} {b : α → S → Option S} {s0 : S} {k : S → Option ρ} {r : ρ} (I : Hp → S → Hp → L2.St → Hp → Prop) (hm : (mi'.bind fun xs => (forN b xs s0).bind k) = some r) (e : Ex B H) (hc : Cp K te σ B H mi) (he : mi = mi')
    (hx : ∀ Be s B σ H, I Be s B σ H → Ex Be B ∧ Ex B H) (h0 : ∀ Be H1, Gr [] B H Be H1 → I Be s0 Be σ H1)
    (hs : ∀ Be x s B σ H v s' (N : L2.St → Hp → Prop), I Be s B σ H → rp K B v x → b x s = some s' → (∀ B2 σ2 H2, I Be s' B2 σ2 H2 → N σ2 H2) → g v σ H fun σ2 H2 => ts { D with nx := N, ct := N, bk := D.nx } σ2 H2)
    (hd : ∀ Be s B σ H, k s = some r → I Be s B σ H → D.nx σ H) : tFor (iList K te) g ts D σ H := by
  subst he
  obtain ⟨xs, e1, e2⟩ := bd_some hm
  refine hc B H (Gr.refl e) xs e1 _ fun v Be H1 g1 hv => ?_
  obtain ⟨a, vs, rfl, hS, hp⟩ := hv
  have hl := pr_len hp
  refine ⟨a, rfl, ⟨vs, sql_mono g1.e hS⟩, forN_run (K := K) (xs := xs) (B := Be) (I Be) (fun i s B σ H hI hi => ?_) (fun i s B σ H hI hi => ?_) (fun i x s B σ H v H' hI hxi y => ?_) e2 (h0 Be H1 g1) (fun x s B σ H v s' N => hs Be x s B σ H v s' N) (fun s B σ H => hd Be s B σ H)⟩
  · obtain ⟨x1, x2⟩ := hx _ _ _ _ _ hI
    exact itl_go (sql_mono (x1.trans x2) hS) (by omega)
  · obtain ⟨x1, x2⟩ := hx _ _ _ _ _ hI
    exact itl_stop (sql_mono (x1.trans x2) hS) (by omega)
  · obtain ⟨x1, x2⟩ := hx _ _ _ _ _ hI
    obtain ⟨eH, y⟩ := y
    subst eH
    obtain ⟨w, hw, hr⟩ := pr_get hp hxi
    have ew := y vs (sql_mono (x1.trans x2) hS)
    rw [hw] at ew
    cases ew
    exact ⟨B, hI, Rp.mono x1 hr⟩
/-- the bounds of a range -/
def prange1 (n : Int) : Option (List Int) := if -(2 ^ 62) ≤ n ∧ n < 2 ^ 62 then some (rangeL 0 n) else none
def prange2 (lo hi : Int) : Option (List Int) := if -(2 ^ 62) ≤ lo ∧ lo < 2 ^ 62 ∧ -(2 ^ 62) ≤ hi ∧ hi < 2 ^ 62 then some (rangeL lo hi) else none
theorem rangeL_len (lo hi : Int) : (rangeL lo hi).length = (hi - lo).toNat := by
  unfold rangeL
  rw [List.length_map, List.length_range]
theorem rangeL_get {lo hi x : Int} {i : Nat} (h : (rangeL lo hi)[i]? = some x) : x = lo + (i : Int) := by
  unfold rangeL at h
  rw [List.getElem?_map] at h
  cases e : (List.range (hi - lo).toNat)[i]? with
  | none =>
    rw [e] at h
    cases h
  | some j =>
    rw [e] at h
    have hj := List.getElem?_eq_some_iff.mp e
    obtain ⟨h1, h2⟩ := hj
    rw [List.getElem_range] at h2
    subst h2
    exact (Option.some.inj h).symm
theorem itr_yld {lo hi x : Int} {i : Nat} {H H' : Hp} {v : V} (n : Nat) (h : (rangeL lo hi)[i]? = some x) (y : (Itr lo n).yld i H v H') : H' = H ∧ v = .int x := by
  obtain ⟨e, y⟩ := y
  exact ⟨e, by rw [y, rangeL_get h]⟩
theorem st_forF_r1 {mi mi' : Option Int} {b : Int → S → Option (Fl S R)} {s0 : S} {k : Fl S R → Option ρ} {r : ρ} (I : Hp → S → Hp → L2.St → Hp → Prop) (hm : ((mi'.bind fun n => prange1 n).bind fun xs => (forF b xs s0).bind k) = some r) (e : Ex B H) (hc : Ca K tas σ B H (mi.bind fun n => some (n, ()))) (he : mi = mi')
    (h0 : ∀ Be H1, Gr [] B H Be H1 → I Be s0 Be σ H1)
    (hs : ∀ Be x s B σ H v c (N : L2.St → Hp → Prop), I Be s B σ H → rp K B v x → b x s = some c → (∀ s2 B2 σ2 H2, c = .nx s2 → I Be s2 B2 σ2 H2 → N σ2 H2) → (∀ s2 B2 σ2 H2, c = .bk s2 → I Be s2 B2 σ2 H2 → D.nx σ2 H2) →
      (∀ r', c = .rt r' → k (.rt r') = some r) → g v σ H fun σ2 H2 => ts { D with nx := N, ct := N, bk := D.nx } σ2 H2)
    (hd : ∀ Be s B σ H, k (.nx s) = some r → I Be s B σ H → D.nx σ H) : tFor (iRng1 tas) g ts D σ H := by
  subst he
  obtain ⟨xs, e1, e2⟩ := bd_some hm
  obtain ⟨n, e3, e4⟩ := bd_some e1
  obtain ⟨hb, ex⟩ := if_some e4
  subst ex
  subst e3
  refine hc B H (Gr.refl e) (n, ()) rfl _ fun vs Be H1 g1 hv => ?_
  obtain ⟨v, us, rfl, h1, h2⟩ := hv
  cases (show us = [] from h2)
  cases (show v = .int n from h1)
  have hl := rangeL_len 0 n
  rw [Int.sub_zero] at hl
  refine ⟨n, rfl, hb.1, hb.2, forF_run (K := K) (xs := rangeL 0 n) (B := Be) (I Be) (fun i s B σ H hI hi => (by rw [hl] at hi; exact hi)) (fun i s B σ H hI hi => (by rw [hl] at hi; exact hi)) (fun i x s B σ H v H' hI hxi y => ?_) e2 (h0 Be H1 g1) (fun x s B σ H v c N => hs Be x s B σ H v c N) (fun s B σ H => hd Be s B σ H)⟩
  obtain ⟨eH, ev⟩ := itr_yld _ hxi y
  subst eH
  exact ⟨B, hI, ev⟩
theorem st_forN_r1 {mi mi' : Option Int} {b : Int → S → Option S} {s0 : S} {k : S → Option ρ} {r : ρ} (I : Hp → S → Hp → L2.St → Hp → Prop) (hm : ((mi'.bind fun n => prange1 n).bind fun xs => (forN b xs s0).bind k) = some r) (e : Ex B H) (hc : Ca K tas σ B H (mi.bind fun n => some (n, ()))) (he : mi = mi')
    (h0 : ∀ Be H1, Gr [] B H Be H1 → I Be s0 Be σ H1)
    (hs : ∀ Be x s B σ H v s' (N : L2.St → Hp → Prop), I Be s B σ H → rp K B v x → b x s = some s' → (∀ B2 σ2 H2, I Be s' B2 σ2 H2 → N σ2 H2) → g v σ H fun σ2 H2 => ts { D with nx := N, ct := N, bk := D.nx } σ2 H2)
    (hd : ∀ Be s B σ H, k s = some r → I Be s B σ H → D.nx σ H) : tFor (iRng1 tas) g ts D σ H := by
  subst he
  obtain ⟨xs, e1, e2⟩ := bd_some hm
  obtain ⟨n, e3, e4⟩ := bd_some e1
  obtain ⟨hb, ex⟩ := if_some e4
  subst ex
  subst e3
  refine hc B H (Gr.refl e) (n, ()) rfl _ fun vs Be H1 g1 hv => ?_
  obtain ⟨v, us, rfl, h1, h2⟩ := hv
  cases (show us = [] from h2)
  cases (show v = .int n from h1)
  have hl := rangeL_len 0 n
  rw [Int.sub_zero] at hl
  refine ⟨n, rfl, hb.1, hb.2, forN_run (K := K) (xs := rangeL 0 n) (B := Be) (I Be) (fun i s B σ H hI hi => (by rw [hl] at hi; exact hi)) (fun i s B σ H hI hi => (by rw [hl] at hi; exact hi)) (fun i x s B σ H v H' hI hxi y => ?_) e2 (h0 Be H1 g1) (fun x s B σ H v s' N => hs Be x s B σ H v s' N) (fun s B σ H => hd Be s B σ H)⟩
  obtain ⟨eH, ev⟩ := itr_yld _ hxi y
  subst eH
  exact ⟨B, hI, ev⟩
end
end Cf

set_option Elab.async false
set_option linter.all false
set_option maxRecDepth 100000
set_option maxHeartbeats 4000000
namespace Cf
open PySem L2
open Rp (rp)
open RpL (rpl)
open Enc (enc)
/-! ### calls by name -/
/-- the module's name x is a def that keeps the promise sp, by at most level k -/
structure Fc (P : Program) (w : World) (K : Fg) (mg : Str → Option Value) (base : Heap) (k : Nat) (x : Str) (ps : List Str) (sp : Sp) : Prop where
  ex : ∃ f fd, FnOk P w K mg base CX0 k f fd ps sp ∧ mg x = some (.ref f) ∧ PySem.W.keepIn K (.ref f) = true ∧ Binds K fd ps []
theorem pe_fc {X : Cx} {k j : Nat} {x : Str} {ps : List Str} {sp : Sp} {p pos : Pos} {e : Expr} {es : List Expr} {t : TA} (c : Fc X.prog X.w X.K X.mg X.base k x ps sp) (hr : Room j X.A) (hk : k ≤ j) (hg : Gl X x) (ha : PA X (e :: es) t)
    (hdb : (x == ("__debug__" : Str)) = false := by decide) (he : starEach (e :: es) X.env = (false, eval e X.env) :: starEach es X.env := by rfl)
    (hpl : (backTo pos (starEach es X.env)).any (·.1) = false := by rfl) : PE X (.Call (.Name x p) (e :: es) [] pos) (tCall sp [] E0 t) := by
  obtain ⟨f, fd, F, hm, hkp, hb⟩ := c.ex
  exact pe_call F (hr.mono hk) hg hm hkp hb .nil pass0 ha hdb he hpl
theorem pe_gint {X : Cx} {x : Str} {i : Int} {pos : Pos} (hg : Gl X x) (h : ∃ t, X.mg x = some (.int i t)) (hdb : (x == ("__debug__" : Str)) = false := by decide) : PE X (.Name x pos) (tC (.int i)) := by
  obtain ⟨t, e⟩ := h
  exact pe_glob hg e ⟨_, rfl⟩ hdb
theorem pe_gstr {X : Cx} {x : Str} {z : Str} {pos : Pos} (hg : Gl X x) (h : ∃ t, X.mg x = some (.str z t)) (hdb : (x == ("__debug__" : Str)) = false := by decide) : PE X (.Name x pos) (tC (.str z)) := by
  obtain ⟨t, e⟩ := h
  exact pe_glob hg e ⟨_, rfl⟩ hdb
theorem fc_of {P : Program} {w : World} {K : Fg} {mg : Str → Option Value} {base : Heap} {k : Nat} {x qual : Str} {pa : Arguments} {bd : List Stmt} {sc : Scope} {ps : List Str} {sp : Sp} {f : Addr} {fd : FuncData} (F : FunD K x qual pa bd sc [] [] f fd) (ok : FnOk P w K mg base CX0 k f fd ps sp) (g : mg x = some (.ref f))
    (h : ∀ (kV doc pm : Value) (an : Option Addr) (cdv ct : Value) (us : List Value), us.length = ps.length → bindArgs (PySem.W.fnOf x qual pa bd sc .none kV doc pm an cdv ct) ⟨us, []⟩ = pure (ps.zip us)) : Fc P w K mg base k x ps sp :=
  ⟨f, fd, ok, g, F.kp, F.bindsN h⟩
/-! ### len, repr -/
section
variable {K : Fg}
def RLen (K : Fg) : List V → Hp → VK → Prop := fun xs H Q => ∃ x n, xs = [x] ∧ LenV K x H n ∧ Q (.int n) H
theorem call_len_ {X : Cx} : CallR X (.builtin "len") (RLen X.K) := call_len
theorem rc_lenL {α : Type} [Rp α] : Rcp K (RLen K) (fun t : List α × Unit => some (t.1.length : Int)) := fun B H t z vs e h ez Q q => by
  cases ez
  obtain ⟨v, us, rfl, h1, h2⟩ := h
  cases (show us = [] from h2)
  obtain ⟨a, ws, rfl, s, p⟩ := h1
  refine ⟨_, t.1.length, rfl, .inl ⟨ws, sql_mono e s, (pr_len p).symm⟩, q _ B H (Gr.refl e) rfl⟩
def plenS (x : Str) : Option Int := if x.length ≤ sizeLine then some (x.length : Int) else none
theorem rc_lenS : Rcp K (RLen K) (fun t : Str × Unit => plenS t.1) := fun B H t z vs e h ez Q q => by
  obtain ⟨v, us, rfl, h1, h2⟩ := h
  cases (show us = [] from h2)
  cases (show v = .str _ from h1)
  obtain ⟨hc, ez⟩ := if_some ez
  cases ez
  exact ⟨_, t.1.length, rfl, ⟨hc, rfl⟩, q _ B H (Gr.refl e) rfl⟩
def RRepI : List V → Hp → VK → Prop := fun xs H Q => ∃ i, xs = [.int i] ∧ i.natAbs.log2 < 1920 ∧ Q (.str (toString i)) H
theorem call_repI_ {X : Cx} : CallR X (.builtin "repr") RRepI := SkE.call_repr_int
def preprI (i : Int) : Option Str := if i.natAbs.log2 < 1920 then some (Str.ofString (toString i)) else none
theorem rc_repI : Rcp K RRepI (fun t : Int × Unit => preprI t.1) := fun B H t z vs e h ez Q q => by
  obtain ⟨v, us, rfl, h1, h2⟩ := h
  cases (show us = [] from h2)
  cases (show v = .int _ from h1)
  obtain ⟨hc, ez⟩ := if_some ez
  cases ez
  exact ⟨_, rfl, hc, q _ B H (Gr.refl e) rfl⟩
end
end Cf

set_option Elab.async false
set_option linter.all false
set_option maxRecDepth 100000
namespace Cf
open PySem L2
section
variable {t u : TS} {D : Ends} {σ : L2.St} {H : Hp}
theorem sq (h : t { D with nx := u D } σ H) : tSeq t u D σ H := h
theorem nxt (h : D.nx σ H) : tNext D σ H := h
theorem brkn (h : D.bk σ H) : tBreak D σ H := h
theorem cntn (h : D.ct σ H) : tCont D σ H := h
theorem gnx {f b c : L2.St → Hp → Prop} {r : VK} (h : f σ H) : Ends.nx ⟨f, r, b, c⟩ σ H := h
theorem gnm {i : Nat} {v : V} {Q : L2.St → Hp → Prop} (h : Q (σ.set i (some v)) H) : gName i v σ H Q := h
theorem Gr.base {M : List Addr} {B H B' H' : Hp} (_ : Gr M B H B' H') : ∃ B0, Ex B0 B' ∧ B0 = B' := ⟨B', Ex.refl _, rfl⟩
end
section
variable {K : Fg} {σ : L2.St} {B H : Hp} {ta : TE}
theorem cp_int1 {m : Option Int} (h : Cp K ta σ B H m) : Cp K (tCB RInt (tCons ta tNil)) σ B H m := fun B1 H1 g x e Q q => h B1 H1 g x e _ fun v B2 H2 g2 hv => by
  cases (show v = .int x from hv)
  exact .inl ⟨x, rfl, q _ B2 H2 g2 rfl⟩
end
end Cf
namespace Cf
/-! ### the mirrors' operations -/
theorem pmod_some {i j : Int} (h : 0 < j) : pmod i j = some (i % j) := if_pos h
theorem pdiv_some {i j : Int} (h : 0 < j) (h2 : j < 1073741824) : pdiv i j = some (i / j) := if_pos ⟨h, h2⟩
theorem pmul_r {i j : Int} (h1 : -18446744073709551616 < j) (h2 : j < 18446744073709551616) : pmul i j = some (i * j) := if_pos (.inr ⟨h1, h2⟩)
theorem pmul_l {i j : Int} (h1 : -18446744073709551616 < i) (h2 : i < 18446744073709551616) : pmul i j = some (i * j) := if_pos (.inl ⟨h1, h2⟩)
theorem pshr_some {i j : Int} (h : 0 ≤ j) : pshr i j = some (i / 2 ^ j.toNat) := if_pos h
theorem at_nat {α : Type} {xs : List α} {i : Int} (h : 0 ≤ i) : at? xs i = xs[i.toNat]? := if_pos h
theorem forF_nil {α S R : Type} (b : α → S → Option (Fl S R)) (s : S) : forF b [] s = some (.nx s) := rfl
theorem forF_cons {α S R : Type} (b : α → S → Option (Fl S R)) (x : α) (xs : List α) (s : S) : forF b (x :: xs) s = (b x s).bind fun c => match c with
    | .nx s' => forF b xs s'
    | .bk s' => some (.nx s')
    | .rt r => some (.rt r) := rfl
theorem forN_cons {α S : Type} (b : α → S → Option S) (x : α) (xs : List α) (s : S) : forN b (x :: xs) s = (b x s).bind fun s' => forN b xs s' := rfl
/-- a loop that never leaves and keeps I -/
theorem forF_all {α S R : Type} {b : α → S → Option (Fl S R)} (I : S → Prop) : ∀ (xs : List α) (s : S), I s → (∀ x ∈ xs, ∀ s, I s → ∃ s', b x s = some (.nx s') ∧ I s') → ∃ s', forF b xs s = some (.nx s') ∧ I s'
  | [], s, h, _ => ⟨s, rfl, h⟩
  | x :: xs, s, h, hb => by
    obtain ⟨s', e, h'⟩ := hb x List.mem_cons_self s h
    obtain ⟨s2, e2, h2⟩ := forF_all I xs s' h' fun y hy => hb y (List.mem_cons_of_mem _ hy)
    exact ⟨s2, by rw [forF_cons, e]; exact e2, h2⟩
theorem forN_all {α S : Type} {b : α → S → Option S} (I : S → Prop) : ∀ (xs : List α) (s : S), I s → (∀ x ∈ xs, ∀ s, I s → ∃ s', b x s = some s' ∧ I s') → ∃ s', forN b xs s = some s' ∧ I s'
  | [], s, h, _ => ⟨s, rfl, h⟩
  | x :: xs, s, h, hb => by
    obtain ⟨s', e, h'⟩ := hb x List.mem_cons_self s h
    obtain ⟨s2, e2, h2⟩ := forN_all I xs s' h' fun y hy => hb y (List.mem_cons_of_mem _ hy)
    exact ⟨s2, by rw [forN_cons, e]; exact e2, h2⟩
theorem mem_rangeL {lo hi x : Int} : x ∈ rangeL lo hi ↔ lo ≤ x ∧ x < hi := by
  unfold rangeL
  rw [List.mem_map]
  constructor
  · rintro ⟨i, h, rfl⟩
    rw [List.mem_range] at h
    omega
  · intro h
    exact ⟨(x - lo).toNat, by rw [List.mem_range]; omega, by omega⟩
end Cf

set_option Elab.async false
set_option linter.all false
set_option maxRecDepth 100000
set_option maxHeartbeats 4000000
namespace Cw
open PySem L2 Cf
open PySem.Spec PyProof.Rows
open Rp (rp)
open RpL (rpl)
def top (i : Nat) : Stmt := PySem.Challenge.pw_clearfloor_k66_words_are_mixed.main.body.getD i (.Pass ⟨0, 0, 0, 0⟩)
structure Tx (K : Fg) (mg : Str → Option Value) : Prop where
  free_int : mg "int" = none
  free_len : mg "len" = none
  free_range : mg "range" = none
  free_repr : mg "repr" = none
  int_WORD : ∃ t, mg "WORD" = some (.int 4294967296 t)
section
variable {P : Program} {w : World} {K : Fg} {mg : Str → Option Value} {base : Heap}
def m_mix (a_first : Int) (a_second : Int) : Option Int :=
 (Option.bind (pmod (a_second + (2654435769 : Int)) (4294967296 : Int)) fun high1 =>
 (Option.bind (o2 (pmul (Builtin.bitXor a_first high1) (2246822507 : Int)) (some (4294967296 : Int)) fun x y => pmod x y) fun mixed7 =>
 (o2 (o2 (o2 (some mixed7) (pshr mixed7 (15 : Int)) fun x y => some (Builtin.bitXor x y)) (some (3266489909 : Int)) fun x y => pmul x y) (some (4294967296 : Int)) fun x y => pmod x y)))
abbrev s_mix : Stmt := top 2
theorem sc_mix : FnScope ["first", "second", "high", "mixed"] ["first", "second"] (defScope s_mix) := ⟨rfl, rfl, rfl, by decide +kernel, rfl, by decide +kernel, by decide +kernel⟩
abbrev sp_mix (K : Fg) : Sp := spP K (fun t : Int × Int × Unit => m_mix t.1 t.2.1)
theorem ok_mix {f : Addr} {fd : FuncData} (F : FunD K "mix" "mix" (defArgs s_mix) (defBody s_mix) (defScope s_mix) [] [] f fd) (T : Tx K mg)  : FnOk P w K mg base CX0 1 f fd ["first", "second"] (sp_mix K) := by
  have sc := sc_mix
  refine F.ok sc (fun vs H Q E h => ?_) (fun cdv A outer s H vs Q E hr h => ?_)
  · obtain ⟨Bs, t, r, ex, ⟨u0, _, rfl, hu0, ⟨u1, _, rfl, hu1, hz⟩⟩, hm, hQ⟩ := h
    cases hz
    rfl
  · obtain ⟨Bs, ⟨a_first, a_second, ⟨⟩⟩, r, ex, ⟨u0, _, rfl, hu0, ⟨u1, _, rfl, hu1, hz⟩⟩, hm, hQ⟩ := h
    cases hz
    replace hu0 : rp K Bs u0 a_first := hu0
    replace hu1 : rp K Bs u1 a_second := hu1
    replace hm : m_mix a_first a_second = some r := hm
    obtain ⟨Hs, eHs⟩ : ∃ Hs, Hs = H := ⟨_, rfl⟩
    subst eHs
    have G : Gr [] Bs Hs Bs Hs := Gr.refl ex
    unfold m_mix at hm
    refine ⟨_, PSs.nox (pss_cons (ps_set (i := 2) sc.nd rfl (.inl rfl) (pe_callTy call_int_ rfl T.free_int boot_int (pa_cons (pe_op op_mod (pe_op op_add (pv 1) pe_int) (pe_gint rfl T.int_WORD)) pa_nil))) (pss_cons (ps_set (i := 3) sc.nd rfl (.inl rfl) (pe_op op_mod (pe_callTy call_int_ rfl T.free_int boot_int (pa_cons (pe_op op_mul (pe_op op_xor (pv 0) (pv 2)) pe_int) pa_nil)) (pe_gint rfl T.int_WORD))) (pss_one (ps_ret (pe_op op_mod (pe_callTy call_int_ rfl T.free_int boot_int (pa_cons (pe_op op_mul (pe_op op_xor (pv 3) (pe_op op_shr (pv 3) pe_int)) pe_int) pa_nil)) (pe_gint rfl T.int_WORD)))))), ?_⟩
    refine sq ?_
    refine st_asg (K := K) hm G.e (cp_int1 (cp_op r2_mod (cp_op r2_add (cp_var rfl hu1) cp_int) cp_int)) (by first | rfl | simp only [o2, Option.bind_assoc, Option.bind_some]) fun high1 v2 B3 H4 _ hm g5 h6 => ?_
    replace G := G.then g5
    replace hu0 := Rp.mono g5.b hu0
    replace hu1 := Rp.mono g5.b hu1
    refine gnx ?_
    refine sq ?_
    refine st_asg (K := K) hm G.e (cp_op r2_mod (cp_int1 (cp_op r2_mul (cp_op r2_xor (cp_var rfl hu0) (cp_var rfl h6)) cp_int)) cp_int) (by first | rfl | simp only [o2, Option.bind_assoc, Option.bind_some]) fun mixed7 v8 B9 H10 _ hm g11 h12 => ?_
    replace G := G.then g11
    replace hu0 := Rp.mono g11.b hu0
    replace hu1 := Rp.mono g11.b hu1
    replace h6 := Rp.mono g11.b h6
    refine gnx ?_
    refine st_ret (K := K) hm G.e (cp_op r2_mod (cp_int1 (cp_op r2_mul (cp_op r2_xor (cp_var rfl h12) (cp_op r2_shr (cp_var rfl h12) cp_int)) cp_int)) cp_int) (by first | rfl | simp only [o2, Option.bind_assoc, Option.bind_some]) fun v B1 H1 g hv => ?_
    exact hQ v B1 H1 (G.then g) hv
def m_l_cell (a_l_script : (List Int)) (a_l_k : Int) : Option Int :=
 (Option.bind (some ((decide (a_l_k < (a_l_script.length : Int))))) fun b => if b = true then
 (at? a_l_script a_l_k)
 else
 (some (0 : Int)))
abbrev s_l_cell : Stmt := top 4
theorem sc_l_cell : FnScope ["_law_script", "_law_k"] ["_law_script", "_law_k"] (defScope s_l_cell) := ⟨rfl, rfl, rfl, by decide +kernel, rfl, by decide +kernel, by decide +kernel⟩
abbrev sp_l_cell (K : Fg) : Sp := spP K (fun t : (List Int) × Int × Unit => m_l_cell t.1 t.2.1)
theorem ok_l_cell {f : Addr} {fd : FuncData} (F : FunD K "_law_cell" "_law_cell" (defArgs s_l_cell) (defBody s_l_cell) (defScope s_l_cell) [] [] f fd) (T : Tx K mg)  : FnOk P w K mg base CX0 1 f fd ["_law_script", "_law_k"] (sp_l_cell K) := by
  have sc := sc_l_cell
  refine F.ok sc (fun vs H Q E h => ?_) (fun cdv A outer s H vs Q E hr h => ?_)
  · obtain ⟨Bs, t, r, ex, ⟨u0, _, rfl, hu0, ⟨u1, _, rfl, hu1, hz⟩⟩, hm, hQ⟩ := h
    cases hz
    rfl
  · obtain ⟨Bs, ⟨a_l_script, a_l_k, ⟨⟩⟩, r, ex, ⟨u0, _, rfl, hu0, ⟨u1, _, rfl, hu1, hz⟩⟩, hm, hQ⟩ := h
    cases hz
    replace hu0 : rp K Bs u0 a_l_script := hu0
    replace hu1 : rp K Bs u1 a_l_k := hu1
    replace hm : m_l_cell a_l_script a_l_k = some r := hm
    obtain ⟨Hs, eHs⟩ : ∃ Hs, Hs = H := ⟨_, rfl⟩
    subst eHs
    have G : Gr [] Bs Hs Bs Hs := Gr.refl ex
    unfold m_l_cell at hm
    refine ⟨_, PSs.nox (pss_cons (ps_if (pt_cmpR op_lt (pv 1) (pe_callB call_len_ rfl T.free_len boot_len (pa_cons (pv 0) pa_nil)) (nomark _)) (pss_one (ps_ret (pe_ix ix_list (pv 0) (pv 1) (fun _ _ => rfl)))) pss_nil) (pss_one (ps_ret pe_int))), ?_⟩
    refine sq ?_
    refine st_if hm G.e (ct_test (cp_op r2_lt (cp_var rfl hu1) (cp_cb rc_lenL (ca_cons (cp_var rfl hu0) ca_nil)))) rfl (fun B1 H2 hc4 hm g3 => ?_) (fun B1 H2 hc4 hm g3 => ?_)
    · replace G := G.then g3
      replace hu0 := Rp.mono g3.b hu0
      replace hu1 := Rp.mono g3.b hu1
      refine st_ret (K := K) hm G.e (cp_op r2_ixL (cp_var rfl hu0) (cp_var rfl hu1)) (by first | rfl | simp only [o2, Option.bind_assoc, Option.bind_some]) fun v B1 H1 g hv => ?_
      exact hQ v B1 H1 (G.then g) hv
    · replace G := G.then g3
      replace hu0 := Rp.mono g3.b hu0
      replace hu1 := Rp.mono g3.b hu1
      refine nxt ?_
      refine gnx ?_
      refine st_ret (K := K) hm G.e cp_int rfl fun v B1 H1 g hv => ?_
      exact hQ v B1 H1 (G.then g) hv
def m_l_same (a_l_one : Int) (a_l_other : Int) : Option Bool :=
 (o2 (preprI a_l_one) (preprI a_l_other) fun x y => some ((decide (x = y))))
abbrev s_l_same : Stmt := top 5
theorem sc_l_same : FnScope ["_law_one", "_law_other"] ["_law_one", "_law_other"] (defScope s_l_same) := ⟨rfl, rfl, rfl, by decide +kernel, rfl, by decide +kernel, by decide +kernel⟩
abbrev sp_l_same (K : Fg) : Sp := spP K (fun t : Int × Int × Unit => m_l_same t.1 t.2.1)
theorem ok_l_same {f : Addr} {fd : FuncData} (F : FunD K "_law_same" "_law_same" (defArgs s_l_same) (defBody s_l_same) (defScope s_l_same) [] [] f fd) (T : Tx K mg)  : FnOk P w K mg base CX0 1 f fd ["_law_one", "_law_other"] (sp_l_same K) := by
  have sc := sc_l_same
  refine F.ok sc (fun vs H Q E h => ?_) (fun cdv A outer s H vs Q E hr h => ?_)
  · obtain ⟨Bs, t, r, ex, ⟨u0, _, rfl, hu0, ⟨u1, _, rfl, hu1, hz⟩⟩, hm, hQ⟩ := h
    cases hz
    rfl
  · obtain ⟨Bs, ⟨a_l_one, a_l_other, ⟨⟩⟩, r, ex, ⟨u0, _, rfl, hu0, ⟨u1, _, rfl, hu1, hz⟩⟩, hm, hQ⟩ := h
    cases hz
    replace hu0 : rp K Bs u0 a_l_one := hu0
    replace hu1 : rp K Bs u1 a_l_other := hu1
    replace hm : m_l_same a_l_one a_l_other = some r := hm
    obtain ⟨Hs, eHs⟩ : ∃ Hs, Hs = H := ⟨_, rfl⟩
    subst eHs
    have G : Gr [] Bs Hs Bs Hs := Gr.refl ex
    unfold m_l_same at hm
    refine ⟨_, PSs.nox (pss_one (ps_ret (pe_cmpR op_eq (pe_callB call_repI_ rfl T.free_repr boot_repr (pa_cons (pv 0) pa_nil)) (pe_callB call_repI_ rfl T.free_repr boot_repr (pa_cons (pv 1) pa_nil)) (nomark _)))), ?_⟩
    refine st_ret (K := K) hm G.e (cp_op r2_eq (cp_cb rc_repI (ca_cons (cp_var rfl hu0) ca_nil)) (cp_cb rc_repI (ca_cons (cp_var rfl hu1) ca_nil))) (by first | rfl | simp only [o2, Option.bind_assoc, Option.bind_some]) fun v B1 H1 g hv => ?_
    exact hQ v B1 H1 (G.then g) hv
def m_l_either_b1 (p_l_k : Int) (p_l_total : Int) (p_l_one : Int) (p_l_other : Int) (p_l_worth : Int) : Option (Int × Int × Int × Int) :=
 (Option.bind (Option.bind (o2 (pmod p_l_one (2 : Int)) (pmod p_l_other (2 : Int)) fun x y => some ((!decide (x = y)))) fun b => if b = true then
 (Option.bind (some (p_l_total + p_l_worth)) fun l_total43 =>
 (some (l_total43)))
 else
 (some (p_l_total))) fun s =>
 (Option.bind (pdiv p_l_one (2 : Int)) fun l_one63 =>
 (Option.bind (pdiv p_l_other (2 : Int)) fun l_other69 =>
 (Option.bind (pmul p_l_worth (2 : Int)) fun l_worth75 =>
 some (s, l_one63, l_other69, l_worth75)))))
def m_l_either (a_l_one : Int) (a_l_other : Int) : Option Int :=
 (Option.bind (some (0 : Int)) fun l_total1 =>
 (Option.bind (some (1 : Int)) fun l_worth7 =>
 (Option.bind (Option.bind (some (40 : Int)) fun n => prange1 n) fun xs => Option.bind (forN (fun x (s : Int × Int × Int × Int) => m_l_either_b1 x s.1 s.2.1 s.2.2.1 s.2.2.2) xs (l_total1, a_l_one, a_l_other, l_worth7)) fun s =>
 (some s.1))))
abbrev s_l_either : Stmt := top 6
theorem sc_l_either : FnScope ["_law_one", "_law_other", "_law_total", "_law_worth", "_law_k"] ["_law_one", "_law_other"] (defScope s_l_either) := ⟨rfl, rfl, rfl, by decide +kernel, rfl, by decide +kernel, by decide +kernel⟩
abbrev sp_l_either (K : Fg) : Sp := spP K (fun t : Int × Int × Unit => m_l_either t.1 t.2.1)
theorem ok_l_either {f : Addr} {fd : FuncData} (F : FunD K "_law_either" "_law_either" (defArgs s_l_either) (defBody s_l_either) (defScope s_l_either) [] [] f fd) (T : Tx K mg)  : FnOk P w K mg base CX0 1 f fd ["_law_one", "_law_other"] (sp_l_either K) := by
  have sc := sc_l_either
  refine F.ok sc (fun vs H Q E h => ?_) (fun cdv A outer s H vs Q E hr h => ?_)
  · obtain ⟨Bs, t, r, ex, ⟨u0, _, rfl, hu0, ⟨u1, _, rfl, hu1, hz⟩⟩, hm, hQ⟩ := h
    cases hz
    rfl
  · obtain ⟨Bs, ⟨a_l_one, a_l_other, ⟨⟩⟩, r, ex, ⟨u0, _, rfl, hu0, ⟨u1, _, rfl, hu1, hz⟩⟩, hm, hQ⟩ := h
    cases hz
    replace hu0 : rp K Bs u0 a_l_one := hu0
    replace hu1 : rp K Bs u1 a_l_other := hu1
    replace hm : m_l_either a_l_one a_l_other = some r := hm
    obtain ⟨Hs, eHs⟩ : ∃ Hs, Hs = H := ⟨_, rfl⟩
    subst eHs
    have G : Gr [] Bs Hs Bs Hs := Gr.refl ex
    unfold m_l_either at hm
    refine ⟨_, PSs.nox (pss_cons (ps_set (i := 2) sc.nd rfl (.inl rfl) pe_int) (pss_cons (ps_set (i := 3) sc.nd rfl (.inl rfl) pe_int) (pss_cons (ps_for PassesOwn.never rfl (pi_range1 rfl T.free_range (pa_cons pe_int pa_nil)) (pg_name (i := 4) sc.nd rfl (.inl rfl)) (pss_cons (ps_if (pt_cmpR op_ne (pe_op op_mod (pe_callTy call_int_ rfl T.free_int boot_int (pa_cons (pv 0) pa_nil)) pe_int) (pe_op op_mod (pe_callTy call_int_ rfl T.free_int boot_int (pa_cons (pv 1) pa_nil)) pe_int) (nomark _)) (pss_one (ps_set (i := 2) sc.nd rfl (.inl rfl) (pe_op op_add (pv 2) (pv 3)))) pss_nil) (pss_cons (ps_set (i := 0) sc.nd rfl (.inl rfl) (pe_op op_fdiv (pv 0) pe_int)) (pss_cons (ps_set (i := 1) sc.nd rfl (.inl rfl) (pe_op op_fdiv (pv 1) pe_int)) (pss_one (ps_set (i := 3) sc.nd rfl (.inl rfl) (pe_op op_mul (pv 3) pe_int))))))) (pss_one (ps_ret (pv 2)))))), ?_⟩
    refine sq ?_
    refine st_asg (K := K) hm G.e cp_int rfl fun l_total1 v2 B3 H4 _ hm g5 h6 => ?_
    replace G := G.then g5
    replace hu0 := Rp.mono g5.b hu0
    replace hu1 := Rp.mono g5.b hu1
    refine gnx ?_
    refine sq ?_
    refine st_asg (K := K) hm G.e cp_int rfl fun l_worth7 v8 B9 H10 _ hm g11 h12 => ?_
    replace G := G.then g11
    replace hu0 := Rp.mono g11.b hu0
    replace hu1 := Rp.mono g11.b hu1
    replace h6 := Rp.mono g11.b h6
    refine gnx ?_
    refine sq ?_
    refine st_forN_r1 (K := K) (fun Be (s : Int × Int × Int × Int) B σ H => Gr [] Bs Hs B H ∧ Ex B9 B ∧ Ex Be B ∧ ∃ (w_l_total : V) (w_l_one : V) (w_l_other : V) (w_l_worth : V) (o4 : Option V), σ = [some w_l_one, some w_l_other, some w_l_total, some w_l_worth, o4] ∧ rp K B w_l_total s.1 ∧ rp K B w_l_one s.2.1 ∧ rp K B w_l_other s.2.2.1 ∧ rp K B w_l_worth s.2.2.2) hm G.e (ca_cons cp_int ca_nil) rfl (fun Be H1 g => ⟨G.then g, g.b, Ex.refl _, v2, u0, u1, v8, _, rfl, Rp.mono g.b h6, Rp.mono g.b hu0, Rp.mono g.b hu1, Rp.mono g.b h12⟩) ?_ ?_
    · rintro Be x13 s14 B15 σ H16 v17 c18 N19 ⟨G, eb33, ee34, w25, w26, w27, w28, _, rfl, h29, h30, h31, h32⟩ hv20 hm hn22
      unfold m_l_either_b1 at hm
      refine gnm ?_
      refine sq ?_
      refine st_ifJ hm (fun (s : Int) σ H => ∃ (B : Hp) (w_l_total : V), Gr [] Bs Hs B H ∧ Ex B15 B ∧ σ = [some w26, some w27, some w_l_total, some w28, some v17] ∧ rp K B w_l_total s) G.e (ct_test (cp_op r2_ne (cp_op r2_mod (cp_int1 (cp_var rfl h30)) cp_int) (cp_op r2_mod (cp_int1 (cp_var rfl h31)) cp_int))) (by first | rfl | simp only [o2, Option.bind_assoc, Option.bind_some]) ?_ ?_ ?_
      · intro s35 B36 H37 N38 hc39 hm g40 hn41
        replace G := G.then g40
        replace eb33 := eb33.trans g40.b
        replace ee34 := ee34.trans g40.b
        replace h29 := Rp.mono g40.b h29
        replace h30 := Rp.mono g40.b h30
        replace h31 := Rp.mono g40.b h31
        replace h32 := Rp.mono g40.b h32
        replace hv20 := Rp.mono g40.b hv20
        have ej42 := g40.b
        refine st_asg (K := K) hm G.e (cp_op r2_add (cp_var rfl h29) (cp_var rfl h32)) rfl fun l_total43 v44 B45 H46 _ hm g47 h48 => ?_
        replace G := G.then g47
        replace eb33 := eb33.trans g47.b
        replace ee34 := ee34.trans g47.b
        replace ej42 := ej42.trans g47.b
        replace h30 := Rp.mono g47.b h30
        replace h31 := Rp.mono g47.b h31
        replace h32 := Rp.mono g47.b h32
        replace hv20 := Rp.mono g47.b hv20
        cases hm
        exact hn41 _ _ ⟨_, v44, G, ej42, rfl, h48⟩
      · intro s49 B50 H51 N52 hc53 hm g54 hn55
        replace G := G.then g54
        replace eb33 := eb33.trans g54.b
        replace ee34 := ee34.trans g54.b
        replace h29 := Rp.mono g54.b h29
        replace h30 := Rp.mono g54.b h30
        replace h31 := Rp.mono g54.b h31
        replace h32 := Rp.mono g54.b h32
        replace hv20 := Rp.mono g54.b hv20
        have ej56 := g54.b
        refine nxt ?_
        cases hm
        exact hn55 _ _ ⟨_, w25, G, ej56, rfl, h29⟩
      · rintro s57 σ H59 hm ⟨B58, w60, G, eb62, rfl, h61⟩
        replace h30 := Rp.mono eb62 h30
        replace h31 := Rp.mono eb62 h31
        replace h32 := Rp.mono eb62 h32
        replace hv20 := Rp.mono eb62 hv20
        replace eb33 := eb33.trans eb62
        replace ee34 := ee34.trans eb62
        refine gnx ?_
        refine sq ?_
        refine st_asg (K := K) hm G.e (cp_op r2_div (cp_var rfl h30) cp_int) (by first | rfl | simp only [o2, Option.bind_assoc, Option.bind_some]) fun l_one63 v64 B65 H66 _ hm g67 h68 => ?_
        replace G := G.then g67
        replace eb33 := eb33.trans g67.b
        replace ee34 := ee34.trans g67.b
        replace h31 := Rp.mono g67.b h31
        replace h32 := Rp.mono g67.b h32
        replace hv20 := Rp.mono g67.b hv20
        replace h61 := Rp.mono g67.b h61
        refine gnx ?_
        refine sq ?_
        refine st_asg (K := K) hm G.e (cp_op r2_div (cp_var rfl h31) cp_int) (by first | rfl | simp only [o2, Option.bind_assoc, Option.bind_some]) fun l_other69 v70 B71 H72 _ hm g73 h74 => ?_
        replace G := G.then g73
        replace eb33 := eb33.trans g73.b
        replace ee34 := ee34.trans g73.b
        replace h32 := Rp.mono g73.b h32
        replace hv20 := Rp.mono g73.b hv20
        replace h61 := Rp.mono g73.b h61
        replace h68 := Rp.mono g73.b h68
        refine gnx ?_
        refine st_asg (K := K) hm G.e (cp_op r2_mul (cp_var rfl h32) cp_int) (by first | rfl | simp only [o2, Option.bind_assoc, Option.bind_some]) fun l_worth75 v76 B77 H78 _ hm g79 h80 => ?_
        replace G := G.then g79
        replace eb33 := eb33.trans g79.b
        replace ee34 := ee34.trans g79.b
        replace hv20 := Rp.mono g79.b hv20
        replace h61 := Rp.mono g79.b h61
        replace h68 := Rp.mono g79.b h68
        replace h74 := Rp.mono g79.b h74
        cases hm
        exact hn22 _ _ _ ⟨G, eb33, ee34, w60, v64, v70, v76, _, rfl, h61, h68, h74, h80⟩
    · rintro Be s81 B82 σ H83 hm ⟨G, eb92, _, w84, w85, w86, w87, _, rfl, h88, h89, h90, h91⟩
      refine gnx ?_
      refine st_ret (K := K) hm G.e (cp_var rfl h88) rfl fun v B1 H1 g hv => ?_
      exact hQ v B1 H1 (G.then g) hv
def m_law_b1 (p_l_script : (List Int)) (p_l_word : Int) (p_l_k : Int) : Option (Fl (Unit) (Bool)) :=
 (Option.bind (o2 (o2 (o2 (Option.bind (pmul (2 : Int) p_l_k) fun y1 => m_l_cell p_l_script y1) (o2 (pmul p_l_k p_l_k) (some (1 : Int)) fun x y => some (x + y)) fun x y => pmul x y) (pmul p_l_k (5 : Int)) fun x y => some (x - y)) (some p_l_word) fun x y => pmod x y) fun l_first21 =>
 (Option.bind (o2 (o2 (Option.bind (o2 (pmul (2 : Int) p_l_k) (some (1 : Int)) fun x y => some (x + y)) fun y1 => m_l_cell p_l_script y1) (pmul (3 : Int) p_l_k) fun x y => some (x + y)) (some p_l_word) fun x y => pmod x y) fun l_second27 =>
 (Option.bind (o2 (o2 (Option.bind (pmod (l_second27 + (2654435769 : Int)) p_l_word) fun y1 => m_l_either l_first21 y1) (some (2246822507 : Int)) fun x y => pmul x y) (some p_l_word) fun x y => pmod x y) fun l_mixed33 =>
 (Option.bind (Option.bind (Option.bind (m_mix l_first21 l_second27) fun y0 => Option.bind (o2 (o2 (Option.bind (o2 (some l_mixed33) (ppow (2 : Int) (15 : Int)) fun x y => pdiv x y) fun y1 => m_l_either l_mixed33 y1) (some (3266489909 : Int)) fun x y => pmul x y) (some p_l_word) fun x y => pmod x y) fun y1 => m_l_same y0 y1) fun x => some (!x)) fun b => if b = true then
 (Option.bind (some false) fun x => some (.rt x))
 else
 some (.nx ())))))
def m_law (a_l_script : (List Int)) : Option Bool :=
 (Option.bind (ppow (2 : Int) (32 : Int)) fun l_word1 =>
 (Option.bind (Option.bind (some (6 : Int)) fun n => prange1 n) fun xs => Option.bind (forF (fun x (s : Unit) => m_law_b1 a_l_script l_word1 x) xs ()) fun f => match f with
 | .nx s =>
 (some true)
 | .bk _ => none
 | .rt r => some r))
abbrev s_law : Stmt := top 7
theorem sc_law : FnScope ["_law_script", "_law_word", "_law_k", "_law_first", "_law_second", "_law_mixed"] ["_law_script"] (defScope s_law) := ⟨rfl, rfl, rfl, by decide +kernel, rfl, by decide +kernel, by decide +kernel⟩
abbrev sp_law (K : Fg) : Sp := spP K (fun t : (List Int) × Unit => m_law t.1)
theorem ok_law {f : Addr} {fd : FuncData} (F : FunD K "law" "law" (defArgs s_law) (defBody s_law) (defScope s_law) [] [] f fd) (T : Tx K mg) (c_l_cell : Fc P w K mg base 1 "_law_cell" ["_law_script", "_law_k"] (sp_l_cell K)) (c_l_either : Fc P w K mg base 1 "_law_either" ["_law_one", "_law_other"] (sp_l_either K)) (c_l_same : Fc P w K mg base 1 "_law_same" ["_law_one", "_law_other"] (sp_l_same K)) (c_mix : Fc P w K mg base 1 "mix" ["first", "second"] (sp_mix K)) : FnOk P w K mg base CX0 2 f fd ["_law_script"] (sp_law K) := by
  have sc := sc_law
  refine F.ok sc (fun vs H Q E h => ?_) (fun cdv A outer s H vs Q E hr h => ?_)
  · obtain ⟨Bs, t, r, ex, ⟨u0, _, rfl, hu0, hz⟩, hm, hQ⟩ := h
    cases hz
    rfl
  · obtain ⟨Bs, ⟨a_l_script, ⟨⟩⟩, r, ex, ⟨u0, _, rfl, hu0, hz⟩, hm, hQ⟩ := h
    cases hz
    replace hu0 : rp K Bs u0 a_l_script := hu0
    replace hm : m_law a_l_script = some r := hm
    obtain ⟨Hs, eHs⟩ : ∃ Hs, Hs = H := ⟨_, rfl⟩
    subst eHs
    have G : Gr [] Bs Hs Bs Hs := Gr.refl ex
    unfold m_law at hm
    refine ⟨_, PSs.nox (pss_cons (ps_set (i := 1) sc.nd rfl (.inl rfl) (pe_op op_pow pe_int pe_int)) (pss_cons (ps_for PassesOwn.never rfl (pi_range1 rfl T.free_range (pa_cons pe_int pa_nil)) (pg_name (i := 2) sc.nd rfl (.inl rfl)) (pss_cons (ps_set (i := 3) sc.nd rfl (.inl rfl) (pe_op op_mod (pe_callTy call_int_ rfl T.free_int boot_int (pa_cons (pe_op op_sub (pe_op op_mul (pe_fc c_l_cell hr (by decide) rfl (pa_cons (pv 0) (pa_cons (pe_op op_mul pe_int (pv 2)) pa_nil))) (pe_op op_add (pe_op op_mul (pv 2) (pv 2)) pe_int)) (pe_op op_mul (pv 2) pe_int)) pa_nil)) (pv 1))) (pss_cons (ps_set (i := 4) sc.nd rfl (.inl rfl) (pe_op op_mod (pe_callTy call_int_ rfl T.free_int boot_int (pa_cons (pe_op op_add (pe_fc c_l_cell hr (by decide) rfl (pa_cons (pv 0) (pa_cons (pe_op op_add (pe_op op_mul pe_int (pv 2)) pe_int) pa_nil))) (pe_op op_mul pe_int (pv 2))) pa_nil)) (pv 1))) (pss_cons (ps_set (i := 5) sc.nd rfl (.inl rfl) (pe_op op_mod (pe_callTy call_int_ rfl T.free_int boot_int (pa_cons (pe_op op_mul (pe_fc c_l_either hr (by decide) rfl (pa_cons (pv 3) (pa_cons (pe_op op_mod (pe_callTy call_int_ rfl T.free_int boot_int (pa_cons (pe_op op_add (pv 4) pe_int) pa_nil)) (pv 1)) pa_nil))) pe_int) pa_nil)) (pv 1))) (pss_one (ps_if (pt_not (pt_val (pe_fc c_l_same hr (by decide) rfl (pa_cons (pe_fc c_mix hr (by decide) rfl (pa_cons (pv 3) (pa_cons (pv 4) pa_nil))) (pa_cons (pe_op op_mod (pe_callTy call_int_ rfl T.free_int boot_int (pa_cons (pe_op op_mul (pe_fc c_l_either hr (by decide) rfl (pa_cons (pv 5) (pa_cons (pe_op op_fdiv (pv 5) (pe_op op_pow pe_int pe_int)) pa_nil))) pe_int) pa_nil)) (pv 1)) pa_nil))))) (pss_one (ps_ret pe_bl)) pss_nil)))))) (pss_one (ps_ret pe_bl)))), ?_⟩
    refine sq ?_
    refine st_asg (K := K) hm G.e (cp_op r2_pow cp_int cp_int) (by first | rfl | simp only [o2, Option.bind_assoc, Option.bind_some]) fun l_word1 v2 B3 H4 _ hm g5 h6 => ?_
    replace G := G.then g5
    replace hu0 := Rp.mono g5.b hu0
    refine gnx ?_
    refine sq ?_
    refine st_forF_r1 (K := K) (fun Be (s : Unit) B σ H => Gr [] Bs Hs B H ∧ Ex B3 B ∧ Ex Be B ∧ ∃ (o2 : Option V) (o3 : Option V) (o4 : Option V) (o5 : Option V), σ = [some u0, some v2, o2, o3, o4, o5]) hm G.e (ca_cons cp_int ca_nil) rfl (fun Be H1 g => ⟨G.then g, g.b, Ex.refl _, _, _, _, _, rfl⟩) ?_ ?_
    · rintro Be x7 s8 B9 σ H10 v11 c12 N13 ⟨G, eb19, ee20, _, _, _, _, rfl⟩ hv14 hm hn16 hk17 ht18
      unfold m_law_b1 at hm
      replace hu0 := Rp.mono eb19 hu0
      replace h6 := Rp.mono eb19 h6
      refine gnm ?_
      refine sq ?_
      refine st_asg (K := K) hm G.e (cp_op r2_mod (cp_int1 (cp_op r2_sub (cp_op r2_mul (cp_call (ca_cons (cp_var rfl hu0) (ca_cons (cp_op r2_mul cp_int (cp_var rfl hv14)) ca_nil))) (cp_op r2_add (cp_op r2_mul (cp_var rfl hv14) (cp_var rfl hv14)) cp_int)) (cp_op r2_mul (cp_var rfl hv14) cp_int))) (cp_var rfl h6)) (by first | rfl | simp only [o2, Option.bind_assoc, Option.bind_some]) fun l_first21 v22 B23 H24 _ hm g25 h26 => ?_
      replace G := G.then g25
      replace eb19 := eb19.trans g25.b
      replace ee20 := ee20.trans g25.b
      replace hu0 := Rp.mono g25.b hu0
      replace h6 := Rp.mono g25.b h6
      replace hv14 := Rp.mono g25.b hv14
      refine gnx ?_
      refine sq ?_
      refine st_asg (K := K) hm G.e (cp_op r2_mod (cp_int1 (cp_op r2_add (cp_call (ca_cons (cp_var rfl hu0) (ca_cons (cp_op r2_add (cp_op r2_mul cp_int (cp_var rfl hv14)) cp_int) ca_nil))) (cp_op r2_mul cp_int (cp_var rfl hv14)))) (cp_var rfl h6)) (by first | rfl | simp only [o2, Option.bind_assoc, Option.bind_some]) fun l_second27 v28 B29 H30 _ hm g31 h32 => ?_
      replace G := G.then g31
      replace eb19 := eb19.trans g31.b
      replace ee20 := ee20.trans g31.b
      replace hu0 := Rp.mono g31.b hu0
      replace h6 := Rp.mono g31.b h6
      replace hv14 := Rp.mono g31.b hv14
      replace h26 := Rp.mono g31.b h26
      refine gnx ?_
      refine sq ?_
      refine st_asg (K := K) hm G.e (cp_op r2_mod (cp_int1 (cp_op r2_mul (cp_call (ca_cons (cp_var rfl h26) (ca_cons (cp_op r2_mod (cp_int1 (cp_op r2_add (cp_var rfl h32) cp_int)) (cp_var rfl h6)) ca_nil))) cp_int)) (cp_var rfl h6)) (by first | rfl | simp only [o2, Option.bind_assoc, Option.bind_some]) fun l_mixed33 v34 B35 H36 _ hm g37 h38 => ?_
      replace G := G.then g37
      replace eb19 := eb19.trans g37.b
      replace ee20 := ee20.trans g37.b
      replace hu0 := Rp.mono g37.b hu0
      replace h6 := Rp.mono g37.b h6
      replace hv14 := Rp.mono g37.b hv14
      replace h26 := Rp.mono g37.b h26
      replace h32 := Rp.mono g37.b h32
      refine gnx ?_
      refine st_if hm G.e (ct_not (ct_B (cp_call (ca_cons (cp_call (ca_cons (cp_var rfl h26) (ca_cons (cp_var rfl h32) ca_nil))) (ca_cons (cp_op r2_mod (cp_int1 (cp_op r2_mul (cp_call (ca_cons (cp_var rfl h38) (ca_cons (cp_op r2_div (cp_var rfl h38) (cp_op r2_pow cp_int cp_int)) ca_nil))) cp_int)) (cp_var rfl h6)) ca_nil))))) (by first | rfl | simp only [o2, Option.bind_assoc, Option.bind_some]) (fun B39 H40 hc42 hm g41 => ?_) (fun B39 H40 hc42 hm g41 => ?_)
      · replace G := G.then g41
        replace eb19 := eb19.trans g41.b
        replace ee20 := ee20.trans g41.b
        replace hu0 := Rp.mono g41.b hu0
        replace h6 := Rp.mono g41.b h6
        replace hv14 := Rp.mono g41.b hv14
        replace h26 := Rp.mono g41.b h26
        replace h32 := Rp.mono g41.b h32
        replace h38 := Rp.mono g41.b h38
        refine st_retF (K := K) (m' := (some false)) hm G.e cp_bl rfl fun x v B1 H1 hm g hv => ?_
        cases hm
        have hm := ht18 _ rfl
        cases hm
        exact hQ _ _ _ (G.then g) hv
      · replace G := G.then g41
        replace eb19 := eb19.trans g41.b
        replace ee20 := ee20.trans g41.b
        replace hu0 := Rp.mono g41.b hu0
        replace h6 := Rp.mono g41.b h6
        replace hv14 := Rp.mono g41.b hv14
        replace h26 := Rp.mono g41.b h26
        replace h32 := Rp.mono g41.b h32
        replace h38 := Rp.mono g41.b h38
        refine nxt ?_
        cases hm
        exact hn16 _ _ _ _ rfl ⟨G, eb19, ee20, _, _, _, _, rfl⟩
    · rintro Be s43 B44 σ H45 hm ⟨G, eb46, _, _, _, _, _, rfl⟩
      replace hu0 := Rp.mono eb46 hu0
      replace h6 := Rp.mono eb46 h6
      refine gnx ?_
      refine st_ret (K := K) hm G.e cp_bl rfl fun v B1 H1 g hv => ?_
      exact hQ v B1 H1 (G.then g) hv
end
end Cw

set_option linter.all false
set_option maxRecDepth 100000
namespace Cw
open PySem L2 Cf
theorem either_b1 (k : Int) (t a b w : Nat) : m_l_either_b1 k (t : Int) (a : Int) (b : Int) (w : Int) = some (((t + w * ((a ^^^ b) % 2) : Nat) : Int), ((a / 2 : Nat) : Int), ((b / 2 : Nat) : Int), ((w * 2 : Nat) : Int)) := by
  unfold m_l_either_b1
  have e1 : pmod (a : Int) 2 = some (((a % 2 : Nat)) : Int) := by rw [pmod_some (by decide)]; rfl
  have e2 : pmod (b : Int) 2 = some (((b % 2 : Nat)) : Int) := by rw [pmod_some (by decide)]; rfl
  have e3 : pdiv (a : Int) 2 = some (((a / 2 : Nat)) : Int) := by rw [pdiv_some (by decide) (by decide)]; rfl
  have e4 : pdiv (b : Int) 2 = some (((b / 2 : Nat)) : Int) := by rw [pdiv_some (by decide) (by decide)]; rfl
  have e5 : pmul (w : Int) 2 = some (((w * 2 : Nat)) : Int) := by rw [pmul_r (by decide) (by decide)]; rfl
  rw [e1, e2, e3, e4, e5]
  have o1 := @Nat.xor_mod_two_eq_one a b
  have ha : a % 2 < 2 := Nat.mod_lt _ (by decide)
  have hb : b % 2 < 2 := Nat.mod_lt _ (by decide)
  have hx : (a ^^^ b) % 2 < 2 := Nat.mod_lt _ (by decide)
  by_cases h : a % 2 = b % 2
  · have hz : (a ^^^ b) % 2 = 0 := by omega
    have hd : (!decide (((a % 2 : Nat) : Int) = ((b % 2 : Nat) : Int))) = false := by simp; omega
    simp only [o2, Option.bind_some, hd, hz]
    rfl
  · have hz : (a ^^^ b) % 2 = 1 := by omega
    have hd : (!decide (((a % 2 : Nat) : Int) = ((b % 2 : Nat) : Int))) = true := by simp; omega
    simp only [o2, Option.bind_some, hd, hz, if_true, Nat.mul_one, Int.natCast_add]
theorem either_run : ∀ (ks : List Int) (t a b w : Nat), ∃ c d e : Int, forN (fun x (s : Int × Int × Int × Int) => m_l_either_b1 x s.1 s.2.1 s.2.2.1 s.2.2.2) ks ((t : Int), (a : Int), (b : Int), (w : Int)) = some (((t + w * ((a ^^^ b) % 2 ^ ks.length) : Nat) : Int), c, d, e)
  | [], t, a, b, w => ⟨_, _, _, by
    show some _ = some _
    rw [show (a ^^^ b) % 2 ^ ([] : List Int).length = 0 from Nat.mod_one _, Nat.mul_zero, Nat.add_zero]⟩
  | k :: ks, t, a, b, w => by
    obtain ⟨c, d, e, h⟩ := either_run ks (t + w * ((a ^^^ b) % 2)) (a / 2) (b / 2) (w * 2)
    refine ⟨c, d, e, ?_⟩
    rw [forN_cons, either_b1]
    show forN _ ks _ = _
    rw [h]
    have : (a ^^^ b) % 2 ^ (k :: ks).length = (a ^^^ b) % 2 + 2 * ((a / 2 ^^^ b / 2) % 2 ^ ks.length) := by
      rw [List.length_cons, Nat.pow_succ, Nat.mul_comm, Nat.mod_mul, Nat.xor_div_two]
    rw [this, Nat.mul_add, Nat.mul_assoc, Nat.add_assoc]
theorem either_eq {x y : Int} (hx : 0 ≤ x ∧ x < 4294967296) (hy : 0 ≤ y ∧ y < 4294967296) : m_l_either x y = some (Builtin.bitXor x y) := by
  obtain ⟨c, d, e, h⟩ := either_run (rangeL 0 40) 0 x.toNat y.toNat 1
  have ex : ((x.toNat : Nat) : Int) = x := Int.toNat_of_nonneg hx.1
  have ey : ((y.toNat : Nat) : Int) = y := Int.toNat_of_nonneg hy.1
  rw [ex, ey] at h
  unfold m_l_either
  show Option.bind (forN _ (rangeL 0 40) (((0 : Nat) : Int), x, y, ((1 : Nat) : Int))) _ = _
  rw [h]
  show some _ = some _
  rw [Bits.bitXor_pp hx.1 hy.1]
  dsimp only
  rw [Nat.zero_add, Nat.one_mul]
  have hl : (rangeL 0 40).length = 40 := rfl
  have hb : x.toNat ^^^ y.toNat < 2 ^ 40 := Nat.xor_lt_two_pow (by omega) (by omega)
  rw [hl, Nat.mod_eq_of_lt hb]
theorem cell_some (ns : List Int) {k : Int} (hk : 0 ≤ k) : ∃ z, m_l_cell ns k = some z := by
  unfold m_l_cell
  show ∃ z, (if decide (k < (ns.length : Int)) = true then at? ns k else some 0) = some z
  by_cases h : k < (ns.length : Int)
  · rw [if_pos (decide_eq_true h), at_nat hk]
    exact ⟨ns[k.toNat]'(by omega), List.getElem?_eq_getElem (by omega)⟩
  · rw [if_neg (by simpa using h)]
    exact ⟨0, rfl⟩
theorem log_small {i : Int} (h0 : 0 ≤ i) (h : i < 4294967296) : i.natAbs.log2 < 1920 := by
  by_cases h1 : i.natAbs = 0
  · rw [h1]
    decide
  · have := (Nat.log2_lt h1 (k := 32)).mpr (by omega)
    omega
theorem same_true {i : Int} (h0 : 0 ≤ i) (h : i < 4294967296) : m_l_same i i = some true := by
  unfold m_l_same preprI
  rw [if_pos (log_small h0 h)]
  simp only [o2, Option.bind_some, decide_true]
theorem law_b1 (ns : List Int) {k : Int} (h0 : 0 ≤ k) (h6 : k < 6) : m_law_b1 ns 4294967296 k = some (.nx ()) := by
  have m (i : Int) : 0 ≤ i % 4294967296 ∧ i % 4294967296 < 4294967296 := ⟨Int.emod_nonneg _ (by decide), Int.emod_lt_of_pos _ (by decide)⟩
  have pm (i : Int) : pmod i 4294967296 = some (i % 4294967296) := pmod_some (by decide)
  have k2 : pmul 2 k = some (2 * k) := pmul_l (by decide) (by decide)
  have k3 : pmul 3 k = some (3 * k) := pmul_l (by decide) (by decide)
  have k5 : pmul k 5 = some (k * 5) := pmul_r (by decide) (by decide)
  have kk : pmul k k = some (k * k) := pmul_l (by omega) (by omega)
  obtain ⟨c1, e1⟩ := cell_some ns (k := 2 * k) (by omega)
  obtain ⟨c2, e2⟩ := cell_some ns (k := 2 * k + 1) (by omega)
  have hk2 : k * k ≤ 25 := by
    have : k * k ≤ 5 * 5 := Int.mul_le_mul (by omega) (by omega) h0 (by decide)
    omega
  have hk0 : 0 ≤ k * k := Int.mul_nonneg h0 h0
  have kc : pmul c1 (k * k + 1) = some (c1 * (k * k + 1)) := pmul_r (by omega) (by omega)
  have mc (i : Int) : pmul i 2246822507 = some (i * 2246822507) := pmul_r (by decide) (by decide)
  have md (i : Int) : pmul i 3266489909 = some (i * 3266489909) := pmul_r (by decide) (by decide)
  have pw : ppow 2 15 = some 32768 := rfl
  have dv (i : Int) : pdiv i 32768 = some (i / 32768) := pdiv_some (by decide) (by decide)
  have sh (i : Int) : pshr i 15 = some (i / 32768) := pshr_some (by decide)
  have ei (i j : Int) : m_l_either (i % 4294967296) (j % 4294967296) = some (Builtin.bitXor (i % 4294967296) (j % 4294967296)) := either_eq (m i) (m j)
  have ej (i : Int) : m_l_either (i % 4294967296) (i % 4294967296 / 32768) = some (Builtin.bitXor (i % 4294967296) (i % 4294967296 / 32768)) := either_eq (m i) (by have := m i; omega)
  have sm (i : Int) : m_l_same (i % 4294967296) (i % 4294967296) = some true := same_true (m i).1 (m i).2
  unfold m_law_b1 m_mix
  simp only [o2, Option.bind_some, pm, k2, k3, k5, kk, e1, e2, kc, mc, md, pw, dv, sh, ei, ej, sm, Bool.not_true]
  rfl
theorem law_true (ns : List Int) : m_law ns = some true := by
  obtain ⟨s, e, _⟩ := forF_all (R := Bool) (b := fun x (s : Unit) => m_law_b1 ns 4294967296 x) (fun _ => True) (rangeL 0 6) () trivial (fun x hx s _ => ⟨(), law_b1 ns (mem_rangeL.mp hx).1 (mem_rangeL.mp hx).2, trivial⟩)
  unfold m_law
  show Option.bind (forF (fun x (s : Unit) => m_law_b1 ns 4294967296 x) (rangeL 0 6) ()) _ = _
  rw [e]
  rfl
end Cw

set_option Elab.async false
set_option linter.all false
set_option maxRecDepth 100000
set_option maxHeartbeats 4000000
namespace Cw
open PySem L2 Cf
open PySem.Spec PyProof.Rows
theorem ints_pr {K : Fg} {B : Hp} : ∀ ns : List Int, Paired (Rp.rp K B) (ns.map V.int) ns
  | [] => .nil
  | _ :: ns => .cons rfl (ints_pr ns)
def d_mix : He.DefD := ⟨("mix", none), "mix", "mix", defArgs s_mix, defBody s_mix, defScope s_mix, [], []⟩
def d_l_cell : He.DefD := ⟨("_law_cell", none), "_law_cell", "_law_cell", defArgs s_l_cell, defBody s_l_cell, defScope s_l_cell, [], []⟩
def d_l_same : He.DefD := ⟨("_law_same", none), "_law_same", "_law_same", defArgs s_l_same, defBody s_l_same, defScope s_l_same, [], []⟩
def d_l_either : He.DefD := ⟨("_law_either", none), "_law_either", "_law_either", defArgs s_l_either, defBody s_l_either, defScope s_l_either, [], []⟩
def d_law : He.DefD := ⟨("law", none), "law", "law", defArgs s_law, defBody s_law, defScope s_law, [], []⟩
def fnL : List He.DefD := [d_mix, d_l_cell, d_l_same, d_l_either, d_law]
def faL : List He.Fa := [.free "int", .free "len", .free "range", .free "repr", .int "WORD" 4294967296, .glo "mix", .glo "_law_cell", .glo "_law_same", .glo "_law_either", .glo "law"]
def loose : List PySem.Str := (["WORD", "mix", "_law_cell", "_law_same", "_law_either"] : List PySem.Str)
abbrev R : PySem.W.OpenRow := PySem.W.OpenLaw.row PySem.Challenge.rw_clearfloor_k66_words_are_mixed
abbrev hk : PySem.W.Hook := He.hookD 4 faL fnL
def ob (s : PySem.W.SharedT) : He.AlD := He.obsDG 4 faL fnL (HandSHeadRun.getT s)
theorem ob_eq (s : PySem.W.SharedT) : ob s = hk.obs s.abs := He.obsDG_eq (HandSHeadRun.getT_eq s)
set_option maxHeartbeats 0 in
theorem run (w : World) : HandSHeadRun.RunEq R (PySem.W.view R.prog [7]) hk ob 4000 loose w := by
  intro os
  kernel_rfl
theorem facts {P : Program} {w : World} {K : PySem.W.Frag} {h : Heap} {mg : Str → Option Value} {f : Addr} (X : K.In h) (G : h.Ns mainGlobals mg) (hfa : mg ("law" : Str) = some (.ref f)) (c : He.SaysD faL fnL K) :
    ∃ fd : FuncData, (∀ (s : Shared) (v : Value), BindsTo s fd ⟨[v], []⟩ [("_law_script", v)]) ∧ ∀ base : Heap, K.In base → base.Ns mainGlobals mg → FnOk P w K mg base CX0 2 f fd ["_law_script"] (sp_law K) := by
  have T : Tx K mg := ⟨He.free_ok X G (c.fact 0 rfl), He.free_ok X G (c.fact 1 rfl), He.free_ok X G (c.fact 2 rfl), He.free_ok X G (c.fact 3 rfl), He.int_ok X G (c.fact 4 rfl)⟩
  obtain ⟨fd0, F0⟩ := c.def_ 0 (d := d_mix) rfl
  obtain ⟨fd1, F1⟩ := c.def_ 1 (d := d_l_cell) rfl
  obtain ⟨fd2, F2⟩ := c.def_ 2 (d := d_l_same) rfl
  obtain ⟨fd3, F3⟩ := c.def_ 3 (d := d_l_either) rfl
  obtain ⟨fd4, F4⟩ := c.def_ 4 (d := d_law) rfl
  have e := hfa.symm.trans (He.glo_ok X G (c.fact 9 rfl))
  cases e
  refine ⟨fd4, fun s v => FunD.bindsA (ps := ["_law_script"]) F4 (fun _ _ _ _ _ _ us hl => match us, hl with | [_], _ => rfl) s [v] rfl, fun base _ _ => ?_⟩
  have c_mix : Fc P w K mg base 1 "mix" ["first", "second"] (sp_mix K) := fc_of F0 (ok_mix F0 T ) (He.glo_ok X G (c.fact 5 rfl)) (fun _ _ _ _ _ _ us hl => match us, hl with | [_, _], _ => rfl)
  have c_l_cell : Fc P w K mg base 1 "_law_cell" ["_law_script", "_law_k"] (sp_l_cell K) := fc_of F1 (ok_l_cell F1 T ) (He.glo_ok X G (c.fact 6 rfl)) (fun _ _ _ _ _ _ us hl => match us, hl with | [_, _], _ => rfl)
  have c_l_same : Fc P w K mg base 1 "_law_same" ["_law_one", "_law_other"] (sp_l_same K) := fc_of F2 (ok_l_same F2 T ) (He.glo_ok X G (c.fact 7 rfl)) (fun _ _ _ _ _ _ us hl => match us, hl with | [_, _], _ => rfl)
  have c_l_either : Fc P w K mg base 1 "_law_either" ["_law_one", "_law_other"] (sp_l_either K) := fc_of F3 (ok_l_either F3 T ) (He.glo_ok X G (c.fact 8 rfl)) (fun _ _ _ _ _ _ us hl => match us, hl with | [_, _], _ => rfl)
  exact ok_law F4 T c_l_cell c_l_either c_l_same c_mix
end Cw
open PySem PySem.W PySem.Calls PyProof.Rows
theorem PySem.Challenge.cw_clearfloor_k66_words_are_mixed_holds : PySem.Challenge.rw_clearfloor_k66_words_are_mixed.Holds := by
  w_on; o_law
  refine HandSHeadRun.head_any (r := OpenLaw.row PySem.Challenge.rw_clearfloor_k66_words_are_mixed) (q := view (OpenLaw.row PySem.Challenge.rw_clearfloor_k66_words_are_mixed).prog [7]) (H := Cw.hk) (ob := Cw.ob) (M := 4000) (loose := Cw.loose) (d := HandSHeadRun.topDef (OpenLaw.row PySem.Challenge.rw_clearfloor_k66_words_are_mixed).prog 7) (kwd := []) Cw.ob_eq
    (by kernel_rfl) (fun s => by kernel_rfl) Cw.run (by kernel_rfl) (by kernel_rfl) (by kernel_rfl) (by rfl) (by first | assumption | decide +kernel) (by decide +kernel) ⟨rfl, rfl, rfl, rfl, rfl, by decide +kernel⟩ ?hw ?hc
  case hw => w_witness2
  case hc =>
    refine L2.walk_ofE (l := PySem.Challenge.rw_clearfloor_k66_words_are_mixed) (n := 63) (k := 2) (x := "_law_script") (CX := L2.CX0) rfl (by decide) (by kernel_rfl) ⟨rfl, by decide, by decide⟩ ?F (fun _ _ _ _ z => z)
    intro w mg fa h Y G hmg0
    obtain ⟨K, KX, c⟩ := Y
    have hmg : mg ("law" : PySem.Str) = some (.ref fa) := by
      have e : (HandSHeadRun.topDef (OpenLaw.row PySem.Challenge.rw_clearfloor_k66_words_are_mixed).prog 7).name = ("law" : PySem.Str) := by kernel_rfl
      rw [← e]
      exact hmg0
    obtain ⟨fd, hb, hF⟩ := Cw.facts (P := (PySem.Challenge.rw_clearfloor_k66_words_are_mixed).prog) (w := w) KX G hmg c
    exact ⟨K, fd, Cw.sp_law K, KX, hb, fun H a ns hl _ hS => ⟨H, (ns, ()), true, Cf.Ex.refl H, ⟨_, _, rfl, ⟨a, _, rfl, hS, Cw.ints_pr ns⟩, rfl⟩, Cw.law_true ns, fun v _ _ _ hv => hv⟩, hF⟩
