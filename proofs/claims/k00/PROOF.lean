import PyProof.Rows.All
import Wide.All
import OpenK.AllK
import Wide.FinOn
import HandS.ForMost
import HandS.Evl
import HandS.Deep
import HandS.TupAny
import HandS.IsInst
import KE.LtData
import KE.DataCmp
import HandS.Flow
import KE.GoesEnum
import HandS.Defaults
import HandS.Head0
import HandS.Head1
import HandS.Head2
import HandS.HeadEnd
import HandS.HeadHook1
import HandS.HeadHook2
import HandS.HeadHook3
import HandS.EndBits
import HandS.Codes
import HandS.Conv
import HandS.Words
import KE.KStateDown
import KE.DataMinMax
import KE.SortData
import HandS.Text
import KE.DataEq
import PySem.Challenge.RW_stratakv_k00_intervals
set_option Elab.async false
section
set_option linter.all false
set_option maxRecDepth 100000
namespace Fw
open PySem PySem.Spec PyProof.Rows L2

/-! ### plain data: what a value stands for; o: the list (dict) is one's own and may still be changed -/
inductive D where
  | non | bl (b : Bool) | int (i : Int) | str (s : Str)
  | tup (xs : List D) | lst (o : Bool) (xs : List D) | dic (o : Bool) (ks vs : List D)

structure Exn where
  cls : Str
  args : List D

inductive R (A : Type) where
  | ok (a : A) | ex (e : Exn) | no

def R.bind {A B : Type} : R A → (A → R B) → R B
  | .ok a, f => f a
  | .ex e, _ => .ex e
  | .no, _ => .no
def R.wp {A : Type} : R A → (A → Prop) → (Exn → Prop) → Prop
  | .ok a, P, _ => P a
  | .ex e, _, X => X e
  | .no, _, _ => False
theorem R.wp_bind {A B : Type} {x : R A} {f : A → R B} {P : B → Prop} {X : Exn → Prop} (h : (x.bind f).wp P X) : x.wp (fun a => (f a).wp P X) X := by
  cases x <;> exact h
theorem R.wp_mono {A : Type} {x : R A} {P P' : A → Prop} {X X' : Exn → Prop} (h : x.wp P X) (hp : ∀ a, P a → P' a) (hx : ∀ e, X e → X' e) : x.wp P' X' := by
  cases x with
  | ok a => exact hp a h
  | ex e => exact hx e h
  | no => exact h

/-! ### footprints: how often an address is owned -/
abbrev Fp := Addr → Nat
def fz : Fp := fun _ => 0
def fAt (o : Bool) (a : Addr) (g : Fp) : Fp := fun b => g b + if o = true ∧ b = a then 1 else 0
def fAdd (f g : Fp) : Fp := fun b => f b + g b

def keyD : Key → D
  | .inl i => .int i
  | .inr s => .str s
/-- what stands at a dict's place, its keys and values -/
def DicO (u : HO) (ks : List D) (vs : List V) : Prop :=
  (∃ kv : List (Key × V), u = .dK kv ∧ ks = kv.map (fun p => keyD p.1) ∧ vs = kv.map (·.2)) ∨
  (∃ kv : List (List Key × V), u = .dT kv ∧ ks = kv.map (fun p => .tup (p.1.map keyD)) ∧ vs = kv.map (·.2))

mutual
/-- v stands for d: G what is frozen, H the heap, the last its own addresses -/
def Ro (K : PySem.W.Frag) (G H : Hp) : D → V → Fp → Prop
  | .non, v, f => v = .non ∧ f = fz
  | .bl x, v, f => v = .bl x ∧ f = fz
  | .int i, v, f => v = .int i ∧ f = fz
  | .str s, v, f => v = .str s ∧ f = fz
  | .tup xs, v, f => ∃ a vs, v = .ref a ∧ SqT K G a vs ∧ Ros K G H xs vs f
  | .lst o xs, v, f => ∃ a vs g, v = .ref a ∧ (if o = true then H a = some (.lst vs) ∧ G a = none else SqL K G a vs) ∧ Ros K G H xs vs g ∧ f = fAt o a g
  | .dic o ks ds, v, f => ∃ a u vs g, v = .ref a ∧ (if o = true then H a = some u ∧ G a = none else Rd G a u) ∧ DicO u ks vs ∧ Ros K G H ds vs g ∧ f = fAt o a g
def Ros (K : PySem.W.Frag) (G H : Hp) : List D → List V → Fp → Prop
  | [], vs, f => vs = [] ∧ f = fz
  | x :: xs, vs, f => ∃ v ws g h, vs = v :: ws ∧ Ro K G H x v g ∧ Ros K G H xs ws h ∧ f = fAdd g h
end

mutual
def D.frz : D → Bool
  | .tup xs => frzs xs
  | .lst o xs => !o && frzs xs
  | .dic o _ xs => !o && frzs xs
  | _ => true
def frzs : List D → Bool
  | [] => true
  | x :: xs => x.frz && frzs xs
end
mutual
/-- given out of hand: nothing within is one's own any more -/
def D.fr : D → D
  | .tup xs => .tup (frs xs)
  | .lst _ xs => .lst false (frs xs)
  | .dic _ ks xs => .dic false ks (frs xs)
  | x => x
def frs : List D → List D
  | [] => []
  | x :: xs => x.fr :: frs xs
end

theorem same_t {K : PySem.W.Frag} {G G' : Hp} {a : Addr} {xs : List V} (e : Same G G') (h : SqT K G a xs) : SqT K G' a xs := by
  rcases h with (h | ⟨o, h⟩) | h
  · exact .inl (.inl (e _ _ h))
  · exact .inl (.inr ⟨o, e _ _ h⟩)
  · exact .inr h
theorem same_rd {G G' : Hp} {a : Addr} {u : HO} (e : Same G G') (h : Rd G a u) : Rd G' a u := by
  rcases h with h | ⟨o, h⟩
  · exact .inl (e _ _ h)
  · exact .inr ⟨o, e _ _ h⟩

section
variable {K : PySem.W.Frag} {G G' H H' : Hp}
theorem fAt_le {o : Bool} {a b : Addr} {g : Fp} (h : g b ≠ 0) : fAt o a g b ≠ 0 := by
  unfold fAt
  omega
mutual
theorem Ro.mono (e : Same G G') : ∀ (d : D) (v : V) (f : Fp), (∀ b, f b ≠ 0 → H' b = H b ∧ G' b = G b) → Ro K G H d v f → Ro K G' H' d v f
  | .non, _, _, _, h => h
  | .bl _, _, _, _, h => h
  | .int _, _, _, _, h => h
  | .str _, _, _, _, h => h
  | .tup xs, v, f, k, ⟨a, vs, e1, e2, e3⟩ => ⟨a, vs, e1, same_t e e2, Ros.mono e xs vs f k e3⟩
  | .lst o xs, v, f, k, ⟨a, vs, g, e1, e2, e3, e4⟩ => by
    subst e4
    refine ⟨a, vs, g, e1, ?_, Ros.mono e xs vs g (fun b h => k b (fAt_le h)) e3, rfl⟩
    cases o with
    | true =>
      have q := k a (by simp [fAt])
      rw [if_pos rfl] at e2 ⊢
      exact ⟨q.1.trans e2.1, q.2.trans e2.2⟩
    | false =>
      rw [if_neg Bool.false_ne_true] at e2 ⊢
      exact e.seq e2
  | .dic o ks xs, v, f, k, ⟨a, u, vs, g, e1, e2, e5, e3, e4⟩ => by
    subst e4
    refine ⟨a, u, vs, g, e1, ?_, e5, Ros.mono e xs vs g (fun b h => k b (fAt_le h)) e3, rfl⟩
    cases o with
    | true =>
      have q := k a (by simp [fAt])
      rw [if_pos rfl] at e2 ⊢
      exact ⟨q.1.trans e2.1, q.2.trans e2.2⟩
    | false =>
      rw [if_neg Bool.false_ne_true] at e2 ⊢
      exact same_rd e e2
theorem Ros.mono (e : Same G G') : ∀ (ds : List D) (vs : List V) (f : Fp), (∀ b, f b ≠ 0 → H' b = H b ∧ G' b = G b) → Ros K G H ds vs f → Ros K G' H' ds vs f
  | [], _, _, _, h => h
  | x :: xs, vs, f, k, ⟨v, ws, g, h, e1, e2, e3, e4⟩ => by
    subst e4
    exact ⟨v, ws, g, h, e1, Ro.mono e x v g (fun b hb => k b (by show g b + h b ≠ 0; omega)) e2, Ros.mono e xs ws h (fun b hb => k b (by show g b + h b ≠ 0; omega)) e3, rfl⟩
end
mutual
/-- what is one's own stands in the heap, not among the frozen -/
theorem Ro.own : ∀ (d : D) (v : V) (f : Fp), Ro K G H d v f → ∀ b, f b ≠ 0 → G b = none ∧ ∃ o, H b = some o ∧ Mut (some o)
  | .non, _, _, ⟨_, e⟩, b, h => absurd (by rw [e]; rfl) h
  | .bl _, _, _, ⟨_, e⟩, b, h => absurd (by rw [e]; rfl) h
  | .int _, _, _, ⟨_, e⟩, b, h => absurd (by rw [e]; rfl) h
  | .str _, _, _, ⟨_, e⟩, b, h => absurd (by rw [e]; rfl) h
  | .tup xs, v, f, ⟨a, vs, e1, e2, e3⟩, b, h => Ros.own xs vs f e3 b h
  | .lst o xs, v, f, ⟨a, vs, g, e1, e2, e3, e4⟩, b, h => by
    subst e4
    by_cases c : o = true ∧ b = a
    · obtain ⟨rfl, rfl⟩ := c
      rw [if_pos rfl] at e2
      exact ⟨e2.2, _, e2.1, trivial⟩
    · refine Ros.own xs vs g e3 b ?_
      unfold fAt at h
      rw [if_neg c] at h
      exact h
  | .dic o ks xs, v, f, ⟨a, u, vs, g, e1, e2, e5, e3, e4⟩, b, h => by
    subst e4
    by_cases c : o = true ∧ b = a
    · obtain ⟨rfl, rfl⟩ := c
      rw [if_pos rfl] at e2
      refine ⟨e2.2, _, e2.1, ?_⟩
      rcases e5 with ⟨kv, rfl, _⟩ | ⟨kv, rfl, _⟩ <;> trivial
    · refine Ros.own xs vs g e3 b ?_
      unfold fAt at h
      rw [if_neg c] at h
      exact h
theorem Ros.own : ∀ (ds : List D) (vs : List V) (f : Fp), Ros K G H ds vs f → ∀ b, f b ≠ 0 → G b = none ∧ ∃ o, H b = some o ∧ Mut (some o)
  | [], _, _, ⟨_, e⟩, b, h => absurd (by rw [e]; rfl) h
  | x :: xs, vs, f, ⟨v, ws, g, h, e1, e2, e3, e4⟩, b, hb => by
    subst e4
    by_cases c : g b = 0
    · exact Ros.own xs ws h e3 b (by have : g b + h b ≠ 0 := hb; omega)
    · exact Ro.own x v g e2 b c
end
mutual
theorem Ro.frz0 : ∀ (d : D) (v : V) (f : Fp), d.frz = true → Ro K G H d v f → f = fz
  | .non, _, _, _, ⟨_, e⟩ => e
  | .bl _, _, _, _, ⟨_, e⟩ => e
  | .int _, _, _, _, ⟨_, e⟩ => e
  | .str _, _, _, _, ⟨_, e⟩ => e
  | .tup xs, v, f, z, ⟨a, vs, e1, e2, e3⟩ => Ros.frz0 xs vs f (by rw [D.frz] at z; exact z) e3
  | .lst o xs, v, f, z, ⟨a, vs, g, e1, e2, e3, e4⟩ => by
    rw [D.frz] at z
    cases o with
    | true => cases z
    | false =>
      have q := Ros.frz0 xs vs g (by simpa using z) e3
      subst q e4
      funext b
      simp [fAt, fz]
  | .dic o ks xs, v, f, z, ⟨a, u, vs, g, e1, e2, e5, e3, e4⟩ => by
    rw [D.frz] at z
    cases o with
    | true => cases z
    | false =>
      have q := Ros.frz0 xs vs g (by simpa using z) e3
      subst q e4
      funext b
      simp [fAt, fz]
theorem Ros.frz0 : ∀ (ds : List D) (vs : List V) (f : Fp), frzs ds = true → Ros K G H ds vs f → f = fz
  | [], _, _, _, ⟨_, e⟩ => e
  | x :: xs, vs, f, z, ⟨v, ws, g, h, e1, e2, e3, e4⟩ => by
    rw [frzs, Bool.and_eq_true] at z
    have q1 := Ro.frz0 x v g z.1 e2
    have q2 := Ros.frz0 xs ws h z.2 e3
    subst q1 q2 e4
    rfl
end
mutual
/-- giving out of hand: what is one's own is frozen as it stands -/
theorem Ro.freeze (S : Same G H) (e : Same G G') : ∀ (d : D) (v : V) (f : Fp), (∀ b, f b ≠ 0 → G' b = H b) → Ro K G H d v f → Ro K G' H' d.fr v fz
  | .non, _, _, _, ⟨h, _⟩ => ⟨h, rfl⟩
  | .bl _, _, _, _, ⟨h, _⟩ => ⟨h, rfl⟩
  | .int _, _, _, _, ⟨h, _⟩ => ⟨h, rfl⟩
  | .str _, _, _, _, ⟨h, _⟩ => ⟨h, rfl⟩
  | .tup xs, v, f, k, ⟨a, vs, e1, e2, e3⟩ => ⟨a, vs, e1, same_t e e2, Ros.freeze S e xs vs f k e3⟩
  | .lst o xs, v, f, k, ⟨a, vs, g, e1, e2, e3, e4⟩ => by
    subst e4
    refine ⟨a, vs, fz, e1, ?_, Ros.freeze S e xs vs g (fun b h => k b (fAt_le h)) e3, by funext b; simp [fAt, fz]⟩
    rw [if_neg Bool.false_ne_true]
    cases o with
    | true =>
      rw [if_pos rfl] at e2
      exact SqL.of ((k a (by simp [fAt])).trans e2.1)
    | false =>
      rw [if_neg Bool.false_ne_true] at e2
      exact e.seq e2
  | .dic o ks xs, v, f, k, ⟨a, u, vs, g, e1, e2, e5, e3, e4⟩ => by
    subst e4
    refine ⟨a, u, vs, fz, e1, ?_, e5, Ros.freeze S e xs vs g (fun b h => k b (fAt_le h)) e3, by funext b; simp [fAt, fz]⟩
    rw [if_neg Bool.false_ne_true]
    cases o with
    | true =>
      rw [if_pos rfl] at e2
      exact .inl ((k a (by simp [fAt])).trans e2.1)
    | false =>
      rw [if_neg Bool.false_ne_true] at e2
      exact same_rd e e2
theorem Ros.freeze (S : Same G H) (e : Same G G') : ∀ (ds : List D) (vs : List V) (f : Fp), (∀ b, f b ≠ 0 → G' b = H b) → Ros K G H ds vs f → Ros K G' H' (frs ds) vs fz
  | [], _, _, _, ⟨h, _⟩ => ⟨h, rfl⟩
  | x :: xs, vs, f, k, ⟨v, ws, g, h, e1, e2, e3, e4⟩ => by
    subst e4
    exact ⟨v, ws, fz, fz, e1, Ro.freeze S e x v g (fun b hb => k b (by show g b + h b ≠ 0; omega)) e2, Ros.freeze S e xs ws h (fun b hb => k b (by show g b + h b ≠ 0; omega)) e3, rfl⟩
end
end

/-! ### the frozen, given out -/
def giv (f : Fp) (G H : Hp) : Hp := fun b => if f b = 0 then G b else H b
theorem giv_same {f : Fp} {G H : Hp} (k : ∀ b, f b ≠ 0 → G b = none) : Same G (giv f G H) := fun b o h => by
  unfold giv
  by_cases c : f b = 0
  · rw [if_pos c]; exact h
  · rw [k b c] at h; cases h
theorem giv_sub {f : Fp} {G H : Hp} (S : Same G H) : Same (giv f G H) H := fun b o h => by
  unfold giv at h
  by_cases c : f b = 0
  · rw [if_pos c] at h; exact S b o h
  · rw [if_neg c] at h; exact h

/-! ### a step -/
structure Stp (G H : Hp) (f : Fp) (G' H' : Hp) (f' : Fp) : Prop where
  gg : Same G G'
  sub : Same G' H'
  keep : ∀ b o, H b = some o → f b = 0 → H' b = some o ∧ G' b = G b
  new : ∀ b, f' b ≠ 0 → f b ≠ 0 ∨ H b = none
  fre : ∀ b, H' b = none → H b = none
section
variable {G H G1 H1 G2 H2 G' H' : Hp} {f f1 f2 f' : Fp}
theorem Stp.refl (S : Same G H) : Stp G H f G H f := ⟨Same.refl G, S, fun b o h _ => ⟨h, rfl⟩, fun b h => .inl h, fun b h => h⟩
theorem Stp.trans (a : Stp G H f G1 H1 f1) (b : Stp G1 H1 f1 G2 H2 f2) : Stp G H f G2 H2 f2 where
  gg := a.gg.trans b.gg
  sub := b.sub
  keep := fun c o h z => by
    obtain ⟨h1, g1⟩ := a.keep c o h z
    have z1 : f1 c = 0 := by
      by_cases q : f1 c = 0
      · exact q
      · rcases a.new c q with w | w
        · exact absurd z w
        · rw [h] at w; cases w
    obtain ⟨h2, g2⟩ := b.keep c o h1 z1
    exact ⟨h2, g2.trans g1⟩
  new := fun c h => by
    rcases b.new c h with w | w
    · exact a.new c w
    · exact .inr (a.fre c w)
  fre := fun c h => a.fre c (b.fre c h)
theorem Stp.weak (a : Stp G H f G' H' f1) (h : ∀ b, f2 b ≠ 0 → f1 b ≠ 0) : Stp G H f G' H' f2 := ⟨a.gg, a.sub, a.keep, fun b z => a.new b (h b z), a.fre⟩
/-- what is kept from a step that owns less -/
theorem Stp.more (a : Stp G H f1 G' H' f') (h : ∀ b, f1 b ≠ 0 → f b ≠ 0) : Stp G H f G' H' f' :=
  ⟨a.gg, a.sub, fun b o e z => a.keep b o e (by by_cases q : f1 b = 0; exact q; exact absurd z (h b q)), fun b z => (a.new b z).elim (fun w => .inl (h b w)) .inr, a.fre⟩
/-- a new frozen object -/
theorem Stp.newF {p : Addr} {o : HO} (S : Same G H) (hp : H p = none) : Stp G H f (upd G p o) (upd H p o) f where
  gg := fun b u h => by rw [upd_ne (ne_of_none (S b u h) hp)]; exact h
  sub := fun b u h => by
    by_cases c : b = p
    · subst c; rw [upd_same] at h ⊢; exact h
    · rw [upd_ne c] at h ⊢; exact S b u h
  keep := fun b u h _ => by
    have c := ne_of_none h hp
    exact ⟨by rw [upd_ne c]; exact h, upd_ne c⟩
  new := fun b h => .inl h
  fre := fun b h => by
    by_cases c : b = p
    · rw [c]; exact hp
    · rw [upd_ne c] at h; exact h
/-- a new object of one's own -/
theorem Stp.newO {p : Addr} {o : HO} (S : Same G H) (hp : H p = none) : Stp G H f G (upd H p o) (fAt true p f) where
  gg := Same.refl G
  sub := fun b u h => by rw [upd_ne (ne_of_none (S b u h) hp)]; exact S b u h
  keep := fun b u h _ => ⟨by rw [upd_ne (ne_of_none h hp)]; exact h, rfl⟩
  new := fun b h => by
    by_cases c : b = p
    · subst c; exact .inr hp
    · refine .inl ?_
      unfold fAt at h
      rw [if_neg (fun z => c z.2)] at h
      exact h
  fre := fun b h => by
    by_cases c : b = p
    · rw [c]; exact hp
    · rw [upd_ne c] at h; exact h
/-- an own object is written -/
theorem Stp.write {p : Addr} {o u : HO} (S : Same G H) (hp : H p = some u) (hg : G p = none) (hf : f p ≠ 0) (hn : ∀ b, f' b ≠ 0 → f b ≠ 0) : Stp G H f G (upd H p o) f' where
  gg := Same.refl G
  sub := fun b w h => by
    rw [upd_ne (ne_of_none h hg)]
    exact S b w h
  keep := fun b w h z => by
    have c : b ≠ p := fun q => hf (by rw [← q]; exact z)
    exact ⟨by rw [upd_ne c]; exact h, rfl⟩
  new := fun b h => .inl (hn b h)
  fre := fun b h => by
    by_cases c : b = p
    · rw [c, upd_same] at h; cases h
    · rw [upd_ne c] at h; exact h
/-- what is given out of hand -/
theorem Stp.give (S : Same G H) (k : ∀ b, f1 b ≠ 0 → G b = none) : Stp G H f1 (giv f1 G H) H fz where
  gg := giv_same k
  sub := giv_sub S
  keep := fun b o h z => ⟨h, by unfold giv; rw [if_pos z]⟩
  new := fun b h => absurd rfl h
  fre := fun b h => h
end
end Fw
end

section
set_option linter.all false
set_option maxRecDepth 100000
namespace Fw
open PySem PySem.Spec L2

abbrev Sg := L2.St
abbrev Env := List (Option D)
def Rsl (K : PySem.W.Frag) (G H : Hp) : Option D → Option V → Fp → Prop
  | none, _, g => g = fz
  | some d, s, g => ∃ v, s = some v ∧ Ro K G H d v g
def Rs (K : PySem.W.Frag) (G H : Hp) : Env → Sg → Fp → Prop
  | [], σ, f => σ = [] ∧ f = fz
  | e :: es, σ, f => ∃ s τ g h, σ = s :: τ ∧ Rsl K G H e s g ∧ Rs K G H es τ h ∧ f = fAdd g h
section
variable {K : PySem.W.Frag} {G G' H H' : Hp}
theorem Rsl.mono (e : Same G G') {d : Option D} {s : Option V} {f : Fp} (k : ∀ b, f b ≠ 0 → H' b = H b ∧ G' b = G b) (h : Rsl K G H d s f) : Rsl K G' H' d s f := by
  cases d with
  | none => exact h
  | some d =>
    obtain ⟨v, e1, e2⟩ := h
    exact ⟨v, e1, e2.mono e d v f k⟩
theorem Rs.mono (e : Same G G') : ∀ {env : Env} {σ : Sg} {f : Fp}, (∀ b, f b ≠ 0 → H' b = H b ∧ G' b = G b) → Rs K G H env σ f → Rs K G' H' env σ f
  | [], _, _, _, h => h
  | d :: ds, σ, f, k, ⟨s, τ, g, h, e1, e2, e3, e4⟩ => by
    subst e4
    exact ⟨s, τ, g, h, e1, e2.mono e (fun b hb => k b (by show g b + h b ≠ 0; omega)), Rs.mono e (fun b hb => k b (by show g b + h b ≠ 0; omega)) e3, rfl⟩
theorem Rsl.own {d : Option D} {s : Option V} {f : Fp} (h : Rsl K G H d s f) : ∀ b, f b ≠ 0 → G b = none ∧ ∃ o, H b = some o ∧ Mut (some o) := by
  cases d with
  | none => exact fun b hb => absurd (by rw [show f = fz from h]; rfl) hb
  | some d =>
    obtain ⟨v, e1, e2⟩ := h
    exact e2.own d v f
theorem Rs.own : ∀ {env : Env} {σ : Sg} {f : Fp}, Rs K G H env σ f → ∀ b, f b ≠ 0 → G b = none ∧ ∃ o, H b = some o ∧ Mut (some o)
  | [], _, _, ⟨_, e⟩, b, h => absurd (by rw [e]; rfl) h
  | d :: ds, σ, f, ⟨s, τ, g, h, e1, e2, e3, e4⟩, b, hb => by
    subst e4
    by_cases c : g b = 0
    · exact Rs.own e3 b (by have : g b + h b ≠ 0 := hb; omega)
    · exact e2.own b c
theorem Rs.len : ∀ {env : Env} {σ : Sg} {f : Fp}, Rs K G H env σ f → σ.length = env.length
  | [], _, _, ⟨e, _⟩ => by rw [e]; rfl
  | d :: ds, σ, f, ⟨s, τ, g, h, e1, e2, e3, e4⟩ => by
    subst e1
    rw [List.length_cons, List.length_cons, Rs.len e3]
/-- one slot and the others -/
theorem Rs.split : ∀ {env : Env} {σ : Sg} {f : Fp} (i : Nat) {e : Option D}, Rs K G H env σ f → env[i]? = some e →
    ∃ s g h, σ[i]? = some s ∧ Rsl K G H e s g ∧ f = fAdd g h ∧
      ∀ G' H' : Hp, Same G G' → (∀ b, h b ≠ 0 → H' b = H b ∧ G' b = G b) → ∀ e' s' g', Rsl K G' H' e' s' g' → Rs K G' H' (env.set i e') (σ.set i s') (fAdd g' h)
  | [], _, _, i, e, _, q => by simp at q
  | d :: ds, σ, f, 0, e, ⟨s, τ, g, h, e1, e2, e3, e4⟩, q => by
    have q' : d = e := by simpa using q
    subst q' e1 e4
    exact ⟨s, g, h, by simp, e2, rfl, fun G' H' sg k e' s' g' r => ⟨s', τ, g', h, rfl, r, e3.mono sg k, rfl⟩⟩
  | d :: ds, σ, f, i + 1, e, ⟨s, τ, g, h, e1, e2, e3, e4⟩, q => by
    subst e1 e4
    obtain ⟨s2, g2, h2, r1, r2, r3, r4⟩ := Rs.split i e3 (by simpa using q)
    subst r3
    refine ⟨s2, g2, fAdd g h2, by simpa using r1, r2, by funext b; show g b + (g2 b + h2 b) = g2 b + (g b + h2 b); omega, fun G' H' sg k e' s' g' r => ?_⟩
    refine ⟨s, τ.set i s', g, fAdd g' h2, rfl, e2.mono sg (fun b hb => k b (by show g b + h2 b ≠ 0; omega)), r4 G' H' sg (fun b hb => k b (by show g b + h2 b ≠ 0; omega)) e' s' g' r, ?_⟩
    funext b
    show g' b + (g b + h2 b) = g b + (g' b + h2 b)
    omega
theorem set_same {A : Type} {l : List A} {i : Nat} {x : A} (h : l[i]? = some x) : l.set i x = l := by
  apply List.ext_getElem?
  intro j
  by_cases c : i = j
  · subst c
    rw [List.getElem?_set_self (List.getElem?_eq_some_iff.mp h).1, h]
  · rw [List.getElem?_set_ne c]
end

/-- slots that must go on standing for the same objects (a def's own parameters that it changes for its caller) -/
def Pin (ps : List Nat) (pa : List V) (σ : Sg) : Prop := ∀ (k i : Nat) (a : V), ps[k]? = some i → pa[k]? = some a → σ[i]? = some (some a)
structure SR (K : PySem.W.Frag) (ps : List Nat) (pa : List V) (G H : Hp) (σ : Sg) (env : Env) (fp : Fp) : Prop where
  sub : Same G H
  rs : Rs K G H env σ fp
  one : ∀ b, fp b ≤ 1
  pin : Pin ps pa σ

/-- how an exception lies in the heap (given later) -/
def XR (K : PySem.W.Frag) (G H : Hp) (e : Exn) (c : Value) (a : Option Addr) : Prop := False
/-- what is wanted of an exception -/
def XW (E : XK) (K : PySem.W.Frag) (G H : Hp) (fp : Fp) (e : Exn) : Prop := ∀ c a G' H' fx, Stp G H fp G' H' fx → XR K G' H' e c a → E c a H'
theorem XW.mono {E : XK} {K : PySem.W.Frag} {G H G' H' : Hp} {fp fp' : Fp} (s : Stp G H fp G' H' fp') {e : Exn} (h : XW E K G H fp e) : XW E K G' H' fp' e :=
  fun c a G2 H2 fx s2 r => h c a G2 H2 fx (s.trans s2) r

structure PostE (K : PySem.W.Frag) (ps : List Nat) (pa : List V) (p f : Bool) (G H : Hp) (σ : Sg) (env : Env) (fp : Fp) (d : D) (env' : Env) (v : V) (G' H' : Hp) (fp' fv : Fp) : Prop where
  sr : SR K ps pa G' H' σ env' fp'
  ro : Ro K G' H' d v fv
  stp : Stp G H fp G' H' fp'
  pur : p = true → env' = env ∧ fp' = fp ∧ Stp G H fz G' H' fz
  one : f = true → ∀ b, fp' b + fv b ≤ 1
  own : f = true → ∀ b, fv b ≠ 0 → (p = false ∧ fp b ≠ 0) ∨ H b = none

abbrev FE := Env → R (D × Env)
abbrev FT := Env → R (Bool × Env)
/-- an expression's reading does what F says; p: it changes nothing that was there; f: its value is frozen, or one's own and of nobody else's -/
def RelE (E : XK) (K : PySem.W.Frag) (ps : List Nat) (p f : Bool) (t : TE) (F : FE) : Prop :=
  ∀ pa G H σ env fp, SR K ps pa G H σ env fp → ∀ Q : VK, (F env).wp (fun r => ∀ v G' H' fp' fv, PostE K ps pa p f G H σ env fp r.1 r.2 v G' H' fp' fv → Q v H') (XW E K G H fp) → t σ H Q
structure PostT (K : PySem.W.Frag) (ps : List Nat) (pa : List V) (p : Bool) (G H : Hp) (σ : Sg) (env : Env) (fp : Fp) (env' : Env) (G' H' : Hp) (fp' : Fp) : Prop where
  sr : SR K ps pa G' H' σ env' fp'
  stp : Stp G H fp G' H' fp'
  pur : p = true → env' = env ∧ fp' = fp ∧ Stp G H fz G' H' fz
def RelT (E : XK) (K : PySem.W.Frag) (ps : List Nat) (p : Bool) (t : TT) (F : FT) : Prop :=
  ∀ pa G H σ env fp, SR K ps pa G H σ env fp → ∀ Q : Bool → Hp → Prop, (F env).wp (fun r => ∀ G' H' fp', PostT K ps pa p G H σ env fp r.2 G' H' fp' → Q r.1 H') (XW E K G H fp) → t σ H Q

section
variable {E : XK} {K : PySem.W.Frag} {ps : List Nat} {pa : List V} {p f : Bool} {G H G' H' : Hp} {σ : Sg} {env env' : Env} {fp fp' fv : Fp} {d : D} {v : V}
theorem SR.kept (S : SR K ps pa G H σ env fp) (s : Stp G H fz G' H' fz) : SR K ps pa G' H' σ env fp :=
  ⟨s.sub, S.rs.mono s.gg fun b hb => by
    obtain ⟨_, o, ho, _⟩ := S.rs.own b hb
    obtain ⟨h1, h2⟩ := s.keep b o ho rfl
    exact ⟨h1.trans ho.symm, h2⟩, S.one, S.pin⟩
theorem Stp.ofP (s : Stp G H fz G' H' fz) : Stp G H fp G' H' fp := ⟨s.gg, s.sub, fun b o e _ => s.keep b o e rfl, fun b z => .inl z, s.fre⟩
theorem Stp.ofP' (s : Stp G H fz G' H' fv) : Stp G H fp G' H' fp := ⟨s.gg, s.sub, fun b o e _ => s.keep b o e rfl, fun b z => .inl z, s.fre⟩
theorem Stp.noF (s : Stp G H fz G' H' fv) : Stp G H fz G' H' fz := s.weak fun b h => absurd rfl h
/-- nothing but new things: the post of a pure step -/
theorem PostE.mkP (S : SR K ps pa G H σ env fp) (s : Stp G H fz G' H' fv) (r : Ro K G' H' d v fv) (o : ∀ b, fv b ≤ 1) : PostE K ps pa true true G H σ env fp d env v G' H' fp fv where
  sr := S.kept s.noF
  ro := r
  stp := s.ofP'
  pur := fun _ => ⟨rfl, rfl, s.noF⟩
  one := fun _ b => by
    by_cases c : fv b = 0
    · rw [c]; exact S.one b
    · rcases s.new b c with w | w
      · exact absurd rfl w
      · have : fp b = 0 := by
          by_cases q : fp b = 0
          · exact q
          · obtain ⟨_, o, ho, _⟩ := S.rs.own b q
            rw [ho] at w; cases w
        have := o b
        omega
  own := fun _ b h => .inr ((s.new b h).elim (fun w => absurd rfl w) id)
/-- what stands, carried over a step -/
theorem Ro.carry {q : Bool} {d2 : D} {env2 : Env} {v2 : V} {G2 H2 : Hp} {fp2 fv2 : Fp} {f2 : Bool} (r : Ro K G H d v fv) (P : PostE K ps pa q f2 G H σ env fp d2 env2 v2 G2 H2 fp2 fv2) (c : q = true ∨ ∀ b, fp b + fv b ≤ 1) : Ro K G2 H2 d v fv :=
  r.mono P.stp.gg d v fv fun b hb => by
    obtain ⟨_, o, ho, _⟩ := r.own d v fv b hb
    rcases c with c | c
    · obtain ⟨h1, h2⟩ := (P.pur c).2.2.keep b o ho rfl
      exact ⟨h1.trans ho.symm, h2⟩
    · obtain ⟨h1, h2⟩ := P.stp.keep b o ho (by have := c b; omega)
      exact ⟨h1.trans ho.symm, h2⟩
theorem PostE.toT (P : PostE K ps pa p f G H σ env fp d env' v G' H' fp' fv) : PostT K ps pa p G H σ env fp env' G' H' fp' := ⟨P.sr, P.stp, P.pur⟩
end

/-! ### a value's form forgotten, checked -/
def chk (F : FE) : FE := fun env => (F env).bind fun r => if r.1.frz = true then .ok r else .no
theorem RelE.chk {E : XK} {K : PySem.W.Frag} {ps : List Nat} {p f : Bool} {t : TE} {F : FE} (h : RelE E K ps p f t F) : RelE E K ps p true t (chk F) := by
  intro pa G H σ env fp S Q w
  refine h pa G H σ env fp S Q (R.wp_mono (R.wp_bind w) (fun r q v G' H' fp' fv P => ?_) fun _ x => x)
  by_cases c : r.1.frz = true
  · rw [if_pos c] at q
    have e := P.ro.frz0 r.1 v fv c
    subst e
    exact q v G' H' fp' fz ⟨P.sr, P.ro, P.stp, P.pur, fun _ b => P.sr.one b, fun _ b hb => absurd rfl hb⟩
  · rw [if_neg c] at q
    exact q.elim
theorem RelE.bor {E : XK} {K : PySem.W.Frag} {ps : List Nat} {p f : Bool} {t : TE} {F : FE} (h : RelE E K ps p f t F) : RelE E K ps p false t F := by
  intro pa G H σ env fp S Q w
  exact h pa G H σ env fp S Q (R.wp_mono w (fun r q v G' H' fp' fv P => q v G' H' fp' fv ⟨P.sr, P.ro, P.stp, P.pur, fun z => Bool.noConfusion z, fun z => Bool.noConfusion z⟩) fun _ x => x)

/-! ### constants, names -/
def fC (d : D) : FE := fun env => .ok (d, env)
def fVar (i : Nat) : FE := fun env => match env[i]? with
  | some (some d) => .ok (d, env)
  | _ => .no
section
variable {E : XK} {K : PySem.W.Frag} {ps : List Nat}
theorem rel_c {d : D} {v : V} (h : ∀ G H, Ro K G H d v fz) : RelE E K ps true true (tC v) (fC d) := by
  intro pa G H σ env fp S Q w
  exact w v G H fp fz (PostE.mkP S (Stp.refl S.sub) (h G H) fun _ => Nat.zero_le _)
theorem rel_int {i : Int} : RelE E K ps true true (tC (.int i)) (fC (.int i)) := rel_c fun _ _ => ⟨rfl, rfl⟩
theorem rel_str {s : Str} : RelE E K ps true true (tC (.str s)) (fC (.str s)) := rel_c fun _ _ => ⟨rfl, rfl⟩
theorem rel_bl {b : Bool} : RelE E K ps true true (tC (.bl b)) (fC (.bl b)) := rel_c fun _ _ => ⟨rfl, rfl⟩
theorem rel_non : RelE E K ps true true (tC .non) (fC .non) := rel_c fun _ _ => ⟨rfl, rfl⟩
theorem rel_var {i : Nat} : RelE E K ps true false (tVar i) (fVar i) := by
  intro pa G H σ env fp S Q w
  unfold fVar at w
  cases e : env[i]? with
  | none => rw [e] at w; exact w.elim
  | some o =>
    cases o with
    | none => rw [e] at w; exact w.elim
    | some d =>
      rw [e] at w
      obtain ⟨s, g, h, h1, ⟨v, rfl, h2⟩, _, _⟩ := S.rs.split i e
      exact ⟨v, h1, w v G H fp g ⟨S, h2, Stp.refl S.sub, fun _ => ⟨rfl, rfl, Stp.refl S.sub⟩, fun z => Bool.noConfusion z, fun z => Bool.noConfusion z⟩⟩
/-- read and given out of hand -/
def fFrz (i : Nat) : FE := fun env => match env[i]? with
  | some (some d) => .ok (d.fr, env.set i (some d.fr))
  | _ => .no
/-- read and taken away -/
def fMov (i : Nat) : FE := fun env => match env[i]? with
  | some (some d) => .ok (d, env.set i none)
  | _ => .no
theorem rel_frz {i : Nat} : RelE E K ps false true (tVar i) (fFrz i) := by
  intro pa G H σ env fp S Q w
  unfold fFrz at w
  cases e : env[i]? with
  | none => rw [e] at w; exact w.elim
  | some o =>
    cases o with
    | none => rw [e] at w; exact w.elim
    | some d =>
      rw [e] at w
      obtain ⟨s, g, h, h1, ⟨v, rfl, h2⟩, h3, h4⟩ := S.rs.split i e
      subst h3
      have kG : ∀ b, g b ≠ 0 → G b = none := fun b hb => (h2.own d v g b hb).1
      have sg := giv_same (H := H) kG
      have ro : Ro K (giv g G H) H d.fr v fz := h2.freeze S.sub sg d v g (fun b hb => by unfold giv; rw [if_neg hb])
      have rs := h4 (giv g G H) H sg (fun b hb => ⟨rfl, by
        have := S.one b
        have z : g b = 0 := by have : g b + h b ≤ 1 := this; omega
        unfold giv; rw [if_pos z]⟩) (some d.fr) (some v) fz ⟨v, rfl, ro⟩
      rw [set_same h1] at rs
      refine ⟨v, h1, w v (giv g G H) H (fAdd fz h) fz ⟨⟨giv_sub S.sub, rs, fun b => ?_, S.pin⟩, ro, ?_, fun z => Bool.noConfusion z, fun _ b => ?_, fun _ b hb => absurd rfl hb⟩⟩
      · have : g b + h b ≤ 1 := S.one b
        show 0 + h b ≤ 1
        omega
      · refine ((Stp.give S.sub kG).more (f := fAdd g h) fun b hb => by show g b + h b ≠ 0; omega).trans (Stp.refl (giv_sub S.sub)) |> fun z => ⟨z.gg, z.sub, z.keep, fun b hb => .inl (by have : 0 + h b ≠ 0 := hb; show g b + h b ≠ 0; omega), z.fre⟩
      · have : g b + h b ≤ 1 := S.one b
        show 0 + h b + 0 ≤ 1
        omega
theorem rel_mov {i : Nat} (hp : i ∉ ps) : RelE E K ps false true (tVar i) (fMov i) := by
  intro pa G H σ env fp S Q w
  unfold fMov at w
  cases e : env[i]? with
  | none => rw [e] at w; exact w.elim
  | some o =>
    cases o with
    | none => rw [e] at w; exact w.elim
    | some d =>
      rw [e] at w
      obtain ⟨s, g, h, h1, ⟨v, rfl, h2⟩, h3, h4⟩ := S.rs.split i e
      subst h3
      have rs := h4 G H (Same.refl G) (fun b hb => ⟨rfl, rfl⟩) none (some v) fz rfl
      rw [set_same h1] at rs
      refine ⟨v, h1, w v G H (fAdd fz h) g ⟨⟨S.sub, rs, fun b => ?_, S.pin⟩, h2, (Stp.refl S.sub).weak fun b hb => ?_, fun z => Bool.noConfusion z, fun _ b => ?_, fun _ b hb => .inl ⟨rfl, ?_⟩⟩⟩
      · have : g b + h b ≤ 1 := S.one b
        show 0 + h b ≤ 1
        omega
      · have : 0 + h b ≠ 0 := hb
        show g b + h b ≠ 0
        omega
      · have : g b + h b ≤ 1 := S.one b
        show 0 + h b + g b ≤ 1
        omega
      · show g b + h b ≠ 0
        omega
end
end Fw
end

section
set_option linter.all false
set_option maxRecDepth 100000
namespace Fw
open PySem PySem.Spec L2

/-! ### the data as the library compares them -/
mutual
def D.py : D → PyData
  | .non => .none
  | .bl b => .bool b
  | .int i => .int i
  | .str s => .str s
  | .tup xs => .tuple (pys xs)
  | .lst _ xs => .list (pys xs)
  | .dic _ _ _ => .dict []
def pys : List D → List PyData
  | [] => []
  | x :: xs => x.py :: pys xs
end
mutual
/-- no dict within -/
def D.nd : D → Bool
  | .tup xs => nds xs
  | .lst _ xs => nds xs
  | .dic _ _ _ => false
  | _ => true
def nds : List D → Bool
  | [] => true
  | x :: xs => x.nd && nds xs
end
mutual
theorem Ro.dp {K : PySem.W.Frag} {G H : Hp} (S : Same G H) : ∀ (d : D) (v : V) (f : Fp), d.nd = true → Ro K G H d v f → Dp K H v d.py
  | .non, _, _, _, ⟨e, _⟩ => by rw [e]; exact .non
  | .bl b, _, _, _, ⟨e, _⟩ => by rw [e]; exact .bl b
  | .int i, _, _, _, ⟨e, _⟩ => by rw [e]; exact .int i
  | .str s, _, _, _, ⟨e, _⟩ => by rw [e]; exact .str s
  | .tup xs, v, f, n, ⟨a, vs, e1, e2, e3⟩ => by
    rw [e1]
    exact .tup (same_t S e2) (Ros.dp S xs vs f (by rw [D.nd] at n; exact n) e3)
  | .lst o xs, v, f, n, ⟨a, vs, g, e1, e2, e3, e4⟩ => by
    rw [e1]
    refine .lst ?_ (Ros.dp S xs vs g (by rw [D.nd] at n; exact n) e3)
    cases o with
    | true =>
      rw [if_pos rfl] at e2
      exact SqL.of e2.1
    | false =>
      rw [if_neg Bool.false_ne_true] at e2
      exact S.seq e2
  | .dic _ _ _, _, _, n, _ => by rw [D.nd] at n; cases n
theorem Ros.dp {K : PySem.W.Frag} {G H : Hp} (S : Same G H) : ∀ (ds : List D) (vs : List V) (f : Fp), nds ds = true → Ros K G H ds vs f → DpAll K H vs (pys ds)
  | [], _, _, _, ⟨e, _⟩ => by rw [e]; exact .nil
  | x :: xs, vs, f, n, ⟨v, ws, g, h, e1, e2, e3, e4⟩ => by
    rw [nds, Bool.and_eq_true] at n
    rw [e1]
    exact .cons (Ro.dp S x v g n.1 e2) (Ros.dp S xs ws h n.2 e3)
end
theorem Ros.len {K : PySem.W.Frag} {G H : Hp} : ∀ {ds : List D} {vs : List V} {f : Fp}, Ros K G H ds vs f → vs.length = ds.length
  | [], _, _, ⟨e, _⟩ => by rw [e]; rfl
  | x :: xs, _, _, ⟨v, ws, g, h, e1, e2, e3, e4⟩ => by
    rw [e1, List.length_cons, List.length_cons, Ros.len e3]
theorem Ros.app {K : PySem.W.Frag} {G H : Hp} : ∀ {ds es : List D} {vs ws : List V} {f g : Fp}, Ros K G H ds vs f → Ros K G H es ws g → Ros K G H (ds ++ es) (vs ++ ws) (fAdd f g)
  | [], es, vs, ws, f, g, ⟨e1, e2⟩, h => by
    subst e1 e2
    have e : fAdd fz g = g := by funext b; show 0 + g b = g b; omega
    rw [e]
    exact h
  | x :: xs, es, vs, ws, f, g, ⟨v, ws', g1, h1, e1, e2, e3, e4⟩, h => by
    subst e1 e4
    exact ⟨v, ws' ++ ws, g1, fAdd h1 g, rfl, e2, Ros.app e3 h, by funext b; show g1 b + h1 b + g b = g1 b + (h1 b + g b); omega⟩

/-! ### operations on two values -/
def R.of {A : Type} : Option A → R A
  | some a => .ok a
  | none => .no
theorem R.wp_of {A : Type} {o : Option A} {P : A → Prop} {X : Exn → Prop} (h : (R.of o).wp P X) : ∃ a, o = some a ∧ P a := by
  cases o with
  | none => exact h.elim
  | some a => exact ⟨a, rfl, h⟩
theorem ite_some {A : Type} {c : Prop} [Decidable c] {x y : A} (h : (if c then some x else none) = some y) : c ∧ x = y := by
  by_cases z : c
  · rw [if_pos z] at h
    exact ⟨z, Option.some.inj h⟩
  · rw [if_neg z] at h
    cases h
/-- r does what g says; the value is new or frozen -/
def OpRel (K : PySem.W.Frag) (r : R2) (g : D → D → Option D) : Prop :=
  ∀ G H x y u v fx fy d, Same G H → Ro K G H x u fx → Ro K G H y v fy → g x y = some d → ∀ Q : VK, (∀ w G' H' fw, Ro K G' H' d w fw → Stp G H fz G' H' fw → (∀ b, fw b ≤ 1) → Q w H') → r u v H Q
def fBin (g : D → D → Option D) (Fa Fb : FE) : FE := fun env => (Fa env).bind fun r => (Fb r.2).bind fun s => (R.of (g r.1 s.1)).bind fun d => .ok (d, s.2)

section
variable {E : XK} {K : PySem.W.Frag} {ps : List Nat} {pa : List V} {G H G' H' : Hp} {σ : Sg} {env env' : Env} {fp fp' fv : Fp}
/-- two steps, then one that makes new things alone -/
theorem PostE.op {p1 f1 p2 f2 : Bool} {d1 d2 d : D} {env1 env2 : Env} {v1 v2 v : V} {G1 H1 G2 H2 G3 H3 : Hp} {fp1 fv1 fp2 fv2 fv : Fp}
    (P : PostE K ps pa p1 f1 G H σ env fp d1 env1 v1 G1 H1 fp1 fv1) (P2 : PostE K ps pa p2 f2 G1 H1 σ env1 fp1 d2 env2 v2 G2 H2 fp2 fv2)
    (s : Stp G2 H2 fz G3 H3 fv) (r : Ro K G3 H3 d v fv) (o : ∀ b, fv b ≤ 1) : PostE K ps pa (p1 && p2) true G H σ env fp d env2 v G3 H3 fp2 fv where
  sr := P2.sr.kept s.noF
  ro := r
  stp := (P.stp.trans P2.stp).trans s.ofP'
  pur := fun z => by
    obtain ⟨z1, z2⟩ := Bool.and_eq_true_iff.mp z
    obtain ⟨a1, a2, a3⟩ := P.pur z1
    obtain ⟨b1, b2, b3⟩ := P2.pur z2
    exact ⟨b1.trans a1, b2.trans a2, (a3.trans b3).trans s.noF⟩
  one := fun _ b => by
    by_cases c : fv b = 0
    · rw [c]; exact P2.sr.one b
    · rcases s.new b c with w | w
      · exact absurd rfl w
      · have : fp2 b = 0 := by
          by_cases q : fp2 b = 0
          · exact q
          · obtain ⟨_, o, ho, _⟩ := P2.sr.rs.own b q
            rw [ho] at w; cases w
        have := o b
        omega
  own := fun _ b h => .inr ((s.new b h).elim (fun w => absurd rfl w) fun w => P.stp.fre b (P2.stp.fre b w))
theorem PostE.op1 {p1 f1 : Bool} {d1 d : D} {env1 : Env} {v1 v : V} {G1 H1 G3 H3 : Hp} {fp1 fv1 fv : Fp}
    (P : PostE K ps pa p1 f1 G H σ env fp d1 env1 v1 G1 H1 fp1 fv1) (s : Stp G1 H1 fz G3 H3 fv) (r : Ro K G3 H3 d v fv) (o : ∀ b, fv b ≤ 1) : PostE K ps pa p1 true G H σ env fp d env1 v G3 H3 fp1 fv where
  sr := P.sr.kept s.noF
  ro := r
  stp := P.stp.trans s.ofP'
  pur := fun z => by
    obtain ⟨a1, a2, a3⟩ := P.pur z
    exact ⟨a1, a2, a3.trans s.noF⟩
  one := fun _ b => by
    by_cases c : fv b = 0
    · rw [c]; exact P.sr.one b
    · rcases s.new b c with w | w
      · exact absurd rfl w
      · have : fp1 b = 0 := by
          by_cases q : fp1 b = 0
          · exact q
          · obtain ⟨_, o, ho, _⟩ := P.sr.rs.own b q
            rw [ho] at w; cases w
        have := o b
        omega
  own := fun _ b h => .inr ((s.new b h).elim (fun w => absurd rfl w) fun w => P.stp.fre b w)
theorem rel_op {p1 f1 p2 f2 : Bool} {r : R2} {g : D → D → Option D} {ta tb : TE} {Fa Fb : FE} (hr : OpRel K r g) (ha : RelE E K ps p1 f1 ta Fa) (hb : RelE E K ps p2 f2 tb Fb) (hc : (p2 || f1) = true := by rfl) :
    RelE E K ps (p1 && p2) true (tOp r ta tb) (fBin g Fa Fb) := by
  intro pa G H σ env fp S Q w
  refine ha pa G H σ env fp S _ (R.wp_mono (R.wp_bind w) (fun r1 w1 v1 G1 H1 fp1 fv1 P1 => ?_) fun _ x => x)
  refine hb pa G1 H1 σ r1.2 fp1 P1.sr _ (R.wp_mono (R.wp_bind w1) (fun r2 w2 v2 G2 H2 fp2 fv2 P2 => ?_) fun _ x => XW.mono P1.stp x)
  have c : p2 = true ∨ ∀ b, fp1 b + fv1 b ≤ 1 := by
    rcases Bool.or_eq_true_iff.mp hc with z | z
    · exact .inl z
    · exact .inr (P1.one z)
  obtain ⟨d, e, w3⟩ := R.wp_of (R.wp_bind w2)
  exact hr G2 H2 r1.1 r2.1 v1 v2 fv1 fv2 d P2.sr.sub (P1.ro.carry P2 c) P2.ro e Q fun v G3 H3 fv r3 s3 o3 => w3 v G3 H3 fp2 fv (P1.op P2 s3 r3 o3)
/-- one value -/
def UnRel (K : PySem.W.Frag) (r : V → Hp → VK → Prop) (g : D → Option D) : Prop :=
  ∀ G H x u fx d, Same G H → Ro K G H x u fx → g x = some d → ∀ Q : VK, (∀ w G' H' fw, Ro K G' H' d w fw → Stp G H fz G' H' fw → (∀ b, fw b ≤ 1) → Q w H') → r u H Q
def fUn (g : D → Option D) (Fa : FE) : FE := fun env => (Fa env).bind fun r => (R.of (g r.1)).bind fun d => .ok (d, r.2)
theorem rel_un {p1 f1 : Bool} {r : V → Hp → VK → Prop} {g : D → Option D} {ta : TE} {Fa : FE} (hr : UnRel K r g) (ha : RelE E K ps p1 f1 ta Fa) : RelE E K ps p1 true (tUn r ta) (fUn g Fa) := by
  intro pa G H σ env fp S Q w
  refine ha pa G H σ env fp S _ (R.wp_mono (R.wp_bind w) (fun r1 w1 v1 G1 H1 fp1 fv1 P1 => ?_) fun _ x => x)
  obtain ⟨d, e, w3⟩ := R.wp_of (R.wp_bind w1)
  exact hr G1 H1 r1.1 v1 fv1 d P1.sr.sub P1.ro e Q fun v G3 H3 fv r3 s3 o3 => w3 v G3 H3 fp1 fv (P1.op1 s3 r3 o3)
/-- a built-in called with one value, with two -/
theorem rel_call1 {p1 f1 : Bool} {r : List V → Hp → VK → Prop} {g : D → Option D} {ta : TE} {Fa : FE} (hr : UnRel K (fun x => r [x]) g) (ha : RelE E K ps p1 f1 ta Fa) : RelE E K ps p1 true (tCB r (tCons ta tNil)) (fUn g Fa) :=
  fun pa G H σ env fp S Q w => rel_un hr ha pa G H σ env fp S Q w
theorem rel_call2 {p1 f1 p2 f2 : Bool} {r : List V → Hp → VK → Prop} {g : D → D → Option D} {ta tb : TE} {Fa Fb : FE} (hr : OpRel K (fun x y => r [x, y]) g) (ha : RelE E K ps p1 f1 ta Fa) (hb : RelE E K ps p2 f2 tb Fb) (hc : (p2 || f1) = true := by rfl) :
    RelE E K ps (p1 && p2) true (tCB r (tCons ta (tCons tb tNil))) (fBin g Fa Fb) :=
  fun pa G H σ env fp S Q w => rel_op hr ha hb hc pa G H σ env fp S Q w
/-- a plain value, nothing changed -/
theorem Stp.same (S : Same G H) : Stp G H fz G H fz := Stp.refl S
theorem OpRel.mk0 {r : R2} {g : D → D → Option D} (h : ∀ G H x y u v fx fy d, Same G H → Ro K G H x u fx → Ro K G H y v fy → g x y = some d → ∀ Q : VK, (∀ w, Ro K G H d w fz → Q w H) → r u v H Q) : OpRel K r g :=
  fun G H x y u v fx fy d S rx ry e Q q => h G H x y u v fx fy d S rx ry e Q fun w rw => q w G H fz rw (Stp.refl S) fun _ => Nat.zero_le _
theorem UnRel.mk0 {r : V → Hp → VK → Prop} {g : D → Option D} (h : ∀ G H x u fx d, Same G H → Ro K G H x u fx → g x = some d → ∀ Q : VK, (∀ w, Ro K G H d w fz → Q w H) → r u H Q) : UnRel K r g :=
  fun G H x u fx d S rx e Q q => h G H x u fx d S rx e Q fun w rw => q w G H fz rw (Stp.refl S) fun _ => Nat.zero_le _
theorem new_own {vs : List V} (S : Same G H) {p : Addr} (hp : H p = none) : if true = true then upd H p (.lst vs) p = some (.lst vs) ∧ G p = none else SqL K G p vs := by
  rw [if_pos rfl]
  refine ⟨upd_same, ?_⟩
  cases q : G p with
  | none => rfl
  | some o =>
    rw [S p o q] at hp
    cases hp
/-- a new list of one's own, of frozen things -/
theorem new_lst {xs : List D} {vs : List V} (S : Same G H) (r : Ros K G H xs vs fz) {p : Addr} (hp : H p = none) : Ro K G (upd H p (.lst vs)) (.lst true xs) (.ref p) (fAt true p fz) :=
  ⟨p, vs, fz, rfl, new_own S hp, r.mono (Same.refl G) xs vs fz fun b h => absurd rfl h, rfl⟩
theorem new_lstF {xs : List D} {vs : List V} {f : Fp} (S : Same G H) (r : Ros K G H xs vs f) {p : Addr} (hp : H p = none) : Ro K G (upd H p (.lst vs)) (.lst true xs) (.ref p) (fAt true p f) :=
  ⟨p, vs, f, rfl, new_own S hp, r.mono (Same.refl G) xs vs f (fun b h => by
      obtain ⟨_, o, ho, _⟩ := r.own xs vs f b h
      exact ⟨upd_ne (ne_of_none ho hp), rfl⟩), rfl⟩
theorem new_tupF {xs : List D} {vs : List V} {f : Fp} (S : Same G H) (r : Ros K G H xs vs f) {p : Addr} (hp : H p = none) : Ro K (upd G p (.tup vs)) (upd H p (.tup vs)) (.tup xs) (.ref p) f :=
  ⟨p, vs, rfl, SqT.of upd_same, r.mono (Stp.newF (f := f) S hp).gg xs vs f fun b h => by
      obtain ⟨_, o, ho, _⟩ := r.own xs vs f b h
      exact ⟨upd_ne (ne_of_none ho hp), upd_ne (ne_of_none ho hp)⟩⟩
end

/-! ### + -/
def big : Nat := 16777216
theorem big_line {n : Nat} (h : n ≤ big) : n ≤ sizeLine := by rw [sizeLine_eq]; exact h
def rCatL (K : PySem.W.Frag) : R2 := fun x y H Q => ∃ l b xs zs, x = .ref l ∧ y = .ref b ∧ SqL K H l xs ∧ SqL K H b zs ∧ xs.length + zs.length ≤ sizeLine ∧ ∀ p, H p = none → Q (.ref p) (upd H p (.lst (xs ++ zs)))
theorem op_catL {X : Cx} : OpR X (binaryOp .Add) (rCatL X.K) := by
  intro pins s σ H x y v u Q I rx ry h
  obtain ⟨l, b, xs, zs, rfl, rfl, hx, hz, hsz, q⟩ := h
  cases rx
  cases ry
  obtain ⟨its, r1, ⟨o1, n1, e1, c1, d1, t1⟩, _⟩ := I.list hx
  obtain ⟨its2, r2, ⟨o2, n2, e2, c2, d2, t2⟩, _⟩ := I.list hz
  obtain ⟨cls, dd, data, sl⟩ := o1
  obtain ⟨cls2, dd2, data2, sl2⟩ := o2
  simp only at c1 d1 t1 c2 d2 t2
  subst c1 d1 t1 c2 d2 t2
  have ea : its.toArray ++ its2.toArray = (its ++ its2).toArray := by simp
  have el := r1.length
  have el2 := r2.length
  refine PySem.concat_meets ⟨_, e1, rfl⟩ ⟨_, e2, rfl⟩ PySem.noFill_list_add PySem.seq_list_add PySem.F.slot_list_add PySem.F.entry_list_add (PySem.F.args_list_add_2 _ _) (PyProof.Rows.list_addW l b its.toArray its2.toArray n1 n2 none none sl sl2 (by rw [List.size_toArray, List.size_toArray]; omega)) ⟨e1, e2, ?_⟩
  rw [ea]
  exact ⟨.ref _, _, I.lnew (t' := s.toks) (r1.append r2) (by rw [List.length_append]; omega), rfl, q _ I.fresh⟩
def rAddA (K : PySem.W.Frag) : R2 := fun x y H Q => rI0 (fun i j => .int (i + j)) x y H Q ∨ (∃ i j, x = .str i ∧ y = .str j ∧ i.length + j.length ≤ sizeLine ∧ Q (.str (i ++ j)) H) ∨ rCatA K x y H Q ∨ rCatL K x y H Q
theorem op_addA {X : Cx} : OpR X (binaryOp .Add) (rAddA X.K) := op_add.or (op_add_str.or (op_catA.or op_catL))
def addD : D → D → Option D
  | .int i, .int j => some (.int (i + j))
  | .str a, .str b => if a.length + b.length ≤ big then some (.str (a ++ b)) else none
  | .tup xs, .tup ys => if xs.length + ys.length ≤ big ∧ frzs xs = true ∧ frzs ys = true then some (.tup (xs ++ ys)) else none
  | .lst _ xs, .lst _ ys => if xs.length + ys.length ≤ big ∧ frzs xs = true ∧ frzs ys = true then some (.lst true (xs ++ ys)) else none
  | _, _ => none
theorem Ro.lstV {K : PySem.W.Frag} {G H : Hp} {o : Bool} {xs : List D} {v : V} {f : Fp} (S : Same G H) (h : Ro K G H (.lst o xs) v f) : ∃ a vs g, v = .ref a ∧ SqL K H a vs ∧ Ros K G H xs vs g := by
  obtain ⟨a, vs, g, e1, e2, e3, e4⟩ := h
  refine ⟨a, vs, g, e1, ?_, e3⟩
  cases o with
  | true =>
    rw [if_pos rfl] at e2
    exact SqL.of e2.1
  | false =>
    rw [if_neg Bool.false_ne_true] at e2
    exact S.seq e2
theorem fz_add : fAdd fz fz = fz := rfl
theorem rel_add {K : PySem.W.Frag} : OpRel K (rAddA K) addD := by
  intro G H x y u v fx fy d S rx ry e Q q
  cases x with
  | int i =>
    cases y with
    | int j =>
      obtain ⟨rfl, _⟩ := rx
      obtain ⟨rfl, _⟩ := ry
      cases e
      exact .inl ⟨i, j, rfl, rfl, q _ G H fz ⟨rfl, rfl⟩ (Stp.refl S) fun _ => Nat.zero_le _⟩
    | _ => cases e
  | str a =>
    cases y with
    | str b =>
      obtain ⟨rfl, _⟩ := rx
      obtain ⟨rfl, _⟩ := ry
      obtain ⟨c, rfl⟩ := ite_some e
      exact .inr (.inl ⟨a, b, rfl, rfl, big_line c, q _ G H fz ⟨rfl, rfl⟩ (Stp.refl S) fun _ => Nat.zero_le _⟩)
    | _ => cases e
  | tup xs =>
    cases y with
    | tup ys =>
      obtain ⟨c, rfl⟩ := ite_some e
      · skip
        obtain ⟨a, vs, rfl, h1, r1⟩ := rx
        obtain ⟨b, ws, rfl, h2, r2⟩ := ry
        have z1 := r1.frz0 xs vs fx c.2.1
        have z2 := r2.frz0 ys ws fy c.2.2
        subst z1 z2
        have l1 := r1.len
        have l2 := r2.len
        refine .inr (.inr (.inl ⟨a, b, vs, ws, rfl, rfl, same_t S h1, same_t S h2, big_line (by rw [l1, l2]; exact c.1), fun n => ?_, fun n1 n2 => ?_, fun n1 n2 p hp => ?_⟩))
        · have n' : xs = [] := List.eq_nil_of_length_eq_zero (by rw [← l1, n]; rfl)
          subst n'
          exact q _ G H fz ⟨b, ws, rfl, h2, r2⟩ (Stp.refl S) fun _ => Nat.zero_le _
        · have n' : ys = [] := List.eq_nil_of_length_eq_zero (by rw [← l2, n2]; rfl)
          subst n'
          exact q _ G H fz (by rw [List.append_nil]; exact ⟨a, vs, rfl, h1, r1⟩) (Stp.refl S) fun _ => Nat.zero_le _
        · exact q _ _ _ fz (new_tupF S (r1.app r2) hp) (Stp.newF S hp) fun _ => Nat.zero_le _
    | _ => cases e
  | lst o xs =>
    cases y with
    | lst o2 ys =>
      obtain ⟨c, rfl⟩ := ite_some e
      · skip
        obtain ⟨a, vs, g1, rfl, h1, r1⟩ := rx.lstV S
        obtain ⟨b, ws, g2, rfl, h2, r2⟩ := ry.lstV S
        have z1 := r1.frz0 xs vs g1 c.2.1
        have z2 := r2.frz0 ys ws g2 c.2.2
        subst z1 z2
        have l1 := r1.len
        have l2 := r2.len
        refine .inr (.inr (.inr ⟨a, b, vs, ws, rfl, rfl, h1, h2, big_line (by rw [l1, l2]; exact c.1), fun p hp => ?_⟩))
        refine q _ _ _ _ (new_lst S (r1.app r2) hp) (Stp.newO S hp) fun b => ?_
        unfold fAt fz
        split <;> omega
    | _ => cases e
  | _ => cases y <;> cases e

/-! ### whole numbers -/
section
variable {K : PySem.W.Frag}
def g2I (C : Int → Int → Prop) [∀ i j, Decidable (C i j)] (g : Int → Int → Int) : D → D → Option D
  | .int i, .int j => if C i j then some (.int (g i j)) else none
  | _, _ => none
theorem rel_2I {C : Int → Int → Prop} [∀ i j, Decidable (C i j)] {g : Int → Int → Int} : OpRel K (rI C fun i j => .int (g i j)) (g2I C g) := .mk0 fun G H x y u v fx fy d S rx ry e Q q => by
  cases x with
  | int i =>
    cases y with
    | int j =>
      obtain ⟨rfl, _⟩ := rx
      obtain ⟨rfl, _⟩ := ry
      obtain ⟨c, rfl⟩ := ite_some e
      exact ⟨i, j, rfl, rfl, c, q _ ⟨rfl, rfl⟩⟩
    | _ => cases e
  | _ => cases y <;> cases e
def subD : D → D → Option D
  | .int i, .int j => some (.int (i - j))
  | _, _ => none
theorem rel_sub : OpRel K (rI0 fun i j => .int (i - j)) subD := .mk0 fun G H x y u v fx fy d S rx ry e Q q => by
  cases x with
  | int i =>
    cases y with
    | int j =>
      obtain ⟨rfl, _⟩ := rx
      obtain ⟨rfl, _⟩ := ry
      cases e
      exact ⟨i, j, rfl, rfl, q _ ⟨rfl, rfl⟩⟩
    | _ => cases e
  | _ => cases y <;> cases e
instance (i j : Int) : Decidable (CMul i j) := by unfold CMul; infer_instance
instance (i j : Int) : Decidable (CDiv i j) := by unfold CDiv; infer_instance
instance (i j : Int) : Decidable (CPow i j) := by unfold CPow; infer_instance
def mulD : D → D → Option D := g2I CMul fun i j => i * j
def divD : D → D → Option D := g2I CDiv fun i j => i / j
def modD : D → D → Option D := g2I (fun _ j => 0 < j) fun i j => i % j
def powD : D → D → Option D := g2I CPow fun i j => i ^ j.toNat
theorem rel_mul : OpRel K (rI CMul fun i j => .int (i * j)) mulD := rel_2I
theorem rel_div : OpRel K (rI CDiv fun i j => .int (i / j)) divD := rel_2I
theorem rel_mod : OpRel K (rI (fun _ j => 0 < j) fun i j => .int (i % j)) modD := rel_2I
theorem rel_pow : OpRel K (rI CPow fun i j => .int (i ^ j.toNat)) powD := rel_2I
def negD : D → Option D
  | .int i => some (.int (-i))
  | _ => none
theorem rel_neg : UnRel K (rU fun i => .int (-i)) negD := .mk0 fun G H x u fx d S rx e Q q => by
  cases x with
  | int i =>
    obtain ⟨rfl, _⟩ := rx
    cases e
    exact ⟨i, rfl, q _ ⟨rfl, rfl⟩⟩
  | _ => cases e

/-! ### comparisons -/
def rCmpD (K : PySem.W.Frag) (k : PyData → PyData → Bool) : R2 := fun x y H Q => ∃ d e, Dp K H x d ∧ Dp K H y e ∧ PySem.W.alike d e = true ∧ d ≠ .none ∧ d.depth ≤ 64 ∧ Q (.bl (k d e)) H
theorem op_cmpD {X : Cx} {op : CmpOp} {k : PyData → PyData → Bool} (hu : X.A.units + 64 < cLine) (hop : ∀ a b, compareOp op a b = richCompare op a b)
    (rule : ∀ (d e : PyData) (A : Around) (s : Shared) (a b : Value) (as bs : List Addr), Reads s.heap a d as → Reads s.heap b e bs → PySem.W.alike d e = true → d ≠ .none → A.units + min d.depth e.depth < cLine → PySem.SeqAt.RcOp op A s a b (k d e)) :
    OpR X (compareOp op) (rCmpD X.K k) := by
  intro pins s σ H x y v u Q I rx ry h
  obtain ⟨d, e, hd, he, al, nn, dp, q⟩ := h
  obtain ⟨as, r1⟩ := Dp.reads I d x v hd rx
  obtain ⟨bs, r2⟩ := Dp.reads I e y u he ry
  rw [hop]
  exact rule d e X.A s v u as bs r1 r2 al nn (by have := Nat.min_le_left d.depth e.depth; omega) _ _ _ _ (fin_bl I q rfl)
def D.isN : D → Bool
  | .non => true
  | _ => false
def cmpD (k : PyData → PyData → Bool) (x y : D) : Option D :=
  if x.nd = true ∧ y.nd = true ∧ PySem.W.alike x.py y.py = true ∧ x.isN = false ∧ x.py.depth ≤ 64 then some (.bl (k x.py y.py)) else none
theorem rel_cmp {k : PyData → PyData → Bool} : OpRel K (rCmpD K k) (cmpD k) := .mk0 fun G H x y u v fx fy d S rx ry e Q q => by
  obtain ⟨⟨c1, c2, c3, c4, c5⟩, rfl⟩ := ite_some e
  refine ⟨x.py, y.py, rx.dp S x u fx c1, ry.dp S y v fy c2, c3, fun z => ?_, c5, q _ ⟨rfl, rfl⟩⟩
  cases x with
  | non => cases c4
  | _ => cases z
def kLt : PyData → PyData → Bool := fun d e => PySem.W.dataLt d e
def kGt : PyData → PyData → Bool := fun d e => PySem.W.dataLt e d
def kLe : PyData → PyData → Bool := fun d e => !PySem.W.dataLt e d
def kGe : PyData → PyData → Bool := fun d e => !PySem.W.dataLt d e
theorem op_ltG {X : Cx} (hu : X.A.units + 64 < cLine) : OpR X (compareOp .Lt) (rCmpD X.K kLt) := op_cmpD hu (fun _ _ => rfl) fun d e A s a b as bs h1 h2 h3 h4 h5 => PySem.W.rcLt_alike d e A s a b as bs h1 h2 h3 h4 h5
theorem op_gtG {X : Cx} (hu : X.A.units + 64 < cLine) : OpR X (compareOp .Gt) (rCmpD X.K kGt) := op_cmpD hu (fun _ _ => rfl) fun d e A s a b as bs h1 h2 h3 h4 h5 => PySem.W.rcGt_alike d e A s a b as bs h1 h2 h3 h4 h5
theorem op_leG {X : Cx} (hu : X.A.units + 64 < cLine) : OpR X (compareOp .LtE) (rCmpD X.K kLe) := op_cmpD hu (fun _ _ => rfl) fun d e A s a b as bs h1 h2 h3 h4 h5 => PySem.W.rcLe_alike d e A s a b as bs h1 h2 h3 h4 h5
theorem op_geG {X : Cx} (hu : X.A.units + 64 < cLine) : OpR X (compareOp .GtE) (rCmpD X.K kGe) := op_cmpD hu (fun _ _ => rfl) fun d e A s a b as bs h1 h2 h3 h4 h5 => PySem.W.rcGe_alike d e A s a b as bs h1 h2 h3 h4 h5
abbrev ltD := cmpD kLt
abbrev gtD := cmpD kGt
abbrev leD := cmpD kLe
abbrev geD := cmpD kGe

/-! ### == -/
def D.eqv (x y : D) : Bool := PyData.eqv x.py y.py
/-- two things that == tells apart without going into them -/
def scalD : D → D → Bool
  | .non, .non => true | .non, .int _ => true | .int _, .non => true | .non, .bl _ => true | .bl _, .non => true | .non, .str _ => true | .str _, .non => true
  | .int _, .int _ => true | .bl _, .bl _ => true | .str _, .str _ => true
  | .int _, .str _ => true | .str _, .int _ => true | .bl _, .str _ => true | .str _, .bl _ => true
  | _, _ => false
def okE (x y : D) : Bool := scalD x y || (x.nd && y.nd && SeqAt.shaped x.py && SeqAt.shaped y.py)
def eqD (x y : D) : Option D := if okE x y = true then some (.bl (x.eqv y)) else none
def neD (x y : D) : Option D := if okE x y = true then some (.bl (!x.eqv y)) else none
def rEqG (K : PySem.W.Frag) : R2 := fun x y H Q => rEq x y H Q ∨ rEqD K x y H Q
def rNeG (K : PySem.W.Frag) : R2 := fun x y H Q => rNe x y H Q ∨ rNeD K x y H Q
theorem op_eqG {X : Cx} (hu : X.A.units + 64 < cLine) : OpR X (compareOp .Eq) (rEqG X.K) := op_eq.or (op_eqD hu)
theorem op_neG {X : Cx} (hu : X.A.units + 64 < cLine) : OpR X (compareOp .NotEq) (rNeG X.K) := op_ne.or (op_neD hu)
theorem scal_of {G H : Hp} {x y : D} {u v : V} {fx fy : Fp} (rx : Ro K G H x u fx) (ry : Ro K G H y v fy) (c : scalD x y = true) : scal u v = true ∧ decide (u = v) = x.eqv y := by
  cases x <;> cases y <;> first
    | (exact absurd c Bool.false_ne_true)
    | (obtain ⟨rfl, _⟩ := rx; obtain ⟨rfl, _⟩ := ry; refine ⟨rfl, ?_⟩; simp [D.eqv, D.py, PyData.eqv, decide_eq_decide] <;> rfl)
theorem rel_eq : OpRel K (rEqG K) eqD := .mk0 fun G H x y u v fx fy d S rx ry e Q q => by
  obtain ⟨c, rfl⟩ := ite_some e
  rcases Bool.or_eq_true_iff.mp c with c | c
  · obtain ⟨h1, h2⟩ := scal_of rx ry c
    exact .inl ⟨h1, by rw [h2]; exact q _ ⟨rfl, rfl⟩⟩
  · simp only [Bool.and_eq_true] at c
    exact .inr ⟨x.py, y.py, rx.dp S x u fx c.1.1.1, ry.dp S y v fy c.1.1.2, c.1.2, c.2, q _ ⟨rfl, rfl⟩⟩
theorem rel_ne : OpRel K (rNeG K) neD := .mk0 fun G H x y u v fx fy d S rx ry e Q q => by
  obtain ⟨c, rfl⟩ := ite_some e
  rcases Bool.or_eq_true_iff.mp c with c | c
  · obtain ⟨h1, h2⟩ := scal_of rx ry c
    exact .inl ⟨h1, by rw [h2]; exact q _ ⟨rfl, rfl⟩⟩
  · simp only [Bool.and_eq_true] at c
    exact .inr ⟨x.py, y.py, rx.dp S x u fx c.1.1.1, ry.dp S y v fy c.1.1.2, c.1.2, c.2, q _ ⟨rfl, rfl⟩⟩
/-- is None -/
def isnD (x y : D) : Option D := if y.isN = true then some (.bl x.isN) else none
def notnD (x y : D) : Option D := if y.isN = true then some (.bl (!x.isN)) else none
theorem Ro.isN {G H : Hp} {x : D} {u : V} {f : Fp} (r : Ro K G H x u f) : decide (u = .non) = x.isN := by
  cases x with
  | tup xs => obtain ⟨a, _, rfl, _⟩ := r; rfl
  | lst o xs => obtain ⟨a, _, _, rfl, _⟩ := r; rfl
  | dic o ks vs => obtain ⟨a, _, _, _, rfl, _⟩ := r; rfl
  | _ => obtain ⟨rfl, _⟩ := r; rfl
theorem Ro.isN' {G H : Hp} {x : D} {u : V} {f : Fp} (r : Ro K G H x u f) (c : x.isN = true) : u = .non := by
  have h := r.isN
  rw [c] at h
  exact of_decide_eq_true h
theorem rel_isn : OpRel K (fun x y H Q => y = .non ∧ Q (.bl (decide (x = .non))) H) isnD := .mk0 fun G H x y u v fx fy d S rx ry e Q q => by
  obtain ⟨c, rfl⟩ := ite_some e
  exact ⟨ry.isN' c, by rw [rx.isN]; exact q _ ⟨rfl, rfl⟩⟩
theorem rel_notn : OpRel K (fun x y H Q => y = .non ∧ Q (.bl (!decide (x = .non))) H) notnD := .mk0 fun G H x y u v fx fy d S rx ry e Q q => by
  obtain ⟨c, rfl⟩ := ite_some e
  exact ⟨ry.isN' c, by rw [rx.isN]; exact q _ ⟨rfl, rfl⟩⟩

/-! ### in -/
def flatD : D → Bool
  | .non => true | .bl _ => true | .int _ => true | .str _ => true
  | _ => false
def okI (x : D) (o : Bool) (xs : List D) : Bool := (flatD x && xs.all flatD) || (o && (x.nd && nds xs && SeqAt.shaped x.py && SeqAt.shaped (.list (pys xs))))
def inS (neg : Bool) (x y : D) : Option D := match y with
  | .lst _ xs => if okI x true xs = true then some (.bl (if neg = true then !xs.any fun z => z.eqv x else xs.any fun z => z.eqv x)) else none
  | .tup xs => if okI x false xs = true then some (.bl (if neg = true then !xs.any fun z => z.eqv x else xs.any fun z => z.eqv x)) else none
  | _ => none
theorem Ro.flat {G H : Hp} {x : D} {u : V} {f : Fp} (r : Ro K G H x u f) (c : flatD x = true) : flatV u = true := by
  cases x <;> first
    | (exact absurd c Bool.false_ne_true)
    | (obtain ⟨rfl, _⟩ := r; rfl)
theorem flat_eq {G H : Hp} {x y : D} {u v : V} {fx fy : Fp} (rx : Ro K G H x u fx) (ry : Ro K G H y v fy) (cx : flatD x = true) (cy : flatD y = true) : eqV u v = x.eqv y := by
  cases x <;> cases y <;> first
    | (exact absurd cx Bool.false_ne_true)
    | (exact absurd cy Bool.false_ne_true)
    | (obtain ⟨rfl, _⟩ := rx; obtain ⟨rfl, _⟩ := ry; simp [D.eqv, D.py, PyData.eqv, eqV])
theorem Ros.flat {G H : Hp} : ∀ {xs : List D} {vs : List V} {f : Fp}, Ros K G H xs vs f → xs.all flatD = true → vs.all flatV = true
  | [], _, _, ⟨e, _⟩, _ => by rw [e]; rfl
  | x :: xs, _, _, ⟨v, ws, g, h, e1, e2, e3, e4⟩, c => by
    rw [List.all_cons, Bool.and_eq_true] at c
    rw [e1, List.all_cons, e2.flat c.1, Ros.flat e3 c.2]
    rfl
theorem Ros.inV {G H : Hp} {x : D} {u : V} {fx : Fp} (rx : Ro K G H x u fx) (cx : flatD x = true) : ∀ {xs : List D} {vs : List V} {f : Fp}, Ros K G H xs vs f → xs.all flatD = true → L2.inV u vs = xs.any fun z => z.eqv x
  | [], _, _, ⟨e, _⟩, _ => by rw [e]; rfl
  | y :: xs, _, _, ⟨v, ws, g, h, e1, e2, e3, e4⟩, c => by
    rw [List.all_cons, Bool.and_eq_true] at c
    have ih := Ros.inV rx cx e3 c.2
    unfold L2.inV at ih ⊢
    rw [e1, List.any_cons, List.any_cons, ih, flat_eq e2 rx c.1 cx]
def rInG (K : PySem.W.Frag) : R2 := fun x y H Q => rIn K false x y H Q ∨ rInD K x y H Q
def rNotInG (K : PySem.W.Frag) : R2 := fun x y H Q => rIn K true x y H Q ∨ rNotInD K x y H Q
theorem op_inG {X : Cx} (hu : X.A.units + 65 < cLine) : OpR X (compareOp .In) (rInG X.K) := op_in_seq.or (op_inD hu)
theorem op_notInG {X : Cx} (hu : X.A.units + 65 < cLine) : OpR X (compareOp .NotIn) (rNotInG X.K) := op_notIn_seq.or (op_notInD hu)
theorem any_py (x : D) : ∀ xs : List D, (pys xs).any (fun z => PyData.eqv z x.py) = xs.any fun z => z.eqv x
  | [] => rfl
  | y :: xs => by
    rw [pys, List.any_cons, List.any_cons, any_py x xs]
    rfl
theorem rel_in_aux {neg : Bool} {r : R2} (h1 : ∀ x y H Q, rIn K neg x y H Q → r x y H Q)
    (h2 : ∀ x y H Q, (∃ d ds, Dp K H x d ∧ Dp K H y (.list ds) ∧ SeqAt.shaped d = true ∧ SeqAt.shaped (.list ds) = true ∧ Q (.bl (if neg = true then !ds.any fun z => PyData.eqv z d else ds.any fun z => PyData.eqv z d)) H) → r x y H Q) : OpRel K r (inS neg) := .mk0 fun G H x y u v fx fy d S rx ry e Q q => by
  cases y with
  | lst o xs =>
    obtain ⟨c, rfl⟩ := ite_some e
    rcases Bool.or_eq_true_iff.mp c with c | c
    · obtain ⟨a, vs, g, rfl, h, rs⟩ := ry.lstV S
      obtain ⟨c1, c2⟩ := Bool.and_eq_true_iff.mp c
      exact h1 _ _ _ _ ⟨a, vs, rfl, .inl h, rx.flat c1, rs.flat c2, by rw [Ros.inV rx c1 rs c2]; exact q _ ⟨rfl, rfl⟩⟩
    · simp only [Bool.and_eq_true] at c
      have p : Dp K H v (.list (pys xs)) := ry.dp S _ v fy (by rw [D.nd]; exact c.2.1.1.2)
      exact h2 _ _ _ _ ⟨x.py, pys xs, rx.dp S x u fx c.2.1.1.1, p, c.2.1.2, c.2.2, by rw [any_py]; exact q _ ⟨rfl, rfl⟩⟩
  | tup xs =>
    obtain ⟨c, rfl⟩ := ite_some e
    rcases Bool.or_eq_true_iff.mp c with c | c
    · obtain ⟨a, vs, rfl, h, rs⟩ := ry
      obtain ⟨c1, c2⟩ := Bool.and_eq_true_iff.mp c
      exact h1 _ _ _ _ ⟨a, vs, rfl, .inr (same_t S h), rx.flat c1, rs.flat c2, by rw [Ros.inV rx c1 rs c2]; exact q _ ⟨rfl, rfl⟩⟩
    · exact absurd (Bool.and_eq_true_iff.mp c).1 Bool.false_ne_true
  | _ => cases e
abbrev inD := inS false
abbrev ninD := inS true
theorem rel_in : OpRel K (rInG K) inD := rel_in_aux (fun _ _ _ _ h => .inl h) fun _ _ _ _ h => .inr h
theorem rel_nin : OpRel K (rNotInG K) ninD := rel_in_aux (fun _ _ _ _ h => .inl h) fun _ _ _ _ h => .inr h

/-! ### an item, a part -/
theorem Ros.get {G H : Hp} : ∀ {xs : List D} {vs : List V} {f : Fp} {j : Nat} {x : D}, Ros K G H xs vs f → xs[j]? = some x → ∃ v g, vs[j]? = some v ∧ Ro K G H x v g
  | [], _, _, j, x, _, e => by simp at e
  | y :: xs, _, _, 0, x, ⟨v, ws, g, h, e1, e2, e3, e4⟩, e => by
    have e' : y = x := by simpa using e
    subst e' e1
    exact ⟨v, g, by simp, e2⟩
  | y :: xs, _, _, j + 1, x, ⟨v, ws, g, h, e1, e2, e3, e4⟩, e => by
    subst e1
    obtain ⟨w, g', h1, h2⟩ := Ros.get e3 (by simpa using e)
    exact ⟨w, g', by simpa using h1, h2⟩
theorem atI_of {A B : Type} {xs : List A} {vs : List B} {i : Int} {x : A} (hl : vs.length = xs.length) (h : atI xs i = some x) : ∃ j : Nat, xs[j]? = some x ∧ ∀ v, vs[j]? = some v → atI vs i = some v := by
  unfold atI at h ⊢
  cases e : ixN xs.length i with
  | none => rw [e] at h; cases h
  | some j =>
    rw [e] at h
    exact ⟨j, h, fun v hv => by rw [hl, e]; exact hv⟩
/-- xs[i] -/
def ixD : D → D → Option D
  | .tup xs, .int i => atI xs i
  | .lst _ xs, .int i => atI xs i
  | .str s, .int i => if s.length ≤ big then (atI s.cps.toList i).map fun c => .str ⟨#[c]⟩ else none
  | _, _ => none
def OpRelB (K : PySem.W.Frag) (r : R2) (g : D → D → Option D) : Prop :=
  ∀ G H x y u v fx fy d, Same G H → Ro K G H x u fx → Ro K G H y v fy → g x y = some d → ∀ Q : VK, (∀ w fw, Ro K G H d w fw → Q w H) → r u v H Q
theorem rel_ixB : OpRelB K (rIx K) ixD := fun G H x y u v fx fy d S rx ry e Q q => by
  cases y with
  | int i =>
    obtain ⟨rfl, _⟩ := ry
    cases x with
    | tup xs =>
      obtain ⟨a, vs, rfl, h, rs⟩ := rx
      obtain ⟨j, h1, h2⟩ := atI_of (vs := vs) rs.len (show atI xs i = some d from e)
      obtain ⟨w, g, h3, h4⟩ := rs.get h1
      exact .inr (.inl ⟨a, vs, i, w, rfl, rfl, same_t S h, h2 w h3, q w g h4⟩)
    | lst o xs =>
      obtain ⟨a, vs, f, rfl, h, rs⟩ := rx.lstV S
      obtain ⟨j, h1, h2⟩ := atI_of (vs := vs) rs.len (show atI xs i = some d from e)
      obtain ⟨w, g, h3, h4⟩ := rs.get h1
      exact .inl ⟨a, vs, i, w, rfl, rfl, h, h2 w h3, q w g h4⟩
    | str s =>
      obtain ⟨rfl, _⟩ := rx
      have e' : (if s.length ≤ big then (atI s.cps.toList i).map fun c => D.str ⟨#[c]⟩ else none) = some d := e
      by_cases c : s.length ≤ big
      · rw [if_pos c] at e'
        cases e2 : atI s.cps.toList i with
        | none => rw [e2] at e'; cases e'
        | some k =>
          rw [e2] at e'
          cases e'
          exact .inr (.inr ⟨s, i, k, rfl, rfl, big_line c, e2, q _ fz ⟨rfl, rfl⟩⟩)
      · rw [if_neg c] at e'; cases e'
    | _ => cases e
  | _ => cases x <;> cases e
theorem rel_opB {E : XK} {ps : List Nat} {p1 f1 p2 f2 : Bool} {r : R2} {g : D → D → Option D} {ta tb : TE} {Fa Fb : FE} (hr : OpRelB K r g) (ha : RelE E K ps p1 f1 ta Fa) (hb : RelE E K ps p2 f2 tb Fb) (hc : (p2 || f1) = true := by rfl) :
    RelE E K ps (p1 && p2) false (tOp r ta tb) (fBin g Fa Fb) := by
  intro pa G H σ env fp S Q w
  refine ha pa G H σ env fp S _ (R.wp_mono (R.wp_bind w) (fun r1 w1 v1 G1 H1 fp1 fv1 P1 => ?_) fun _ x => x)
  refine hb pa G1 H1 σ r1.2 fp1 P1.sr _ (R.wp_mono (R.wp_bind w1) (fun r2 w2 v2 G2 H2 fp2 fv2 P2 => ?_) fun _ x => XW.mono P1.stp x)
  have c : p2 = true ∨ ∀ b, fp1 b + fv1 b ≤ 1 := by
    rcases Bool.or_eq_true_iff.mp hc with z | z
    · exact .inl z
    · exact .inr (P1.one z)
  obtain ⟨d, e, w3⟩ := R.wp_of (R.wp_bind w2)
  refine hr G2 H2 r1.1 r2.1 v1 v2 fv1 fv2 d P2.sr.sub (P1.ro.carry P2 c) P2.ro e Q fun v fv r3 => w3 v G2 H2 fp2 fv ?_
  have P3 := P1.op P2 (Stp.refl P2.sr.sub) (show Ro K G2 H2 (.non) .non fz from ⟨rfl, rfl⟩) (fun _ => Nat.zero_le _)
  exact ⟨P3.sr, r3, P3.stp, P3.pur, fun z => Bool.noConfusion z, fun z => Bool.noConfusion z⟩
end
end Fw
end

section
set_option linter.all false
set_option maxRecDepth 100000
namespace Fw
open PySem PySem.Spec L2

section
variable {E : XK} {K : PySem.W.Frag} {ps : List Nat} {pa : List V} {G H G' H' : Hp} {σ : Sg} {env env' : Env} {fp fp' fv : Fp} {p f p1 f1 p2 f2 p3 f3 : Bool}

/-! ### tests -/
def D.isB : D → Option Bool
  | .bl b => some b
  | _ => none
def fTest (F : FE) : FT := fun env => (F env).bind fun r => (R.of r.1.isB).bind fun b => .ok (b, r.2)
theorem Ro.isB {d : D} {v : V} {b : Bool} (r : Ro K G H d v fv) (e : d.isB = some b) : v = .bl b := by
  cases d with
  | bl c =>
    cases e
    exact r.1
  | _ => cases e
theorem rel_test {t : TE} {F : FE} (h : RelE E K ps p f t F) : RelT E K ps p (tTest t) (fTest F) := by
  intro pa G H σ env fp S Q w
  refine h pa G H σ env fp S _ (R.wp_mono (R.wp_bind w) (fun r w1 v G1 H1 fp1 fv1 P1 => ?_) fun _ x => x)
  obtain ⟨b, e, w2⟩ := R.wp_of (R.wp_bind w1)
  exact ⟨b, P1.ro.isB e, w2 G1 H1 fp1 P1.toT⟩
theorem rel_tB {t : TE} {F : FE} (h : RelE E K ps p f t F) : RelT E K ps p (tB t) (fTest F) := rel_test h
def D.tru : D → Option Bool
  | .non => some false
  | .bl b => some b
  | .int i => some (i != 0)
  | .str s => if s.length ≤ big then some ((s.length : Int) != 0) else none
  | .tup xs => some !xs.isEmpty
  | .lst _ xs => some !xs.isEmpty
  | .dic _ _ _ => none
def fTru (F : FE) : FT := fun env => (F env).bind fun r => (R.of r.1.tru).bind fun b => .ok (b, r.2)
theorem Ros.emp {xs : List D} {vs : List V} (r : Ros K G H xs vs fv) : vs.isEmpty = xs.isEmpty := by
  have h := r.len
  cases xs <;> cases vs <;> first
    | rfl
    | cases h
theorem Ro.tru (S : Same G H) {d : D} {v : V} {b : Bool} (r : Ro K G H d v fv) (e : d.tru = some b) : TruV K v H b := by
  cases d with
  | non => obtain ⟨rfl, _⟩ := r; cases e; rfl
  | bl c => obtain ⟨rfl, _⟩ := r; cases e; rfl
  | int i => obtain ⟨rfl, _⟩ := r; cases e; rfl
  | str s =>
    obtain ⟨rfl, _⟩ := r
    obtain ⟨c, e⟩ := ite_some e
    exact ⟨big_line c, e.symm⟩
  | tup xs =>
    obtain ⟨a, vs, rfl, h, rs⟩ := r
    cases e
    exact .inr (.inl ⟨vs, same_t S h, by rw [rs.emp]⟩)
  | lst o xs =>
    obtain ⟨a, vs, g, rfl, h, rs⟩ := r.lstV S
    cases e
    exact .inl ⟨vs, h, by rw [rs.emp]⟩
  | dic o ks vs => cases e
def tTruth (K : PySem.W.Frag) (t : TE) : TT := fun σ H Q => t σ H fun x H1 => ∃ k, TruV K x H1 k ∧ Q k H1
theorem rel_tru {t : TE} {F : FE} (h : RelE E K ps p f t F) : RelT E K ps p (fun σ H Q => t σ H fun x H1 => ∃ k, TruV K x H1 k ∧ Q k H1) (fTru F) := by
  intro pa G H σ env fp S Q w
  refine h pa G H σ env fp S _ (R.wp_mono (R.wp_bind w) (fun r w1 v G1 H1 fp1 fv1 P1 => ?_) fun _ x => x)
  obtain ⟨b, e, w2⟩ := R.wp_of (R.wp_bind w1)
  exact ⟨b, P1.ro.tru P1.sr.sub e, w2 G1 H1 fp1 P1.toT⟩
def fNot (F : FT) : FT := fun env => (F env).bind fun r => .ok (!r.1, r.2)
theorem rel_not {t : TT} {F : FT} (h : RelT E K ps p t F) : RelT E K ps p (tNot t) (fNot F) := by
  intro pa G H σ env fp S Q w
  exact h pa G H σ env fp S _ (R.wp_mono (R.wp_bind w) (fun r w1 G1 H1 fp1 P1 => w1 G1 H1 fp1 P1) fun _ x => x)
theorem PostT.trans {env1 env2 : Env} {G1 H1 G2 H2 : Hp} {fp1 fp2 : Fp} (P : PostT K ps pa p1 G H σ env fp env1 G1 H1 fp1) (P2 : PostT K ps pa p2 G1 H1 σ env1 fp1 env2 G2 H2 fp2) : PostT K ps pa (p1 && p2) G H σ env fp env2 G2 H2 fp2 :=
  ⟨P2.sr, P.stp.trans P2.stp, fun z => by
    obtain ⟨z1, z2⟩ := Bool.and_eq_true_iff.mp z
    obtain ⟨a1, a2, a3⟩ := P.pur z1
    obtain ⟨b1, b2, b3⟩ := P2.pur z2
    exact ⟨b1.trans a1, b2.trans a2, a3.trans b3⟩⟩
theorem PostT.weak {env1 : Env} {G1 H1 : Hp} {fp1 : Fp} (P : PostT K ps pa p1 G H σ env fp env1 G1 H1 fp1) (h : p2 = true → p1 = true) : PostT K ps pa p2 G H σ env fp env1 G1 H1 fp1 := ⟨P.sr, P.stp, fun z => P.pur (h z)⟩
def fAnd (Fa Fb : FT) : FT := fun env => (Fa env).bind fun r => if r.1 = true then Fb r.2 else .ok (false, r.2)
def fOr (Fa Fb : FT) : FT := fun env => (Fa env).bind fun r => if r.1 = true then .ok (true, r.2) else Fb r.2
theorem rel_and {ta tb : TT} {Fa Fb : FT} (ha : RelT E K ps p1 ta Fa) (hb : RelT E K ps p2 tb Fb) : RelT E K ps (p1 && p2) (tAnd ta tb) (fAnd Fa Fb) := by
  intro pa G H σ env fp S Q w
  refine ha pa G H σ env fp S _ (R.wp_mono (R.wp_bind w) (fun r w1 G1 H1 fp1 P1 => ?_) fun _ x => x)
  by_cases c : r.1 = true
  · rw [if_pos c] at w1 ⊢
    exact hb pa G1 H1 σ r.2 fp1 P1.sr Q (R.wp_mono w1 (fun r2 w2 G2 H2 fp2 P2 => w2 G2 H2 fp2 (P1.trans P2)) fun _ x => XW.mono P1.stp x)
  · rw [if_neg c] at w1 ⊢
    exact w1 G1 H1 fp1 (P1.weak fun z => (Bool.and_eq_true_iff.mp z).1)
theorem rel_or {ta tb : TT} {Fa Fb : FT} (ha : RelT E K ps p1 ta Fa) (hb : RelT E K ps p2 tb Fb) : RelT E K ps (p1 && p2) (tOr ta tb) (fOr Fa Fb) := by
  intro pa G H σ env fp S Q w
  refine ha pa G H σ env fp S _ (R.wp_mono (R.wp_bind w) (fun r w1 G1 H1 fp1 P1 => ?_) fun _ x => x)
  by_cases c : r.1 = true
  · rw [if_pos c] at w1 ⊢
    exact w1 G1 H1 fp1 (P1.weak fun z => (Bool.and_eq_true_iff.mp z).1)
  · rw [if_neg c] at w1 ⊢
    exact hb pa G1 H1 σ r.2 fp1 P1.sr Q (R.wp_mono w1 (fun r2 w2 G2 H2 fp2 P2 => w2 G2 H2 fp2 (P1.trans P2)) fun _ x => XW.mono P1.stp x)
/-- behind a test, a value -/
theorem PostT.thenE {env1 env2 : Env} {G1 H1 G2 H2 : Hp} {fp1 fp2 fv2 : Fp} {d : D} {v : V} (P : PostT K ps pa p1 G H σ env fp env1 G1 H1 fp1) (P2 : PostE K ps pa p2 f2 G1 H1 σ env1 fp1 d env2 v G2 H2 fp2 fv2)
    (hp : p = true → p1 = true ∧ p2 = true) (hf : f = true → f2 = true) : PostE K ps pa p f G H σ env fp d env2 v G2 H2 fp2 fv2 :=
  ⟨P2.sr, P2.ro, P.stp.trans P2.stp, fun z => by
    obtain ⟨a1, a2, a3⟩ := P.pur (hp z).1
    obtain ⟨b1, b2, b3⟩ := P2.pur (hp z).2
    exact ⟨b1.trans a1, b2.trans a2, a3.trans b3⟩, fun z => P2.one (hf z), fun z b hb => by
    rcases P2.own (hf z) b hb with ⟨w1, w2⟩ | w
    · rcases P.stp.new b w2 with w | w
      · exact .inl ⟨by
          by_cases q : p = true
          · rw [(hp q).2] at w1; cases w1
          · exact Bool.not_eq_true p ▸ q |> fun z => by simpa using z, w⟩
      · exact .inr w
    · exact .inr (P.stp.fre b w)⟩
/-- a if t else b -/
def fIf (C : FT) (Fa Fb : FE) : FE := fun env => (C env).bind fun r => if r.1 = true then Fa r.2 else Fb r.2
theorem rel_if {c : TT} {ta tb : TE} {C : FT} {Fa Fb : FE} (hc : RelT E K ps p1 c C) (ha : RelE E K ps p2 f2 ta Fa) (hb : RelE E K ps p3 f3 tb Fb) : RelE E K ps (p1 && (p2 && p3)) (f2 && f3) (tIf c ta tb) (fIf C Fa Fb) := by
  intro pa G H σ env fp S Q w
  refine hc pa G H σ env fp S _ (R.wp_mono (R.wp_bind w) (fun r w1 G1 H1 fp1 P1 => ?_) fun _ x => x)
  by_cases c : r.1 = true
  · rw [if_pos c] at w1 ⊢
    refine ha pa G1 H1 σ r.2 fp1 P1.sr Q (R.wp_mono w1 (fun r2 w2 v G2 H2 fp2 fv2 P2 => w2 v G2 H2 fp2 fv2 (P1.thenE P2 (fun z => ?_) fun z => (Bool.and_eq_true_iff.mp z).1)) fun _ x => XW.mono P1.stp x)
    obtain ⟨z1, z2⟩ := Bool.and_eq_true_iff.mp z
    exact ⟨z1, (Bool.and_eq_true_iff.mp z2).1⟩
  · rw [if_neg c] at w1 ⊢
    refine hb pa G1 H1 σ r.2 fp1 P1.sr Q (R.wp_mono w1 (fun r2 w2 v G2 H2 fp2 fv2 P2 => w2 v G2 H2 fp2 fv2 (P1.thenE P2 (fun z => ?_) fun z => (Bool.and_eq_true_iff.mp z).2)) fun _ x => XW.mono P1.stp x)
    obtain ⟨z1, z2⟩ := Bool.and_eq_true_iff.mp z
    exact ⟨z1, (Bool.and_eq_true_iff.mp z2).2⟩
/-- and, or, not of bools, as values: by the tests -/
def fVal (C : FT) : FE := fun env => (C env).bind fun r => .ok (.bl r.1, r.2)
theorem rel_andV {ta tb : TE} {Fa Fb : FE} (ha : RelE E K ps p1 f1 ta Fa) (hb : RelE E K ps p2 f2 tb Fb) : RelE E K ps (p1 && p2) false (tAndV ta tb) (fun env => (fTest Fa env).bind fun r => if r.1 = true then Fb r.2 else .ok (.bl false, r.2)) := by
  intro pa G H σ env fp S Q w
  refine ha pa G H σ env fp S _ (R.wp_mono (R.wp_bind (R.wp_bind w)) (fun r w1 v G1 H1 fp1 fv1 P1 => ?_) fun _ x => x)
  obtain ⟨b, e, w2⟩ := R.wp_of (R.wp_bind w1)
  refine ⟨b, P1.ro.isB e, ?_⟩
  have w3 : (if b = true then Fb r.2 else R.ok (D.bl false, r.2)).wp _ _ := w2
  by_cases c : b = true
  · rw [if_pos c] at w3 ⊢
    exact hb pa G1 H1 σ r.2 fp1 P1.sr Q (R.wp_mono w3 (fun r2 w4 v G2 H2 fp2 fv2 P2 => w4 v G2 H2 fp2 fv2 (P1.toT.thenE P2 (fun z => Bool.and_eq_true_iff.mp z) fun z => Bool.noConfusion z)) fun _ x => XW.mono P1.stp x)
  · rw [if_neg c] at w3 ⊢
    exact w3 _ G1 H1 fp1 fz ⟨P1.sr, ⟨rfl, rfl⟩, P1.stp, fun z => P1.pur (Bool.and_eq_true_iff.mp z).1, fun z => Bool.noConfusion z, fun z => Bool.noConfusion z⟩
theorem rel_orV {ta tb : TE} {Fa Fb : FE} (ha : RelE E K ps p1 f1 ta Fa) (hb : RelE E K ps p2 f2 tb Fb) : RelE E K ps (p1 && p2) false (tOrV ta tb) (fun env => (fTest Fa env).bind fun r => if r.1 = true then .ok (.bl true, r.2) else Fb r.2) := by
  intro pa G H σ env fp S Q w
  refine ha pa G H σ env fp S _ (R.wp_mono (R.wp_bind (R.wp_bind w)) (fun r w1 v G1 H1 fp1 fv1 P1 => ?_) fun _ x => x)
  obtain ⟨b, e, w2⟩ := R.wp_of (R.wp_bind w1)
  refine ⟨b, P1.ro.isB e, ?_⟩
  have w3 : (if b = true then R.ok (D.bl true, r.2) else Fb r.2).wp _ _ := w2
  by_cases c : b = true
  · rw [if_pos c] at w3 ⊢
    exact w3 _ G1 H1 fp1 fz ⟨P1.sr, ⟨rfl, rfl⟩, P1.stp, fun z => P1.pur (Bool.and_eq_true_iff.mp z).1, fun z => Bool.noConfusion z, fun z => Bool.noConfusion z⟩
  · rw [if_neg c] at w3 ⊢
    exact hb pa G1 H1 σ r.2 fp1 P1.sr Q (R.wp_mono w3 (fun r2 w4 v G2 H2 fp2 fv2 P2 => w4 v G2 H2 fp2 fv2 (P1.toT.thenE P2 (fun z => Bool.and_eq_true_iff.mp z) fun z => Bool.noConfusion z)) fun _ x => XW.mono P1.stp x)
def fAndV (Fa Fb : FE) : FE := fun env => (fTest Fa env).bind fun r => if r.1 = true then Fb r.2 else .ok (.bl false, r.2)
def fOrV (Fa Fb : FE) : FE := fun env => (fTest Fa env).bind fun r => if r.1 = true then .ok (.bl true, r.2) else Fb r.2
theorem rel_andv {ta tb : TE} {Fa Fb : FE} (ha : RelE E K ps p1 f1 ta Fa) (hb : RelE E K ps p2 f2 tb Fb) : RelE E K ps (p1 && p2) false (tAndV ta tb) (fAndV Fa Fb) := rel_andV ha hb
theorem rel_orv {ta tb : TE} {Fa Fb : FE} (ha : RelE E K ps p1 f1 ta Fa) (hb : RelE E K ps p2 f2 tb Fb) : RelE E K ps (p1 && p2) false (tOrV ta tb) (fOrV Fa Fb) := rel_orV ha hb
def fNotV (Fa : FE) : FE := fun env => (fTest Fa env).bind fun r => .ok (.bl (!r.1), r.2)
theorem rel_notv {ta : TE} {Fa : FE} (ha : RelE E K ps p1 f1 ta Fa) : RelE E K ps p1 true (tNotV ta) (fNotV Fa) := by
  intro pa G H σ env fp S Q w
  refine ha pa G H σ env fp S _ (R.wp_mono (R.wp_bind (R.wp_bind w)) (fun r w1 v G1 H1 fp1 fv1 P1 => ?_) fun _ x => x)
  obtain ⟨b, e, w2⟩ := R.wp_of (R.wp_bind w1)
  exact ⟨b, P1.ro.isB e, w2 _ G1 H1 fp1 fz (P1.op1 (Stp.refl P1.sr.sub) ⟨rfl, rfl⟩ fun _ => Nat.zero_le _)⟩

/-! ### rows of values -/
abbrev FA := Env → R (List D × Env)
structure PostA (K : PySem.W.Frag) (ps : List Nat) (pa : List V) (p : Bool) (G H : Hp) (σ : Sg) (env : Env) (fp : Fp) (ds : List D) (env' : Env) (vs : List V) (G' H' : Hp) (fp' fv : Fp) : Prop where
  sr : SR K ps pa G' H' σ env' fp'
  ro : Ros K G' H' ds vs fv
  stp : Stp G H fp G' H' fp'
  pur : p = true → env' = env ∧ fp' = fp ∧ Stp G H fz G' H' fz
  one : ∀ b, fp' b + fv b ≤ 1
  own : ∀ b, fv b ≠ 0 → (p = false ∧ fp b ≠ 0) ∨ H b = none
def RelA (E : XK) (K : PySem.W.Frag) (ps : List Nat) (p : Bool) (t : TA) (F : FA) : Prop :=
  ∀ pa G H σ env fp, SR K ps pa G H σ env fp → ∀ Q : List V → Hp → Prop, (F env).wp (fun r => ∀ vs G' H' fp' fv, PostA K ps pa p G H σ env fp r.1 r.2 vs G' H' fp' fv → Q vs H') (XW E K G H fp) → t σ H Q
def fNil : FA := fun env => .ok ([], env)
def fCons (Fa : FE) (Fr : FA) : FA := fun env => (Fa env).bind fun r => (Fr r.2).bind fun s => .ok (r.1 :: s.1, s.2)
theorem rel_nil : RelA E K ps true tNil fNil := by
  intro pa G H σ env fp S Q w
  exact w [] G H fp fz ⟨S, ⟨rfl, rfl⟩, Stp.refl S.sub, fun _ => ⟨rfl, rfl, Stp.refl S.sub⟩, S.one, fun b h => absurd rfl h⟩
theorem rel_cons {ta : TE} {tr : TA} {Fa : FE} {Fr : FA} (ha : RelE E K ps p1 true ta Fa) (hr : RelA E K ps p2 tr Fr) : RelA E K ps (p1 && p2) (tCons ta tr) (fCons Fa Fr) := by
  intro pa G H σ env fp S Q w
  refine ha pa G H σ env fp S _ (R.wp_mono (R.wp_bind w) (fun r w1 v G1 H1 fp1 fv1 P1 => ?_) fun _ x => x)
  refine hr pa G1 H1 σ r.2 fp1 P1.sr _ (R.wp_mono (R.wp_bind w1) (fun r2 w2 vs G2 H2 fp2 fv2 P2 => ?_) fun _ x => XW.mono P1.stp x)
  have one1 := P1.one rfl
  have kv : ∀ b, fv1 b ≠ 0 → H2 b = H1 b ∧ G2 b = G1 b := fun b hb => by
    obtain ⟨_, o, ho, _⟩ := P1.ro.own r.1 v fv1 b hb
    obtain ⟨h1, h2⟩ := P2.stp.keep b o ho (by have := one1 b; omega)
    exact ⟨h1.trans ho.symm, h2⟩
  have r1 := P1.ro.mono P2.stp.gg r.1 v fv1 kv
  have ex1 : ∀ b, fv1 b ≠ 0 → fv2 b = 0 ∧ fp2 b = 0 := fun b hb => by
    obtain ⟨_, o, ho, _⟩ := P1.ro.own r.1 v fv1 b hb
    have z : fp1 b = 0 := by have := one1 b; omega
    constructor
    · by_cases q : fv2 b = 0
      · exact q
      · rcases P2.own b q with ⟨_, w⟩ | w
        · exact absurd z w
        · rw [ho] at w; cases w
    · by_cases q : fp2 b = 0
      · exact q
      · rcases P2.stp.new b q with w | w
        · exact absurd z w
        · rw [ho] at w; cases w
  refine w2 (v :: vs) G2 H2 fp2 (fAdd fv1 fv2) ⟨P2.sr, ⟨v, vs, fv1, fv2, rfl, r1, P2.ro, rfl⟩, P1.stp.trans P2.stp, fun z => ?_, fun b => ?_, fun b hb => ?_⟩
  · obtain ⟨z1, z2⟩ := Bool.and_eq_true_iff.mp z
    obtain ⟨a1, a2, a3⟩ := P1.pur z1
    obtain ⟨b1, b2, b3⟩ := P2.pur z2
    exact ⟨b1.trans a1, b2.trans a2, a3.trans b3⟩
  · show fp2 b + (fv1 b + fv2 b) ≤ 1
    by_cases q : fv1 b = 0
    · have := P2.one b
      omega
    · obtain ⟨e1, e2⟩ := ex1 b q
      have := one1 b
      omega
  · have hb' : fv1 b + fv2 b ≠ 0 := hb
    by_cases q : fv1 b = 0
    · rcases P2.own b (by omega) with ⟨w1, w2⟩ | w
      · rcases P1.stp.new b w2 with w | w
        · refine .inl ⟨?_, w⟩
          rw [w1, Bool.and_false]
        · exact .inr w
      · exact .inr (P1.stp.fre b w)
    · rcases P1.own rfl b q with ⟨w1, w2⟩ | w
      · refine .inl ⟨?_, w2⟩
        rw [w1, Bool.false_and]
      · exact .inr w
def fTup (F : FA) : FE := fun env => (F env).bind fun r => if r.1.length ≤ big then .ok (.tup r.1, r.2) else .no
def fLst (F : FA) : FE := fun env => (F env).bind fun r => if r.1.length ≤ big then .ok (.lst true r.1, r.2) else .no
/-- the last step of a display: a new object around what was made -/
theorem PostA.close {ds : List D} {vs : List V} {G1 H1 G3 H3 : Hp} {fp1 fv1 fv : Fp} {d : D} {v : V} (P : PostA K ps pa p G H σ env fp ds env' vs G1 H1 fp1 fv1) (s : Stp G1 H1 fz G3 H3 fz) (r : Ro K G3 H3 d v fv)
    (ho : ∀ b, fv b = fv1 b ∨ (fv b ≤ 1 ∧ H1 b = none)) : PostE K ps pa p true G H σ env fp d env' v G3 H3 fp1 fv where
  sr := P.sr.kept s
  ro := r
  stp := P.stp.trans s.ofP
  pur := fun z => by
    obtain ⟨a1, a2, a3⟩ := P.pur z
    exact ⟨a1, a2, a3.trans s⟩
  one := fun _ b => by
    rcases ho b with e | ⟨e1, e2⟩
    · rw [e]; exact P.one b
    · have : fp1 b = 0 := by
        by_cases q : fp1 b = 0
        · exact q
        · obtain ⟨_, o, ho, _⟩ := P.sr.rs.own b q
          rw [ho] at e2; cases e2
      omega
  own := fun _ b hb => by
    rcases ho b with e | ⟨e1, e2⟩
    · exact P.own b (by rw [← e]; exact hb)
    · exact .inr (P.stp.fre b e2)
theorem rel_tup {t : TA} {F : FA} (h : RelA E K ps p t F) : RelE E K ps p true (tTup t) (fTup F) := by
  intro pa G H σ env fp S Q w
  refine h pa G H σ env fp S _ (R.wp_mono (R.wp_bind w) (fun r w1 vs G1 H1 fp1 fv1 P1 => ?_) fun _ x => x)
  by_cases c : r.1.length ≤ big
  · rw [if_pos c] at w1
    refine ⟨big_line (by rw [P1.ro.len]; exact c), fun q hq => w1 _ _ _ fp1 fv1 (P1.close (Stp.newF P1.sr.sub hq) (new_tupF P1.sr.sub P1.ro hq) fun b => .inl rfl)⟩
  · rw [if_neg c] at w1
    exact w1.elim
theorem rel_lst {t : TA} {F : FA} (h : RelA E K ps p t F) : RelE E K ps p true (tLst t) (fLst F) := by
  intro pa G H σ env fp S Q w
  refine h pa G H σ env fp S _ (R.wp_mono (R.wp_bind w) (fun r w1 vs G1 H1 fp1 fv1 P1 => ?_) fun _ x => x)
  by_cases c : r.1.length ≤ big
  · rw [if_pos c] at w1
    refine ⟨big_line (by rw [P1.ro.len]; exact c), fun q hq => w1 _ _ _ fp1 (fAt true q fv1) (P1.close ((Stp.newO P1.sr.sub hq).noF) (new_lstF P1.sr.sub P1.ro hq) fun b => ?_)⟩
    by_cases e : b = q
    · subst e
      refine .inr ⟨?_, hq⟩
      have z : fv1 b = 0 := by
        by_cases k : fv1 b = 0
        · exact k
        · obtain ⟨_, o, ho, _⟩ := P1.ro.own r.1 vs fv1 b k
          rw [ho] at hq; cases hq
      simp [fAt, z]
    · refine .inl ?_
      simp [fAt, e]
  · rw [if_neg c] at w1
    exact w1.elim

/-! ### parts of lists, tuples, texts -/
abbrev FO := Env → R (Option Int × Env)
def RelO (E : XK) (K : PySem.W.Frag) (ps : List Nat) (p : Bool) (t : TO) (F : FO) : Prop :=
  ∀ pa G H σ env fp, SR K ps pa G H σ env fp → ∀ Q : Option Int → Hp → Prop, (F env).wp (fun r => ∀ G' H' fp', PostT K ps pa p G H σ env fp r.2 G' H' fp' → Q r.1 H') (XW E K G H fp) → t σ H Q
def fNoPart : FO := fun env => .ok (none, env)
def D.isI : D → Option Int
  | .int i => some i
  | _ => none
def fPart (F : FE) : FO := fun env => (F env).bind fun r => (R.of r.1.isI).bind fun i => .ok (some i, r.2)
theorem rel_noPart : RelO E K ps true tNoPart fNoPart := by
  intro pa G H σ env fp S Q w
  exact w G H fp ⟨S, Stp.refl S.sub, fun _ => ⟨rfl, rfl, Stp.refl S.sub⟩⟩
theorem Ro.isI {d : D} {v : V} {b : Int} (r : Ro K G H d v fv) (e : d.isI = some b) : v = .int b := by
  cases d with
  | int c =>
    cases e
    exact r.1
  | _ => cases e
theorem rel_part {t : TE} {F : FE} (h : RelE E K ps p f t F) : RelO E K ps p (tPart t) (fPart F) := by
  intro pa G H σ env fp S Q w
  refine h pa G H σ env fp S _ (R.wp_mono (R.wp_bind w) (fun r w1 v G1 H1 fp1 fv1 P1 => ?_) fun _ x => x)
  obtain ⟨b, e, w2⟩ := R.wp_of (R.wp_bind w1)
  exact ⟨b, P1.ro.isI e, w2 G1 H1 fp1 P1.toT⟩
def cutA {A : Type} (xs : List A) (lo hi : Option Int) : List A := (xs.drop (HT.sIx xs.length 0 lo)).take (HT.sIx xs.length xs.length hi - HT.sIx xs.length 0 lo)
theorem Ros.drop : ∀ {xs : List D} {vs : List V} (n : Nat), Ros K G H xs vs fz → Ros K G H (xs.drop n) (vs.drop n) fz
  | [], _, n, ⟨e, _⟩ => by rw [e, List.drop_nil, List.drop_nil]; exact ⟨rfl, rfl⟩
  | x :: xs, _, 0, r => r
  | x :: xs, _, n + 1, ⟨v, ws, g, h, e1, e2, e3, e4⟩ => by
    have z : h = fz := by
      funext b
      have : fz b = g b + h b := congrFun e4 b
      have z0 : fz b = 0 := rfl
      show h b = 0
      omega
    subst z e1
    exact Ros.drop n e3
theorem Ros.take : ∀ {xs : List D} {vs : List V} (n : Nat), Ros K G H xs vs fz → Ros K G H (xs.take n) (vs.take n) fz
  | [], _, n, ⟨e, _⟩ => by rw [e, List.take_nil, List.take_nil]; exact ⟨rfl, rfl⟩
  | x :: xs, _, 0, r => ⟨rfl, rfl⟩
  | x :: xs, _, n + 1, ⟨v, ws, g, h, e1, e2, e3, e4⟩ => by
    have z : h = fz := by
      funext b
      have : fz b = g b + h b := congrFun e4 b
      have z0 : fz b = 0 := rfl
      show h b = 0
      omega
    subst z e1
    exact ⟨v, _, g, fz, rfl, e2, Ros.take n e3, e4⟩
theorem Ros.cut {xs : List D} {vs : List V} (lo hi : Option Int) (r : Ros K G H xs vs fz) : Ros K G H (cutA xs lo hi) (cutV vs lo hi) fz := by
  unfold cutA cutV
  rw [r.len]
  exact (r.drop _).take _
def rSlG (K : PySem.W.Frag) : V → Option Int → Option Int → Hp → VK → Prop := fun x lo hi H Q => rSlL K x lo hi H Q ∨ (rSlA K x lo hi H Q ∨ rSlS x lo hi H Q)
theorem sl_any {X : Cx} : SlR X (rSlG X.K) := sl_list.or (sl_tupA.or sl_str)
def slD (x : D) (lo hi : Option Int) : Option D := match x with
  | .lst _ xs => if frzs xs = true then some (.lst true (cutA xs lo hi)) else none
  | .tup xs => if frzs xs = true then some (.tup (cutA xs lo hi)) else none
  | .str s => if s.length ≤ big then some (.str (cutS s lo hi)) else none
  | _ => none
theorem cut_whole {A : Type} {xs : List A} {lo hi : Option Int} (h : HT.sIx xs.length 0 lo = 0 ∧ HT.sIx xs.length xs.length hi = xs.length) : cutA xs lo hi = xs := by
  unfold cutA
  rw [h.1, h.2]
  simp
theorem sl_of {x : D} {u : V} {fx : Fp} {lo hi : Option Int} {d : D} (S : Same G H) (rx : Ro K G H x u fx) (e : slD x lo hi = some d) {Q : VK}
    (q : ∀ w G' H' fw, Ro K G' H' d w fw → Stp G H fz G' H' fw → (∀ b, fw b ≤ 1) → Q w H') : rSlG K u lo hi H Q := by
  cases x with
  | lst o xs =>
    obtain ⟨c, rfl⟩ := ite_some e
    obtain ⟨a, vs, g, rfl, h, rs⟩ := rx.lstV S
    have z := rs.frz0 xs vs g c
    subst z
    refine .inl ⟨a, vs, rfl, h, fun p hp => q _ _ _ _ (new_lst S (rs.cut lo hi) hp) (Stp.newO S hp) fun b => ?_⟩
    unfold fAt fz
    split <;> omega
  | tup xs =>
    obtain ⟨c, rfl⟩ := ite_some e
    obtain ⟨a, vs, rfl, h, rs⟩ := rx
    have z := rs.frz0 xs vs fx c
    subst z
    have l := rs.len
    refine .inr (.inl ⟨a, vs, rfl, same_t S h, fun hw => ?_, fun hw p hp => ?_⟩)
    · rw [l] at hw
      exact q _ G H fz (by rw [cut_whole hw]; exact ⟨a, vs, rfl, h, rs⟩) (Stp.refl S) fun _ => Nat.zero_le _
    · exact q _ _ _ fz (new_tupF S (rs.cut lo hi) hp) (Stp.newF S hp) fun _ => Nat.zero_le _
  | str s =>
    obtain ⟨c, rfl⟩ := ite_some e
    obtain ⟨rfl, _⟩ := rx
    exact .inr (.inr ⟨s, rfl, big_line c, q _ G H fz ⟨rfl, rfl⟩ (Stp.refl S) fun _ => Nat.zero_le _⟩)
  | _ => cases e
def fSl (F : FE) (Fl Fh : FO) : FE := fun env => (F env).bind fun r => (Fl r.2).bind fun l => (Fh l.2).bind fun h => (R.of (slD r.1 l.1 h.1)).bind fun d => .ok (d, h.2)
theorem rel_sl {te : TE} {tl th : TO} {F : FE} {Fl Fh : FO} (he : RelE E K ps p1 f1 te F) (hl : RelO E K ps p2 tl Fl) (hh : RelO E K ps p3 th Fh) (hc : ((p2 && p3) || f1) = true := by rfl) :
    RelE E K ps (p1 && (p2 && p3)) true (tSl (rSlG K) te tl th) (fSl F Fl Fh) := by
  intro pa G H σ env fp S Q w
  refine he pa G H σ env fp S _ (R.wp_mono (R.wp_bind w) (fun r1 w1 v1 G1 H1 fp1 fv1 P1 => ?_) fun _ x => x)
  refine hl pa G1 H1 σ r1.2 fp1 P1.sr _ (R.wp_mono (R.wp_bind w1) (fun r2 w2 G2 H2 fp2 P2 => ?_) fun _ x => XW.mono P1.stp x)
  refine hh pa G2 H2 σ r2.2 fp2 P2.sr _ (R.wp_mono (R.wp_bind w2) (fun r3 w3 G3 H3 fp3 P3 => ?_) fun _ x => XW.mono P2.stp (XW.mono P1.stp x))
  have P23 := P2.trans P3
  have PE23 : PostE K ps pa (p2 && p3) true G1 H1 σ r1.2 fp1 .non r3.2 .non G3 H3 fp3 fz := ⟨P23.sr, ⟨rfl, rfl⟩, P23.stp, P23.pur, fun _ b => P23.sr.one b, fun _ b hb => absurd rfl hb⟩
  have c : (p2 && p3) = true ∨ ∀ b, fp1 b + fv1 b ≤ 1 := by
    rcases Bool.or_eq_true_iff.mp hc with z | z
    · exact .inl z
    · exact .inr (P1.one z)
  obtain ⟨d, e, w4⟩ := R.wp_of (R.wp_bind w3)
  exact sl_of P3.sr.sub (P1.ro.carry PE23 c) e fun v G4 H4 fv r4 s4 o4 => w4 v G4 H4 fp3 fv (P1.op PE23 s4 r4 o4)
end
end Fw
end

section
set_option linter.all false
set_option maxRecDepth 100000
namespace Fw
open PySem PySem.Spec L2

inductive Ctl where
  | nx (env : Env) | rt (d : D) (env : Env) | bk (env : Env) | ct (env : Env)
abbrev FS := Env → R Ctl

def PostN (K : PySem.W.Frag) (ps : List Nat) (pa : List V) (G H : Hp) (fp : Fp) (env' : Env) (P : Sg → Hp → Prop) : Prop :=
  ∀ σ' G' H' fp', SR K ps pa G' H' σ' env' fp' → Stp G H fp G' H' fp' → P σ' H'
def PostR (K : PySem.W.Frag) (ps : List Nat) (pa : List V) (G H : Hp) (fp : Fp) (d : D) (env' : Env) (P : VK) : Prop :=
  ∀ v σ' G' H' fp' fv, SR K ps pa G' H' σ' env' fp' → Ro K G' H' d v fv → (∀ b, fp' b + fv b ≤ 1) → (∀ b, fv b ≠ 0 → fp b ≠ 0 ∨ H b = none) → Stp G H fp G' H' fp' → P v H'
def PostS (K : PySem.W.Frag) (ps : List Nat) (pa : List V) (G H : Hp) (fp : Fp) (T : Ends) : Ctl → Prop
  | .nx env' => PostN K ps pa G H fp env' T.nx
  | .rt d env' => PostR K ps pa G H fp d env' T.rt
  | .bk env' => PostN K ps pa G H fp env' T.bk
  | .ct env' => PostN K ps pa G H fp env' T.ct
def RelS (E : XK) (K : PySem.W.Frag) (ps : List Nat) (t : TS) (F : FS) : Prop :=
  ∀ pa G H σ env fp, SR K ps pa G H σ env fp → ∀ T : Ends, (F env).wp (PostS K ps pa G H fp T) (XW E K G H fp) → t T σ H

section
variable {E : XK} {K : PySem.W.Frag} {ps : List Nat} {pa : List V} {G H G' H' : Hp} {σ : Sg} {env env' : Env} {fp fp' fv : Fp} {p f p1 f1 p2 f2 p3 f3 : Bool}
theorem PostN.step {P : Sg → Hp → Prop} (s : Stp G H fp G' H' fp') (h : PostN K ps pa G H fp env P) : PostN K ps pa G' H' fp' env P :=
  fun σ' G2 H2 fp2 S2 s2 => h σ' G2 H2 fp2 S2 (s.trans s2)
theorem PostR.step {P : VK} {d : D} (s : Stp G H fp G' H' fp') (h : PostR K ps pa G H fp d env P) : PostR K ps pa G' H' fp' d env P :=
  fun v σ' G2 H2 fp2 fv S2 r o w s2 => h v σ' G2 H2 fp2 fv S2 r o (fun b hb => (w b hb).elim (fun z => s.new b z) fun z => .inr (s.fre b z)) (s.trans s2)
theorem PostS.step {T : Ends} (s : Stp G H fp G' H' fp') {c : Ctl} (h : PostS K ps pa G H fp T c) : PostS K ps pa G' H' fp' T c := by
  cases c with
  | nx e => exact PostN.step s h
  | rt d e => exact PostR.step s h
  | bk e => exact PostN.step s h
  | ct e => exact PostN.step s h

/-! ### blocks -/
def fSkip : FS := fun env => .ok (.nx env)
def fSeq (F Fu : FS) : FS := fun env => (F env).bind fun c => match c with
  | .nx e => Fu e
  | c => .ok c
theorem rels_nil : RelS E K ps tNext fSkip := by
  intro pa G H σ env fp S T w
  exact w σ G H fp S (Stp.refl S.sub)
theorem rels_seq {t u : TS} {F Fu : FS} (h : RelS E K ps t F) (hu : RelS E K ps u Fu) : RelS E K ps (tSeq t u) (fSeq F Fu) := by
  intro pa G H σ env fp S T w
  refine h pa G H σ env fp S { T with nx := u T } (R.wp_mono (R.wp_bind w) (fun c w1 => ?_) fun _ x => x)
  cases c with
  | nx e => exact fun σ1 G1 H1 fp1 S1 s1 => hu pa G1 H1 σ1 e fp1 S1 T (R.wp_mono w1 (fun c w2 => w2.step s1) fun _ x => XW.mono s1 x)
  | rt d e => exact w1
  | bk e => exact w1
  | ct e => exact w1
def fBreak : FS := fun env => .ok (.bk env)
def fCont : FS := fun env => .ok (.ct env)
theorem rels_break : RelS E K ps tBreak fBreak := by
  intro pa G H σ env fp S T w
  exact w σ G H fp S (Stp.refl S.sub)
theorem rels_cont : RelS E K ps tCont fCont := by
  intro pa G H σ env fp S T w
  exact w σ G H fp S (Stp.refl S.sub)
def fDrop (F : FE) : FS := fun env => (F env).bind fun r => .ok (.nx r.2)
theorem rels_drop {t : TE} {F : FE} (h : RelE E K ps p f t F) : RelS E K ps (tDrop t) (fDrop F) := by
  intro pa G H σ env fp S T w
  exact h pa G H σ env fp S _ (R.wp_mono (R.wp_bind w) (fun r w1 v G1 H1 fp1 fv1 P1 => w1 σ G1 H1 fp1 P1.sr P1.stp) fun _ x => x)
def fRet (F : FE) : FS := fun env => (F env).bind fun r => .ok (.rt r.1 r.2)
theorem rels_ret {t : TE} {F : FE} (h : RelE E K ps p true t F) : RelS E K ps (tRet t) (fRet F) := by
  intro pa G H σ env fp S T w
  exact h pa G H σ env fp S _ (R.wp_mono (R.wp_bind w) (fun r w1 v G1 H1 fp1 fv1 P1 => w1 v σ G1 H1 fp1 fv1 P1.sr P1.ro (P1.one rfl) (fun b hb => (P1.own rfl b hb).elim (fun z => .inl z.2) .inr) P1.stp) fun _ x => x)
def fRetN : FS := fun env => .ok (.rt .non env)
theorem rels_retN : RelS E K ps tRetN fRetN := by
  intro pa G H σ env fp S T w
  exact w .non σ G H fp fz S ⟨rfl, rfl⟩ S.one (fun b hb => absurd rfl hb) (Stp.refl S.sub)
def fIfS (C : FT) (Fa Fb : FS) : FS := fun env => (C env).bind fun r => if r.1 = true then Fa r.2 else Fb r.2
theorem rels_if {c : TT} {ta tb : TS} {C : FT} {Fa Fb : FS} (hc : RelT E K ps p c C) (ha : RelS E K ps ta Fa) (hb : RelS E K ps tb Fb) : RelS E K ps (tIfS c ta tb) (fIfS C Fa Fb) := by
  intro pa G H σ env fp S T w
  refine hc pa G H σ env fp S _ (R.wp_mono (R.wp_bind w) (fun r w1 G1 H1 fp1 P1 => ?_) fun _ x => x)
  by_cases c : r.1 = true
  · rw [if_pos c] at w1 ⊢
    exact ha pa G1 H1 σ r.2 fp1 P1.sr T (R.wp_mono w1 (fun c w2 => w2.step P1.stp) fun _ x => XW.mono P1.stp x)
  · rw [if_neg c] at w1 ⊢
    exact hb pa G1 H1 σ r.2 fp1 P1.sr T (R.wp_mono w1 (fun c w2 => w2.step P1.stp) fun _ x => XW.mono P1.stp x)

/-! ### targets -/
abbrev FG := D → Env → Option Env
def wipeE (env : Env) : List Nat → Env
  | [] => env
  | v :: vs => (wipeE env vs).set v none
theorem wipe_get {A : Type} {w : List (Option A) → List Nat → List (Option A)} (h0 : ∀ l, w l [] = l) (h1 : ∀ l v vs, w l (v :: vs) = (w l vs).set v none) :
    ∀ (l : List (Option A)) (vs : List Nat) (k : Nat), (w l vs)[k]? = if k ∈ vs ∧ k < l.length then some none else l[k]?
  | l, [], k => by rw [h0]; simp
  | l, v :: vs, k => by
    have ih := wipe_get h0 h1 l vs k
    have hl : (w l vs).length = l.length := by
      clear ih
      induction vs with
      | nil => rw [h0]
      | cons u us ih => rw [h1, List.length_set, ih]
    rw [h1]
    by_cases e : v = k
    · subst e
      by_cases c : v < l.length
      · rw [List.getElem?_set_self (by rw [hl]; exact c), if_pos ⟨List.mem_cons_self, c⟩]
      · rw [if_neg (fun z => c z.2), List.getElem?_eq_none (by rw [List.length_set, hl]; omega), List.getElem?_eq_none (by omega)]
    · rw [List.getElem?_set_ne e, ih]
      by_cases c : k ∈ vs ∧ k < l.length
      · rw [if_pos c, if_pos ⟨List.mem_cons_of_mem _ c.1, c.2⟩]
      · rw [if_neg c, if_neg (fun z => c ⟨(List.mem_cons.mp z.1).resolve_left (fun q => e q.symm), z.2⟩)]
theorem wipe_set {A : Type} {w : List (Option A) → List Nat → List (Option A)} (h0 : ∀ l, w l [] = l) (h1 : ∀ l v vs, w l (v :: vs) = (w l vs).set v none) (l : List (Option A)) (vs : List Nat) {j : Nat} (x : Option A) (hj : j ∈ vs) : w (l.set j x) vs = w l vs := by
  apply List.ext_getElem?
  intro k
  rw [wipe_get h0 h1, wipe_get h0 h1, List.length_set]
  by_cases c : k ∈ vs ∧ k < l.length
  · rw [if_pos c, if_pos c]
  · rw [if_neg c, if_neg c]
    by_cases e : j = k
    · subst e
      have : ¬ j < l.length := fun z => c ⟨hj, z⟩
      rw [List.getElem?_eq_none (by rw [List.length_set]; omega), List.getElem?_eq_none (by omega)]
    · rw [List.getElem?_set_ne e]
/-- the same but for these slots -/
def But (js : List Nat) (σ σ' : Sg) (env env' : Env) : Prop := ∀ vs : List Nat, (∀ j ∈ js, j ∈ vs) → wipe σ' vs = wipe σ vs ∧ wipeE env' vs = wipeE env vs
def RelG (K : PySem.W.Frag) (ps js : List Nat) (g : TG) (Fg : FG) : Prop :=
  ∀ pa G H σ env fp d v fv e, SR K ps pa G H σ env fp → Ro K G H d v fv → (∀ b, fp b + fv b ≤ 1) → Fg d env = some e → ∀ Q : Sg → Hp → Prop, (∀ σ' fp', SR K ps pa G H σ' e fp' → (∀ b, fp' b ≠ 0 → fp b ≠ 0 ∨ fv b ≠ 0) → But js σ σ' env e → Q σ' H) → g v σ H Q
def gSet (i : Nat) : FG := fun d env => if i < env.length then some (env.set i (some d)) else none
theorem Pin.set {i : Nat} {w : Option V} (h : Pin ps pa σ) (hp : i ∉ ps) : Pin ps pa (σ.set i w) := fun k j a e1 e2 => by
  have ne : i ≠ j := fun z => hp (by rw [z]; exact List.mem_of_getElem? e1)
  rw [List.getElem?_set_ne ne]
  exact h k j a e1 e2
theorem relg_name {i : Nat} (hp : i ∉ ps) : RelG K ps [i] (gName i) (gSet i) := by
  intro pa G H σ env fp d v fv e S r o q Q w
  obtain ⟨c, rfl⟩ := ite_some q
  obtain ⟨s, g, h, h1, h2, h3, h4⟩ := S.rs.split i (List.getElem?_eq_getElem c)
  subst h3
  refine w _ (fAdd fv h) ⟨S.sub, h4 G H (Same.refl G) (fun b _ => ⟨rfl, rfl⟩) _ _ _ ⟨v, rfl, r⟩, fun b => ?_, S.pin.set hp⟩ (fun b hb => ?_) ?_
  · have : g b + h b + fv b ≤ 1 := o b
    show fv b + h b ≤ 1
    omega
  · have hb' : fv b + h b ≠ 0 := hb
    by_cases q : fv b = 0
    · refine .inl ?_
      show g b + h b ≠ 0
      omega
    · exact .inr q
  · exact fun vs hv => ⟨wipe_set (w := wipe) (fun _ => rfl) (fun _ _ _ => rfl) σ vs _ (hv i List.mem_cons_self), wipe_set (w := wipeE) (fun _ => rfl) (fun _ _ _ => rfl) env vs _ (hv i List.mem_cons_self)⟩
/-- a row of names -/
abbrev FGs := List D → Env → Option Env
def RelGs (K : PySem.W.Frag) (ps js : List Nat) (g : TGs) (Fg : FGs) : Prop :=
  ∀ pa G H σ env fp ds vs e, SR K ps pa G H σ env fp → Ros K G H ds vs fz → Fg ds env = some e → ∀ Q : Sg → Hp → Prop, (∀ σ' fp', SR K ps pa G H σ' e fp' → (∀ b, fp' b ≠ 0 → fp b ≠ 0) → But js σ σ' env e → Q σ' H) → g vs σ H Q
def gsNil : FGs := fun ds env => match ds with
  | [] => some env
  | _ => none
def gsCons (Fg : FG) (Fr : FGs) : FGs := fun ds env => match ds with
  | [] => none
  | d :: ds => (Fg d env).bind fun e => Fr ds e
theorem relgs_nil : RelGs K ps [] gNil gsNil := by
  intro pa G H σ env fp ds vs e S r q Q w
  cases ds with
  | nil =>
    obtain ⟨rfl, _⟩ := r
    cases q
    exact ⟨rfl, w σ fp S (fun b hb => hb) fun vs _ => ⟨rfl, rfl⟩⟩
  | cons d ds => cases q
theorem fz_split {g h : Fp} (e : fz = fAdd g h) : g = fz ∧ h = fz := by
  constructor
  · funext b
    have : fz b = g b + h b := congrFun e b
    have z0 : fz b = 0 := rfl
    show g b = 0
    omega
  · funext b
    have : fz b = g b + h b := congrFun e b
    have z0 : fz b = 0 := rfl
    show h b = 0
    omega
theorem relgs_cons {js ks : List Nat} {g : TG} {gr : TGs} {Fg : FG} {Fr : FGs} (h : RelG K ps js g Fg) (hr : RelGs K ps ks gr Fr) : RelGs K ps (js ++ ks) (gCons g gr) (gsCons Fg Fr) := by
  intro pa G H σ env fp ds vs e S r q Q w
  cases ds with
  | nil => cases q
  | cons d ds =>
    obtain ⟨v, ws, g1, h1, e1, e2, e3, e4⟩ := r
    obtain ⟨z1, z2⟩ := fz_split e4
    subst z1 z2
    cases q1 : Fg d env with
    | none =>
      have q' : (Fg d env).bind (fun e => Fr ds e) = some e := q
      rw [q1] at q'
      cases q'
    | some e0 =>
      have q' : (Fg d env).bind (fun e => Fr ds e) = some e := q
      rw [q1] at q'
      refine ⟨v, ws, e1, h pa G H σ env fp d v fz e0 S e2 S.one q1 _ fun σ1 fp1 S1 o1 b1 => ?_⟩
      refine hr pa G H σ1 e0 fp1 ds ws e S1 e3 q' Q fun σ2 fp2 S2 o2 b2 => w σ2 fp2 S2 (fun b hb => ?_) fun vs hv => ?_
      · exact (o1 b (o2 b hb)).elim id fun z => absurd rfl z
      · obtain ⟨x1, x2⟩ := b1 vs fun j hj => hv j (List.mem_append_left _ hj)
        obtain ⟨y1, y2⟩ := b2 vs fun j hj => hv j (List.mem_append_right _ hj)
        exact ⟨y1.trans x1, y2.trans x2⟩
def gTupD (n : Nat) (Fg : FGs) : FG := fun d env => match d with
  | .tup xs => if xs.length = n ∧ frzs xs = true then Fg xs env else none
  | _ => none
theorem relg_tup {js : List Nat} {n : Nat} {g : TGs} {Fg : FGs} (h : RelGs K ps js g Fg) : RelG K ps js (gTup K n g) (gTupD n Fg) := by
  intro pa G H σ env fp d v fv e S r o q Q w
  cases d with
  | tup xs =>
    have q' : (if xs.length = n ∧ frzs xs = true then Fg xs env else none) = some e := q
    by_cases c : xs.length = n ∧ frzs xs = true
    · rw [if_pos c] at q'
      obtain ⟨a, vs, rfl, q, rs⟩ := r
      have z := rs.frz0 xs vs fv c.2
      subst z
      exact ⟨a, vs, rfl, same_t S.sub q, rs.len.trans c.1, h pa G H σ env fp xs vs e S rs q' Q fun σ1 fp1 S1 o1 b1 => w σ1 fp1 S1 (fun b hb => .inl (o1 b hb)) b1⟩
    · rw [if_neg c] at q'
      cases q'
  | _ => cases q
def fAsg (F : FE) (Fg : FG) : FS := fun env => (F env).bind fun r => (R.of (Fg r.1 r.2)).bind fun e => .ok (.nx e)
theorem rels_asg {js : List Nat} {t : TE} {F : FE} {g : TG} {Fg : FG} (h : RelE E K ps p true t F) (hg : RelG K ps js g Fg) : RelS E K ps (tAsg t g) (fAsg F Fg) := by
  intro pa G H σ env fp S T w
  refine h pa G H σ env fp S _ (R.wp_mono (R.wp_bind w) (fun r w1 v G1 H1 fp1 fv1 P1 => ?_) fun _ x => x)
  obtain ⟨e, q, w2⟩ := R.wp_of (R.wp_bind w1)
  exact hg pa G1 H1 σ r.2 fp1 r.1 v fv1 e P1.sr P1.ro (P1.one rfl) q T.nx fun σ2 fp2 S2 o2 _ =>
    w2 σ2 G1 H1 fp2 S2 ⟨P1.stp.gg, P1.stp.sub, P1.stp.keep, fun b hb => (o2 b hb).elim (fun z => P1.stp.new b z) fun z => (P1.own rfl b z).elim (fun z => .inl z.2) .inr, P1.stp.fre⟩
/-- given out of hand -/
def fGive (F : FE) : FE := fun env => (F env).bind fun r => .ok (r.1.fr, r.2)
theorem rel_give {t : TE} {F : FE} (h : RelE E K ps p true t F) : RelE E K ps p true t (fGive F) := by
  intro pa G H σ env fp S Q w
  refine h pa G H σ env fp S _ (R.wp_mono (R.wp_bind w) (fun r w1 v G1 H1 fp1 fv P => ?_) fun _ x => x)
  have kG : ∀ b, fv b ≠ 0 → G1 b = none := fun b hb => (P.ro.own r.1 v fv b hb).1
  have sg := giv_same (H := H1) kG
  have ro : Ro K (giv fv G1 H1) H1 r.1.fr v fz := P.ro.freeze P.sr.sub sg r.1 v fv (fun b hb => by unfold giv; rw [if_neg hb])
  have one := P.one rfl
  have srN : SR K ps pa (giv fv G1 H1) H1 σ r.2 fp1 := ⟨giv_sub P.sr.sub, P.sr.rs.mono sg fun b hb => ⟨rfl, by
    have z : fv b = 0 := by have := one b; omega
    unfold giv; rw [if_pos z]⟩, P.sr.one, P.sr.pin⟩
  have keepF : ∀ b o, H b = some o → (p = true ∨ fp b = 0) → fv b = 0 := fun b o ho z => by
    by_cases q : fv b = 0
    · exact q
    · rcases P.own rfl b q with ⟨w1, w2⟩ | w
      · rcases z with z | z
        · rw [z] at w1; cases w1
        · exact absurd z w2
      · rw [ho] at w; cases w
  refine w1 v (giv fv G1 H1) H1 fp1 fz ⟨srN, ro, ⟨P.stp.gg.trans sg, giv_sub P.sr.sub, fun b o ho z => ?_, P.stp.new, P.stp.fre⟩, fun z => ?_, fun _ b => P.sr.one b, fun _ b hb => absurd rfl hb⟩
  · obtain ⟨h1, h2⟩ := P.stp.keep b o ho z
    exact ⟨h1, by unfold giv; rw [if_pos (keepF b o ho (.inr z))]; exact h2⟩
  · obtain ⟨a1, a2, a3⟩ := P.pur z
    refine ⟨a1, a2, ⟨a3.gg.trans sg, giv_sub P.sr.sub, fun b o ho q => ?_, fun b hb => absurd rfl hb, a3.fre⟩⟩
    obtain ⟨h1, h2⟩ := a3.keep b o ho q
    exact ⟨h1, by unfold giv; rw [if_pos (keepF b o ho (.inl z))]; exact h2⟩
/-- x op= e -/
def fAug (i : Nat) (g : D → D → Option D) (F : FE) : FS := fun env => match env[i]? with
  | some (some x) => if x.frz = true then (F env).bind fun r => (R.of (g x r.1)).bind fun d => if i < r.2.length then .ok (.nx (r.2.set i (some d))) else .no else .no
  | _ => .no
theorem Rs.get {i : Nat} {d : D} (h : Rs K G H env σ fp) (e : env[i]? = some (some d)) : ∃ v g, σ[i]? = some (some v) ∧ Ro K G H d v g ∧ ∀ b, g b ≤ fp b := by
  obtain ⟨s, g, k, h1, ⟨v, rfl, h2⟩, h3, _⟩ := h.split i e
  refine ⟨v, g, h1, h2, fun b => ?_⟩
  rw [h3]
  show g b ≤ g b + k b
  omega
theorem rels_aug {i : Nat} {r : R2} {g : D → D → Option D} {t : TE} {F : FE} (hr : OpRel K r g) (h : RelE E K ps p f t F) (hp : i ∉ ps) : RelS E K ps (tAug i t r) (fAug i g F) := by
  intro pa G H σ env fp S T w
  unfold fAug at w
  cases q : env[i]? with
  | none => rw [q] at w; exact w.elim
  | some o =>
    cases o with
    | none => rw [q] at w; exact w.elim
    | some x =>
      rw [q] at w
      have w' : (if x.frz = true then (F env).bind fun r => (R.of (g x r.1)).bind fun d => if i < r.2.length then R.ok (Ctl.nx (r.2.set i (some d))) else .no else .no).wp _ _ := w
      by_cases c : x.frz = true
      · rw [if_pos c] at w'
        obtain ⟨xv, gx, h1, h2, _⟩ := S.rs.get q
        have z := h2.frz0 x xv gx c
        subst z
        refine ⟨xv, h1, h pa G H σ env fp S _ (R.wp_mono (R.wp_bind w') (fun r1 w1 v G1 H1 fp1 fv1 P1 => ?_) fun _ x => x)⟩
        obtain ⟨d, e, w2⟩ := R.wp_of (R.wp_bind w1)
        refine hr G1 H1 x r1.1 xv v fz fv1 d P1.sr.sub (h2.mono P1.stp.gg x xv fz fun b hb => absurd rfl hb) P1.ro e _ fun u G3 H3 fu ru su ou => ?_
        by_cases k : i < r1.2.length
        · rw [if_pos k] at w2
          have P3 := P1.op1 su ru ou
          refine relg_name hp pa G3 H3 σ r1.2 fp1 d u fu _ P3.sr ru (P3.one rfl) (if_pos k) _ fun σ2 fp2 S2 o2 _ => ?_
          exact w2 σ2 G3 H3 fp2 S2 ⟨P3.stp.gg, P3.stp.sub, P3.stp.keep, fun b hb => (o2 b hb).elim (fun z => P3.stp.new b z) fun z => (P3.own rfl b z).elim (fun z => .inl z.2) .inr, P3.stp.fre⟩
        · rw [if_neg k] at w2
          exact w2.elim
      · rw [if_neg c] at w'
        exact w'.elim
end
end Fw
end

section
set_option linter.all false
set_option maxRecDepth 100000
/-! what a loop walks: a list, a tuple or a text, whichever it is; enumerate of a tuple -/
namespace FwIt
open PySem PySem.Spec PyProof.Rows L2

/-! ### a list, a tuple or a text -/
def iSeq (K : PySem.W.Frag) (tl : TE) : TI := fun σ H R => tl σ H fun x H1 =>
  (∃ a, x = .ref a ∧ (∃ xs, SqL K H1 a xs) ∧ R (Itl K a) H1) ∨ (∃ a, x = .ref a ∧ (∃ xs, SqT K H1 a xs) ∧ R (Itt K a) H1) ∨ ∃ z, x = .str z ∧ R (Its z) H1
theorem pi_seq {X : Cx} {tg l : Expr} {tl : TE} (hl : PE X l tl) : PI X tg l (iSeq X.K tl) := by
  refine ⟨fun pins s σ H R I h => thn (hl.run pins s σ H _ I h) fun v s1 ⟨x, H1, I1, r1, q1⟩ => ?_⟩
  rcases q1 with ⟨a, rfl, ⟨xs, hq⟩, q⟩ | ⟨a, rfl, ⟨xs, hq⟩, q⟩ | ⟨z, rfl, q⟩
  · cases r1
    obtain ⟨its, rv, hp, _⟩ := I1.list hq
    exact wpAny_pyIter_list hp.isList (pi_one (tk := s1.toks) I1 _ (turn_list a _) ⟨_, Heap.get?_push_size _ rfl, rfl, rfl⟩ q)
  · cases r1
    obtain ⟨its, rv, hp, _⟩ := I1.tuple hq
    have ht : s1.heap.IsTuple a its.toArray := hp
    exact wpAny_pyIter_tuple ht (pi_one (tk := s1.toks) I1 _ (turn_tuple a _) ⟨_, Heap.get?_push_size _ rfl, rfl, rfl⟩ q)
  · obtain ⟨t, rfl⟩ := r1
    cases hb : z.cps.all (· < 128) with
    | false => exact wpAny_pyIter_wide hb (pi_one (tk := s1.toks) I1 _ (turn_str _ z t "str_iterator" (.inr rfl)) ⟨_, Heap.get?_push_size _ rfl, rfl, rfl⟩ q)
    | true => exact wpAny_pyIter_ascii hb (pi_one (tk := s1.toks) I1 _ (turn_str _ z t "str_ascii_iterator" (.inl rfl)) ⟨_, Heap.get?_push_size _ rfl, rfl, rfl⟩ q)

/-! ### enumerate(v) of anything that can be walked -/
theorem meets_enum1 {v : Value} {o : Obj} {H : Heap → Prop} (B : Begins v o H) :
    Meets (Builtin.«enumerate.__new__» ⟨[.type "enumerate", v], []⟩) (fun _ R s => H s.heap ∧ R (.ok (.ret (.ref (s.heap.push o).objs.size)))
      { s with heap := (s.heap.push o).push { cls := .type "enumerate", data := .fields #[.none, .bool false, .ref s.heap.objs.size, rawInt 0, .none, .none] } }) :=
  .of_wp fun prog w A R s hh => by
    obtain ⟨hp, gs, dr, tk, os⟩ := s
    obtain ⟨h1, h⟩ := hh
    have hs := sub_enumerate
    have qi : ∀ {A' : Around} {E : Value → Shared → Prop} {Q : Value → Shared → Prop}, Q (.ref hp.objs.size) ⟨hp.push o, gs, dr, tk, os⟩ →
        wpAny (model prog w) A' (pyIter v) Q E ⟨hp, gs, dr, tk, os⟩ := fun q => B.iter prog w _ _ ⟨hp, gs, dr, tk, os⟩ _ h1 q
    wp_walk using qi
    refine wpAny_stack_any fun st => wpAny_pure ?_
    split
    · rename_i c _ _ _ _ _
      cases (c == Value.type "enumerate") <;> (wp_walk using qi; exact ⟨_, rfl, h⟩)
    · wp_walk using qi
      exact ⟨_, rfl, h⟩
theorem call_enum1 {prog : Program} {w : World} {A : Around} {E : Value → Shared → Prop} {s : Shared} {v : Value} {o : Obj} {H : Heap → Prop} {Q : Value → Shared → Prop} (B : Begins v o H) (h1 : H s.heap)
    (h : ∀ h', IsEnum h' (s.heap.objs.size + 1) s.heap.objs.size 0 .none → h'.get? s.heap.objs.size = some o → (∀ b u, s.heap.get? b = some u → h'.get? b = some u) →
      Q (.ref (s.heap.objs.size + 1)) { s with heap := h' }) : wpAny (model prog w) A (call (.type "enumerate") [v]) Q E s := by
  refine callType_new F.called_enumerate (by decide) (F.typeCall_enumerate_1 _) (F.newCall_enumerate_1 _) (fun obj => F.args_object_init_2 obj _) F.entry_enumerate_new (meets_enum1 B) ⟨h1, ?_⟩
  have hz : (s.heap.push o).objs.size = s.heap.objs.size + 1 := Heap.size_push ..
  have he := Heap.get?_push_size (s.heap.push o) (o := { cls := .type "enumerate", data := .fields #[.none, .bool false, .ref s.heap.objs.size, rawInt 0, .none, .none] }) rfl
  rw [hz] at he
  show _ ∧ _
  rw [hz]
  exact ⟨⟨_, he, rfl⟩, h _ he (Heap.get?_push_of_some _ (Heap.get?_push_size _ B.free)) fun b u x => Heap.get?_push_of_some _ (Heap.get?_push_of_some _ x)⟩

/-- the tuple at a, counted from c -/
def IteT (K : PySem.W.Frag) (a : Addr) : It :=
  ⟨fun i H => ∃ (xs : List V) (x : V), SqT K H a xs ∧ xs[i]? = some x,
    fun i H v H' => ∃ T x, v = .ref T ∧ H T = none ∧ H' = upd H T (.tup [.int (i : Nat), x]) ∧ ∀ xs, SqT K H a xs → xs[i]? = some x,
    fun i H => ∃ xs : List V, SqT K H a xs ∧ xs.length = i⟩
theorem turn_enumT {P : Program} {w : World} {K : PySem.W.Frag} {elts : List Expr} {kk : Nat} {tpos : Pos} (a e it : Addr) :
    Turn P w K (.Tuple elts kk tpos) (IteT K a) [e, it] e (fun i h => (∃ old, IsEnum h e it ((i : Nat) : Int) old) ∧ h.IsTupleIter it a i ∧ e ≠ it) where
  mem := List.mem_cons_self
  obj := fun i h st b hb => by
    obtain ⟨⟨old, he⟩, ⟨o, ho, hc, hd⟩, _⟩ := st
    rcases List.mem_cons.mp hb with z | z
    · subst z
      exact ⟨_, he, fun v q => nomatch q⟩
    · have z' := List.mem_singleton.mp z
      subst z'
      exact ⟨o, ho, fun v q => by rw [hd] at q; cases q⟩
  keep := fun i h h' st k => by
    obtain ⟨⟨old, he⟩, hi, hne⟩ := st
    exact ⟨⟨old, k e List.mem_cons_self _ he⟩, hi.at fun o q => k it (List.mem_cons_of_mem _ List.mem_cons_self) o q, hne⟩
  item := by
    intro X hP hw hK hc i pins s σ H E I hf st hg
    subst hP hw hK
    obtain ⟨⟨old, he⟩, hit, hne⟩ := st
    obtain ⟨xs, x, hq, hx⟩ := hg
    obtain ⟨its, rv, p, hz⟩ := I.tuple hq
    have hT : s.heap.IsTuple a its.toArray := p
    have helt : e < s.heap.objs.size := Heap.lt_size he
    have hilt : it < s.heap.objs.size := by obtain ⟨_, q, _⟩ := hit; exact Heap.lt_size q
    have hil : i < its.length := by
      have hl := rv.length
      have := (List.getElem?_eq_some_iff.mp hx).1
      omega
    have hai : a ≠ it := fun z => by
      obtain ⟨o1, q1, c1, _⟩ := hit
      obtain ⟨o2, q2, c2, _⟩ := hT
      rw [z, q1] at q2
      cases q2
      rw [c1] at c2
      injection c2 with c3
      exact absurd c3 (by decide)
    have hae : a ≠ e := fun z => by
      obtain ⟨o2, q2, c2, _⟩ := hT
      rw [z, he] at q2
      cases q2
      injection c2 with c3
      exact absurd c3 (by decide)
    have nef : e ∉ [it, a] := fun z => by
      rcases List.mem_cons.mp z with y | y
      · exact hne y
      · exact hae (List.mem_singleton.mp y).symm
    have D := Draws.tuple (prog := X.prog) (w := X.w) (A := X.A.in1) (I.ok.hd hc) it a hai its.toArray
    have he0 : IsEnum s.heap e it (0 + ((i : Nat) : Int)) old := by rw [Int.zero_add]; exact he
    refine wpAny_pyNext_enum_itemC D he0 ⟨hit, hT⟩ (by simpa using hil) hne nef fun u h' tk hu ho hst hTup hsz hk => ?_
    refine ⟨_, rfl, wpAny_letOwnedTupleGo_enum (s := { s with heap := h', toks := tk + 1 }) ho fun h2 he2 sb => ?_⟩
    have hu' : its[i]? = some u := by simpa using hu
    have ru : RelV x u := by
      obtain ⟨u2, e2, r2⟩ := rv.get hx
      rw [hu'] at e2
      cases e2
      exact r2
    have hT2 := (sb.2 _ (Nat.ne_of_gt helt)).trans hTup
    have new : ObjOk X.prog X.w (upd H s.heap.objs.size (.tup [.int (i : Nat), x])) h2 s.heap.objs.size (.tup [.int (i : Nat), x]) :=
      ⟨by show 2 ≤ sizeLine; decide, [.int (0 + ((i : Nat) : Int)) tk, u], .cons ⟨_, by rw [Int.zero_add]⟩ (.cons ru .nil), ⟨_, hT2, rfl, _, rfl⟩⟩
    have I1 : Inv X pins σ (upd H s.heap.objs.size (.tup [.int (i : Nat), x])) { s with heap := h2, toks := tk + 1 } := by
      refine I.turnedNew (ch := [e, it]) (fun b ob hb q => ?_) hf (Nat.le_refl _) new
      have b1 : b ≠ e := fun z => hb (by simp [z])
      have b2 : b ≠ it := fun z => hb (by simp [z])
      exact (sb.2 b b1).trans (hk b ob b1 b2 q)
    refine ⟨.ref s.heap.objs.size, _, I1, rfl, ⟨_, x, rfl, I.hok.fresh (Nat.le_refl _), rfl, fun ys hy => by rw [I.tuple_inj hy hq]; exact hx⟩, ⟨⟨u, ?_⟩, hst.1.at fun o q => (sb.2 it (Ne.symm hne)).trans q, hne⟩, fun b hb => ?_⟩
    · have e1 : ((i + 1 : Nat) : Int) = 0 + ((i : Nat) : Int) + 1 := by omega
      rw [e1]
      exact he2
    · have hb' : b < s.heap.objs.size := by
        rcases List.mem_cons.mp hb with z | z
        · rw [z]; exact helt
        · rw [List.mem_singleton.mp z]; exact hilt
      rw [upd_ne (Nat.ne_of_lt hb')]
      exact (hf b hb).1
  done := by
    intro X hP hw hK hc i pins s σ H E I hf st hg
    subst hP hw hK
    obtain ⟨⟨old, he⟩, hit, hne⟩ := st
    obtain ⟨xs, hq, hx⟩ := hg
    obtain ⟨its, rv, p, hz⟩ := I.tuple hq
    have hT : s.heap.IsTuple a its.toArray := p
    obtain ⟨f0, f1, f2, f3, f4, f5⟩ := hf it (by simp)
    have hl := rv.length
    have hai : a ≠ it := fun z => by
      obtain ⟨o1, q1, c1, _⟩ := hit
      obtain ⟨o2, q2, c2, _⟩ := hT
      rw [z, q1] at q2
      cases q2
      rw [c1] at c2
      injection c2 with c3
      exact absurd c3 (by decide)
    have D := Draws.tuple (prog := X.prog) (w := X.w) (A := X.A.in1) (I.ok.hd hc) it a hai its.toArray
    have en : its.toArray.size = i := by
      rw [List.size_toArray]
      omega
    subst en
    exact wpAny_pyNext_enum_endD D he ⟨hit, hT⟩ fun h' eb => ⟨rfl, I.turned (t' := s.toks) (fun b o hb q => eb b o hb q) f0 f1 f3 f4 f5⟩
  self := fun A i s Q E st h => by
    obtain ⟨⟨_, he⟩, _⟩ := st
    exact wpAny_pyIter_enum he h
def iEnumT (K : PySem.W.Frag) (ta : TA) : TI := fun σ H R => ta σ H fun vs H1 => ∃ a, vs = [.ref a] ∧ (((∃ xs, SqL K H1 a xs) ∧ R (Ite K a) H1) ∨ ((∃ xs, SqT K H1 a xs) ∧ R (IteT K a) H1))
theorem pi_enumT {X : Cx} {e : Expr} {ta : TA} {p pos tpos : Pos} {elts : List Expr} {kk : Nat} (hg : Gl X "enumerate") (hm : X.mg "enumerate" = none) (ha : PA X [e] ta) (hs : starEach [e] X.env = [(false, eval e X.env)] := by rfl) :
    PI X (.Tuple elts kk tpos) (.Call (.Name "enumerate" p) [e] [] pos) (iEnumT X.K ta) := by
  refine ⟨fun pins s σ H R I h => Call_ (ld_blt I hg hm boot_enumerate (PyProof.Rows.callWith_type1 (thn (ha.run pos pins s σ H _ I h) fun us s1 ⟨vs, H1, I1, r1, q1⟩ => ?_) hs rfl))⟩
  obtain ⟨a, rfl, q1⟩ := q1
  have r2 := Vals.ref1 r1
  subst r2
  have old : ∀ b : Addr, b = s1.heap.objs.size + 1 ∨ b = s1.heap.objs.size → s1.heap.objs.size ≤ b := fun b hb => by
    rcases hb with z | z
    · rw [z]; exact Nat.le_add_right _ _
    · rw [z]; exact Nat.le_refl _
  rcases q1 with ⟨⟨xs, hq⟩, q⟩ | ⟨⟨xs, hq⟩, q⟩
  · obtain ⟨its, rv, hp, _⟩ := I1.list hq
    refine call_enumerate_list hp.isList fun h' he hit hsz hk => wpAny_pyIter_enum he ?_
    refine ⟨s1.heap.objs.size + 1, [s1.heap.objs.size + 1, s1.heap.objs.size], _, _, H1, rfl, I1.kept (t' := s1.toks) hk, turn_enum a _ s1.heap.objs.size, ⟨⟨.none, he⟩, hit, Nat.succ_ne_self _⟩, fun b hb => ?_, q⟩
    have hle := old b (by simpa using hb)
    exact I1.fpOk hle (I1.hok.fresh hle)
  · obtain ⟨its, rv, hp, _⟩ := I1.tuple hq
    have hT : s1.heap.IsTuple a its.toArray := hp
    refine call_enum1 (begins_tuple a its.toArray) hT fun h' he ho hk => wpAny_pyIter_enum he ?_
    refine ⟨s1.heap.objs.size + 1, [s1.heap.objs.size + 1, s1.heap.objs.size], _, _, H1, rfl, I1.kept (t' := s1.toks) hk, turn_enumT a _ s1.heap.objs.size, ⟨⟨.none, he⟩, ⟨_, ho, rfl, rfl⟩, Nat.succ_ne_self _⟩, fun b hb => ?_, q⟩
    have hle := old b (by simpa using hb)
    exact I1.fpOk hle (I1.hok.fresh hle)
end FwIt
end

section
set_option linter.all false
set_option maxRecDepth 100000
namespace Fw
open PySem PySem.Spec L2

/-- an iterator J that gives out ds, all frozen, wherever G is among the frozen -/
def JOk (K : PySem.W.Frag) (G : Hp) (J : It) (ds : List D) : Prop :=
  ∀ G2 H2, Same G G2 → Same G2 H2 → ∀ i, i ≤ ds.length → (i = ds.length → J.stop i H2) ∧
    ∀ d, ds[i]? = some d → J.go i H2 ∧ ∀ x H3, J.yld i H2 x H3 → ∃ G3, Stp G2 H2 fz G3 H3 fz ∧ Ro K G3 H3 d x fz
abbrev FI := Env → R (List D × Env)
def RelI (E : XK) (K : PySem.W.Frag) (ps : List Nat) (p : Bool) (w : TI) (F : FI) : Prop :=
  ∀ pa G H σ env fp, SR K ps pa G H σ env fp → ∀ Q : It → Hp → Prop, (F env).wp (fun r => ∀ J G' H' fp', PostT K ps pa p G H σ env fp r.2 G' H' fp' → JOk K G' J r.1 → Q J H') (XW E K G H fp) → w σ H Q

section
variable {E : XK} {K : PySem.W.Frag} {ps : List Nat} {pa : List V} {G H G' H' : Hp} {σ : Sg} {env env' : Env} {fp fp' fv : Fp} {p f p1 f1 p2 f2 p3 f3 : Bool}

theorem Ros.atF {ds : List D} {vs : List V} (r : Ros K G H ds vs fz) {i : Nat} {d : D} (e : ds[i]? = some d) : ∃ v, vs[i]? = some v ∧ Ro K G H d v fz := by
  induction ds generalizing vs i with
  | nil => simp at e
  | cons x xs ih =>
    obtain ⟨v, ws, g, h, e1, e2, e3, e4⟩ := r
    obtain ⟨z1, z2⟩ := fz_split e4
    subst z1 z2 e1
    cases i with
    | zero =>
      have e' : x = d := by simpa using e
      subst e'
      exact ⟨v, by simp, e2⟩
    | succ i => simpa using ih e3 (i := i) (by simpa using e)
theorem Ros.keepF {G2 H2 : Hp} {ds : List D} {vs : List V} (r : Ros K G H ds vs fz) (e : Same G G2) : Ros K G2 H2 ds vs fz := r.mono e ds vs fz fun b h => absurd rfl h
theorem Ro.keepF {G2 H2 : Hp} {d : D} {v : V} (r : Ro K G H d v fz) (e : Same G G2) : Ro K G2 H2 d v fz := r.mono e d v fz fun b h => absurd rfl h
theorem j_list {a : Addr} {ds : List D} {vs : List V} (h : SqL K G a vs) (r : Ros K G H ds vs fz) : JOk K G (Itl K a) ds := by
  intro G2 H2 e S i hi
  have h2 : SqL K H2 a vs := S.seq (e.seq h)
  refine ⟨fun q => ⟨vs, h2, by rw [r.len, q]; exact Nat.le_refl _⟩, fun d hd => ?_⟩
  obtain ⟨v, hv, rv⟩ := r.atF hd
  refine ⟨⟨vs, v, h2, hv⟩, fun x H3 y => ⟨G2, ?_⟩⟩
  obtain ⟨rfl, y2⟩ := y
  have ex := y2 vs h2
  rw [hv] at ex
  cases ex
  exact ⟨Stp.refl S, rv.keepF e⟩
theorem j_tup {a : Addr} {ds : List D} {vs : List V} (h : SqT K G a vs) (r : Ros K G H ds vs fz) : JOk K G (Itt K a) ds := by
  intro G2 H2 e S i hi
  have h2 : SqT K H2 a vs := same_t S (same_t e h)
  refine ⟨fun q => ⟨vs, h2, by rw [r.len, q]; exact Nat.le_refl _⟩, fun d hd => ?_⟩
  obtain ⟨v, hv, rv⟩ := r.atF hd
  refine ⟨⟨vs, v, h2, hv⟩, fun x H3 y => ⟨G2, ?_⟩⟩
  obtain ⟨rfl, y2⟩ := y
  have ex := y2 vs h2
  rw [hv] at ex
  cases ex
  exact ⟨Stp.refl S, rv.keepF e⟩
def signsD (s : Str) : List D := s.cps.toList.map fun c => .str ⟨#[c]⟩
theorem j_str (s : Str) : JOk K G (Its s) (signsD s) := by
  intro G2 H2 e S i hi
  have hl : (signsD s).length = s.cps.size := by simp [signsD]
  refine ⟨fun q => by show s.cps.size ≤ i; omega, fun d hd => ?_⟩
  have h1 : i < s.cps.size := by
    have := (List.getElem?_eq_some_iff.mp hd).1
    omega
  refine ⟨h1, fun x H3 y => ⟨G2, ?_⟩⟩
  obtain ⟨rfl, c, hc, rfl⟩ := y
  have hd' : (s.cps.toList.map fun c => D.str ⟨#[c]⟩)[i]? = some d := hd
  rw [List.getElem?_map] at hd'
  have hc' : s.cps.toList[i]? = some c := by simpa using hc
  rw [hc'] at hd'
  cases hd'
  exact ⟨Stp.refl S, ⟨rfl, rfl⟩⟩
/-- what is walked: a list, a tuple, a text (given out of hand) -/
def D.items (x : D) : Option (List D) := match x with
  | .lst false xs => if frzs xs = true then some xs else none
  | .tup xs => if frzs xs = true then some xs else none
  | .str s => some (signsD s)
  | _ => none
def fSeqI (F : FE) : FI := fun env => (fGive F env).bind fun r => (R.of r.1.items).bind fun ds => .ok (ds, r.2)
theorem Ro.lst0 {xs : List D} {v : V} {f : Fp} (c : frzs xs = true) (h : Ro K G H (.lst false xs) v f) : ∃ a vs, v = .ref a ∧ SqL K G a vs ∧ Ros K G H xs vs fz := by
  obtain ⟨a, vs, g, e1, e2, e3, e4⟩ := h
  rw [if_neg Bool.false_ne_true] at e2
  refine ⟨a, vs, e1, e2, ?_⟩
  have z := e3.frz0 xs vs g c
  rw [← z]
  exact e3
theorem seq_of {d : D} {v : V} {f : Fp} {ds : List D} (S : Same G H) (r : Ro K G H d v f) (e : d.items = some ds) :
    (∃ a, v = .ref a ∧ (∃ xs, SqL K H a xs) ∧ JOk K G (Itl K a) ds) ∨ (∃ a, v = .ref a ∧ (∃ xs, SqT K H a xs) ∧ JOk K G (Itt K a) ds) ∨ ∃ z, v = .str z ∧ JOk K G (Its z) ds := by
  cases d with
  | lst o xs =>
    cases o with
    | true => cases e
    | false =>
      obtain ⟨c, rfl⟩ := ite_some e
      obtain ⟨a, vs, rfl, h1, rs⟩ := Ro.lst0 c r
      exact .inl ⟨a, rfl, ⟨vs, S.seq h1⟩, j_list h1 rs⟩
  | tup xs =>
    obtain ⟨c, rfl⟩ := ite_some e
    obtain ⟨a, vs, rfl, h1, rs⟩ := r
    have z := rs.frz0 xs vs f c
    subst z
    exact .inr (.inl ⟨a, rfl, ⟨vs, same_t S h1⟩, j_tup h1 rs⟩)
  | str s =>
    obtain ⟨rfl, _⟩ := r
    cases e
    exact .inr (.inr ⟨s, rfl, j_str s⟩)
  | _ => cases e
theorem rel_seqI {t : TE} {F : FE} (h : RelE E K ps p true t F) : RelI E K ps p (FwIt.iSeq K t) (fSeqI F) := by
  intro pa G H σ env fp S Q w
  refine rel_give h pa G H σ env fp S _ (R.wp_mono (R.wp_bind w) (fun r w1 v G1 H1 fp1 fv P => ?_) fun _ x => x)
  obtain ⟨ds, e, w2⟩ := R.wp_of (R.wp_bind w1)
  rcases seq_of P.sr.sub P.ro e with ⟨a, h1, h2, h3⟩ | ⟨a, h1, h2, h3⟩ | ⟨z, h1, h3⟩
  · exact .inl ⟨a, h1, h2, w2 _ G1 H1 fp1 P.toT h3⟩
  · exact .inr (.inl ⟨a, h1, h2, w2 _ G1 H1 fp1 P.toT h3⟩)
  · exact .inr (.inr ⟨z, h1, w2 _ G1 H1 fp1 P.toT h3⟩)
/-- range(n), range(a, b) -/
def rangeD (lo : Int) (n : Nat) : List D := (List.range n).map fun i => .int (lo + (i : Nat))
theorem j_range (lo : Int) (n : Nat) : JOk K G (Itr lo n) (rangeD lo n) := by
  intro G2 H2 e S i hi
  have hl : (rangeD lo n).length = n := by simp [rangeD]
  refine ⟨fun q => by show n ≤ i; omega, fun d hd => ?_⟩
  have h1 : i < n := by
    have := (List.getElem?_eq_some_iff.mp hd).1
    omega
  refine ⟨h1, fun x H3 y => ⟨G2, ?_⟩⟩
  obtain ⟨rfl, rfl⟩ := y
  have hd' : ((List.range n).map fun i => D.int (lo + (i : Nat)))[i]? = some d := hd
  rw [List.getElem?_map, List.getElem?_range h1] at hd'
  cases hd'
  exact ⟨Stp.refl S, ⟨rfl, rfl⟩⟩
def small62 (i : Int) : Bool := decide (-(2 ^ 62) ≤ i) && decide (i < 2 ^ 62)
def fRng1 (F : FE) : FI := fun env => (F env).bind fun r => (R.of r.1.isI).bind fun n => if small62 n = true then .ok (rangeD 0 n.toNat, r.2) else .no
def fRng2 (Fa Fb : FE) : FI := fun env => (Fa env).bind fun r => (R.of r.1.isI).bind fun i => (Fb r.2).bind fun s => (R.of s.1.isI).bind fun j => if small62 i = true ∧ small62 j = true then .ok (rangeD i (j - i).toNat, s.2) else .no
theorem small_of {i : Int} (h : small62 i = true) : -(2 ^ 62) ≤ i ∧ i < 2 ^ 62 := by
  unfold small62 at h
  simpa using h
theorem rel_rng1 {t : TE} {F : FE} (h : RelE E K ps p f t F) : RelI E K ps p (iRng1 (tCons t tNil)) (fRng1 F) := by
  intro pa G H σ env fp S Q w
  refine h pa G H σ env fp S _ (R.wp_mono (R.wp_bind w) (fun r w1 v G1 H1 fp1 fv P => ?_) fun _ x => x)
  obtain ⟨n, e, w2⟩ := R.wp_of (R.wp_bind w1)
  by_cases c : small62 n = true
  · rw [if_pos c] at w2
    exact ⟨n, by rw [P.ro.isI e], (small_of c).1, (small_of c).2, w2 _ G1 H1 fp1 P.toT (j_range 0 n.toNat)⟩
  · rw [if_neg c] at w2
    exact w2.elim
theorem rel_rng2 {ta tb : TE} {Fa Fb : FE} (ha : RelE E K ps p1 f1 ta Fa) (hb : RelE E K ps p2 f2 tb Fb) : RelI E K ps (p1 && p2) (iRng2 (tCons ta (tCons tb tNil))) (fRng2 Fa Fb) := by
  intro pa G H σ env fp S Q w
  refine ha pa G H σ env fp S _ (R.wp_mono (R.wp_bind w) (fun r w1 v G1 H1 fp1 fv P => ?_) fun _ x => x)
  obtain ⟨i, e, w2⟩ := R.wp_of (R.wp_bind w1)
  refine hb pa G1 H1 σ r.2 fp1 P.sr _ (R.wp_mono (R.wp_bind w2) (fun r2 w3 v2 G2 H2 fp2 fv2 P2 => ?_) fun _ x => XW.mono P.stp x)
  obtain ⟨j, e2, w4⟩ := R.wp_of (R.wp_bind w3)
  by_cases c : small62 i = true ∧ small62 j = true
  · rw [if_pos c] at w4
    exact ⟨i, j, by rw [P.ro.isI e, P2.ro.isI e2], ⟨(small_of c.1).1, (small_of c.1).2, (small_of c.2).1, (small_of c.2).2⟩, w4 _ G2 H2 fp2 (P.toT.trans P2.toT) (j_range i (j - i).toNat)⟩
  · rw [if_neg c] at w4
    exact w4.elim
/-- enumerate -/
def enumD (ds : List D) : List D := (List.range ds.length).map fun i => .tup [.int (i : Nat), ds.getD i .non]
theorem enum_get {ds : List D} {i : Nat} {d : D} (h : (enumD ds)[i]? = some d) : ∃ x, ds[i]? = some x ∧ d = .tup [.int (i : Nat), x] := by
  unfold enumD at h
  rw [List.getElem?_map] at h
  by_cases c : i < ds.length
  · rw [List.getElem?_range c] at h
    cases h
    refine ⟨ds[i], List.getElem?_eq_getElem c, ?_⟩
    show D.tup [D.int ↑i, ds.getD i D.non] = _
    rw [List.getD_eq_getElem?_getD, List.getElem?_eq_getElem c]
    rfl
  · rw [List.getElem?_eq_none (by rw [List.length_range]; omega)] at h
    cases h
theorem enum_len (ds : List D) : (enumD ds).length = ds.length := by simp [enumD]
theorem tup2_ro {G2 H2 : Hp} {T : Addr} {i : Nat} {x : D} {v : V} (S : Same G2 H2) (hT : H2 T = none) (r : Ro K G2 H2 x v fz) : Ro K (upd G2 T (.tup [.int (i : Nat), v])) (upd H2 T (.tup [.int (i : Nat), v])) (.tup [.int (i : Nat), x]) (.ref T) fz :=
  new_tupF S (show Ros K G2 H2 [.int (i : Nat), x] [.int (i : Nat), v] fz from ⟨.int (i : Nat), [v], fz, fz, rfl, ⟨rfl, rfl⟩, ⟨v, [], fz, fz, rfl, r, ⟨rfl, rfl⟩, rfl⟩, rfl⟩) hT
theorem j_enumL {a : Addr} {ds : List D} {vs : List V} (h : SqL K G a vs) (r : Ros K G H ds vs fz) : JOk K G (Ite K a) (enumD ds) := by
  intro G2 H2 e S i hi
  have h2 : SqL K H2 a vs := S.seq (e.seq h)
  refine ⟨fun q => ⟨vs, h2, by rw [r.len, q, enum_len]; exact Nat.le_refl _⟩, fun d hd => ?_⟩
  obtain ⟨x, hx, rfl⟩ := enum_get hd
  obtain ⟨v, hv, rv⟩ := r.atF hx
  refine ⟨⟨vs, v, h2, hv⟩, fun y H3 yy => ?_⟩
  obtain ⟨T, z, rfl, hT, rfl, y2⟩ := yy
  have ex := y2 vs h2
  rw [hv] at ex
  cases ex
  exact ⟨_, Stp.newF S hT, tup2_ro S hT (rv.keepF e)⟩
theorem j_enumT {a : Addr} {ds : List D} {vs : List V} (h : SqT K G a vs) (r : Ros K G H ds vs fz) : JOk K G (FwIt.IteT K a) (enumD ds) := by
  intro G2 H2 e S i hi
  have h2 : SqT K H2 a vs := same_t S (same_t e h)
  refine ⟨fun q => ⟨vs, h2, by rw [r.len, q, enum_len]⟩, fun d hd => ?_⟩
  obtain ⟨x, hx, rfl⟩ := enum_get hd
  obtain ⟨v, hv, rv⟩ := r.atF hx
  refine ⟨⟨vs, v, h2, hv⟩, fun y H3 yy => ?_⟩
  obtain ⟨T, z, rfl, hT, rfl, y2⟩ := yy
  have ex := y2 vs h2
  rw [hv] at ex
  cases ex
  exact ⟨_, Stp.newF S hT, tup2_ro S hT (rv.keepF e)⟩
def D.seqs (x : D) : Option (List D) := match x with
  | .lst false xs => if frzs xs = true then some xs else none
  | .tup xs => if frzs xs = true then some xs else none
  | _ => none
def fEnum (F : FE) : FI := fun env => (fGive F env).bind fun r => (R.of r.1.seqs).bind fun ds => .ok (enumD ds, r.2)
theorem rel_enum {t : TE} {F : FE} (h : RelE E K ps p true t F) : RelI E K ps p (FwIt.iEnumT K (tCons t tNil)) (fEnum F) := by
  intro pa G H σ env fp S Q w
  refine rel_give h pa G H σ env fp S _ (R.wp_mono (R.wp_bind w) (fun r w1 v G1 H1 fp1 fv P => ?_) fun _ x => x)
  obtain ⟨ds, e, w2⟩ := R.wp_of (R.wp_bind w1)
  obtain ⟨d0, e0⟩ := r
  cases d0 with
  | lst o xs =>
    cases o with
    | true => cases e
    | false =>
      obtain ⟨c, rfl⟩ := ite_some e
      obtain ⟨a, vs, rfl, h1, rs⟩ := Ro.lst0 c P.ro
      exact ⟨a, rfl, .inl ⟨⟨vs, P.sr.sub.seq h1⟩, w2 _ G1 H1 fp1 P.toT (j_enumL h1 rs)⟩⟩
  | tup xs =>
    obtain ⟨c, rfl⟩ := ite_some e
    obtain ⟨a, vs, rfl, h1, rs⟩ := P.ro
    have z := rs.frz0 xs vs fv c
    subst z
    exact ⟨a, rfl, .inr ⟨⟨vs, same_t P.sr.sub h1⟩, w2 _ G1 H1 fp1 P.toT (j_enumT h1 rs)⟩⟩
  | _ => cases e

/-! ### for -/
def forL (Fg : FG) (Fb : FS) : List D → FS
  | [], env => .ok (.nx env)
  | d :: ds, env => (R.of (Fg d env)).bind fun e => (Fb e).bind fun c => match c with
    | .nx e2 => forL Fg Fb ds e2
    | .ct e2 => forL Fg Fb ds e2
    | .bk e2 => .ok (.nx e2)
    | .rt d e2 => .ok (.rt d e2)
def fFor (Fi : FI) (Fg : FG) (Fb : FS) : FS := fun env => (Fi env).bind fun r => forL Fg Fb r.1 r.2
theorem rels_for {js : List Nat} {wi : TI} {g : TG} {tb : TS} {Fi : FI} {Fg : FG} {Fb : FS} (hi : RelI E K ps p wi Fi) (hg : RelG K ps js g Fg) (hb : RelS E K ps tb Fb) : RelS E K ps (tFor wi g tb) (fFor Fi Fg Fb) := by
  intro pa G H σ env fp S T w
  refine hi pa G H σ env fp S _ (R.wp_mono (R.wp_bind w) (fun r w1 J G1 H1 fp1 P hJ => ?_) fun _ x => x)
  obtain ⟨ds, env1⟩ := r
  let W : Nat → Sg → Hp → Prop := fun i σ H => ∃ G env fp, SR K ps pa G H σ env fp ∧ Same G1 G ∧ (forL Fg Fb (ds.drop i) env).wp (PostS K ps pa G H fp T) (XW E K G H fp)
  refine ⟨fun i m σ H => m = ds.length - i ∧ i ≤ ds.length ∧ W i σ H, ⟨ds.length, by simp, Nat.zero_le _, G1, env1, fp1, P.sr, Same.refl G1, R.wp_mono w1 (fun c x => x.step P.stp) fun _ x => XW.mono P.stp x⟩, ?_⟩
  rintro i m σ2 H2 ⟨rfl, hle, G2, env2, fp2, S2, e2, w2⟩
  obtain ⟨j1, j2⟩ := hJ G2 H2 e2 S2.sub i hle
  by_cases hlt : i < ds.length
  · obtain ⟨jg, jy⟩ := j2 ds[i] (List.getElem?_eq_getElem hlt)
    refine .inr ⟨jg, W (i + 1), fun σ3 H3 h3 => ⟨ds.length - (i + 1), by omega, rfl, hlt, h3⟩, fun x H3 y => ?_⟩
    obtain ⟨G3, s3, rx⟩ := jy x H3 y
    rw [List.drop_eq_getElem_cons hlt] at w2
    obtain ⟨e, q, w3⟩ := R.wp_of (R.wp_bind w2)
    have S3 := S2.kept s3
    have st3 : Stp G2 H2 fp2 G3 H3 fp2 := s3.ofP
    refine hg pa G3 H3 σ2 env2 fp2 ds[i] x fz e S3 rx S3.one q _ fun σ4 fp4 S4 o4 _ => ?_
    have st4 : Stp G2 H2 fp2 G3 H3 fp4 := st3.weak fun b hb => (o4 b hb).elim id fun z => absurd rfl z
    refine hb pa G3 H3 σ4 e fp4 S4 _ (R.wp_mono (R.wp_bind w3) (fun c w4 => ?_) fun _ x => XW.mono st4 x)
    have up : ∀ {env5 : Env}, (forL Fg Fb (ds.drop (i + 1)) env5).wp (PostS K ps pa G2 H2 fp2 T) (XW E K G2 H2 fp2) → PostN K ps pa G3 H3 fp4 env5 (W (i + 1)) := fun {env5} w5 σ5 G5 H5 fp5 S5 s5 =>
      ⟨G5, env5, fp5, S5, e2.trans (s3.gg.trans s5.gg), R.wp_mono w5 (fun c x => x.step (st4.trans s5)) fun _ x => XW.mono (st4.trans s5) x⟩
    cases c with
    | nx e5 => exact up w4
    | ct e5 => exact up w4
    | bk e5 => exact PostN.step st4 w4
    | rt d e5 => exact PostR.step st4 w4
  · have e : i = ds.length := by omega
    refine .inl ⟨j1 e, ?_⟩
    rw [List.drop_eq_nil_of_le (by omega)] at w2
    exact w2 σ2 G2 H2 fp2 S2 (Stp.refl S2.sub)
/-! ### while -/
def whileL (C : FT) (Fb : FS) : Nat → FS
  | 0, _ => .no
  | n + 1, env => (C env).bind fun r => if r.1 = true then (Fb r.2).bind fun c => match c with
    | .nx e2 => whileL C Fb n e2
    | .ct e2 => whileL C Fb n e2
    | .bk e2 => .ok (.nx e2)
    | .rt d e2 => .ok (.rt d e2) else .ok (.nx r.2)
theorem rels_while {c : TT} {tb : TS} {C : FT} {Fb : FS} (n : Nat) (hc : RelT E K ps p c C) (hb : RelS E K ps tb Fb) : RelS E K ps (tWhile c tb) (whileL C Fb n) := by
  intro pa G H σ env fp S T w
  let W : Nat → Sg → Hp → Prop := fun m σ H => ∃ G env fp, SR K ps pa G H σ env fp ∧ (whileL C Fb m env).wp (PostS K ps pa G H fp T) (XW E K G H fp)
  refine ⟨W, ⟨n, G, env, fp, S, w⟩, ?_⟩
  rintro m σ2 H2 ⟨G2, env2, fp2, S2, w2⟩
  cases m with
  | zero => exact w2.elim
  | succ m =>
    refine hc pa G2 H2 σ2 env2 fp2 S2 _ (R.wp_mono (R.wp_bind w2) (fun r w3 G3 H3 fp3 P3 => ?_) fun _ x => x)
    by_cases k : r.1 = true
    · rw [if_pos k] at w3 ⊢
      refine ⟨W m, fun σ4 H4 h4 => ⟨m, Nat.lt_succ_self m, h4⟩, ?_⟩
      refine hb pa G3 H3 σ2 r.2 fp3 P3.sr _ (R.wp_mono (R.wp_bind w3) (fun c w4 => ?_) fun _ x => XW.mono P3.stp x)
      have up : ∀ {env5 : Env}, (whileL C Fb m env5).wp (PostS K ps pa G2 H2 fp2 T) (XW E K G2 H2 fp2) → PostN K ps pa G3 H3 fp3 env5 (W m) := fun {env5} w5 σ5 G5 H5 fp5 S5 s5 =>
        ⟨G5, env5, fp5, S5, R.wp_mono w5 (fun c x => x.step (P3.stp.trans s5)) fun _ x => XW.mono (P3.stp.trans s5) x⟩
      cases c with
      | nx e5 => exact up w4
      | ct e5 => exact up w4
      | bk e5 => exact PostN.step P3.stp w4
      | rt d e5 => exact PostR.step P3.stp w4
    · rw [if_neg k] at w3 ⊢
      exact w3 σ2 G3 H3 fp3 P3.sr P3.stp
end
end Fw
end

section
set_option linter.all false
set_option maxRecDepth 100000
namespace Fw
open PySem PySem.Spec L2
section
variable {E : XK} {K : PySem.W.Frag} {ps : List Nat} {pa : List V} {G H G' H' : Hp} {σ : Sg} {env env' : Env} {fp fp' fv : Fp} {p f p1 f1 p2 f2 p3 f3 : Bool}

theorem SR.wipe (S : SR K ps pa G H σ env fp) : ∀ vs : List Nat, (∀ j ∈ vs, j ∉ ps) → ∃ fp', SR K ps pa G H (L2.wipe σ vs) (wipeE env vs) fp' ∧ ∀ b, fp' b ≤ fp b
  | [], _ => ⟨fp, S, fun b => Nat.le_refl _⟩
  | v :: vs, h => by
    obtain ⟨f1, S1, l1⟩ := SR.wipe S vs fun j hj => h j (List.mem_cons_of_mem _ hj)
    show ∃ fp', SR K ps pa G H ((L2.wipe σ vs).set v none) ((wipeE env vs).set v none) fp' ∧ _
    by_cases c : v < (wipeE env vs).length
    · obtain ⟨s, g, k, h1, h2, h3, h4⟩ := S1.rs.split v (List.getElem?_eq_getElem c)
      subst h3
      refine ⟨fAdd fz k, ⟨S1.sub, h4 G H (Same.refl G) (fun b _ => ⟨rfl, rfl⟩) none none fz rfl, fun b => ?_, S1.pin.set (h v List.mem_cons_self)⟩, fun b => ?_⟩
      · have : g b + k b ≤ 1 := S1.one b
        show 0 + k b ≤ 1
        omega
      · have : g b + k b ≤ fp b := l1 b
        show 0 + k b ≤ fp b
        omega
    · have e1 : (wipeE env vs).set v none = wipeE env vs := List.set_eq_of_length_le (by omega)
      have e2 : (L2.wipe σ vs).set v none = L2.wipe σ vs := List.set_eq_of_length_le (by rw [S1.rs.len]; omega)
      rw [e1, e2]
      exact ⟨f1, S1, l1⟩
/-- the slots of a row forgotten are anything again -/
theorem Rs.unwipe {v : Nat} : ∀ {env : Env} {σ : Sg} {f : Fp}, Rs K G H (env.set v none) (σ.set v none) f → σ.length = env.length → Rs K G H (env.set v none) σ f := by
  intro env
  induction env generalizing v with
  | nil =>
    intro σ f h hl
    have : σ = [] := List.eq_nil_of_length_eq_zero hl
    subst this
    exact h
  | cons e es ih =>
    intro σ f h hl
    cases σ with
    | nil => cases hl
    | cons s τ =>
      cases v with
      | zero =>
        obtain ⟨s', τ', g, k, e1, e2, e3, e4⟩ := h
        injection e1 with e5 e6
        subst e5 e6
        exact ⟨s, τ, g, k, rfl, e2, e3, e4⟩
      | succ v =>
        obtain ⟨s', τ', g, k, e1, e2, e3, e4⟩ := h
        injection e1 with e5 e6
        subst e5 e6
        exact ⟨s, τ, g, k, rfl, e2, ih e3 (by simpa using hl), e4⟩
theorem wipeE_len (env : Env) : ∀ vs, (wipeE env vs).length = env.length
  | [] => rfl
  | v :: vs => by show ((wipeE env vs).set v none).length = _; rw [List.length_set, wipeE_len env vs]
theorem set_set_none {A : Type} (l : List (Option A)) (v : Nat) : (l.set v none).set v none = l.set v none := List.set_set ..
theorem wipeE_idem (env : Env) (vs : List Nat) {v : Nat} (h : v ∈ vs) : (wipeE env vs).set v none = wipeE env vs := by
  apply List.ext_getElem?
  intro k
  by_cases e : v = k
  · subst e
    by_cases c : v < env.length
    · rw [List.getElem?_set_self (by rw [wipeE_len]; exact c), wipe_get (w := wipeE) (fun _ => rfl) (fun _ _ _ => rfl), if_pos ⟨h, c⟩]
    · rw [List.getElem?_eq_none (by rw [List.length_set, wipeE_len]; omega), List.getElem?_eq_none (by rw [wipeE_len]; omega)]
  · rw [List.getElem?_set_ne e]
theorem wipe_set_comm (σ : Sg) (vs : List Nat) (v : Nat) : (L2.wipe σ vs).set v none = L2.wipe (σ.set v none) vs := by
  apply List.ext_getElem?
  intro k
  rw [wipe_get (w := L2.wipe) (fun _ => rfl) (fun _ _ _ => rfl) (σ.set v none), List.length_set]
  have hw := wipe_get (w := L2.wipe) (fun _ => rfl) (fun _ _ _ => rfl) σ vs k
  by_cases e : v = k
  · subst e
    by_cases c : v < σ.length
    · rw [List.getElem?_set_self (by rw [L2.wipe_length]; exact c)]
      by_cases d : v ∈ vs ∧ v < σ.length
      · rw [if_pos d]
      · rw [if_neg d, List.getElem?_set_self c]
    · rw [List.getElem?_eq_none (by rw [List.length_set, L2.wipe_length]; omega)]
      by_cases d : v ∈ vs ∧ v < σ.length
      · exact absurd d.2 c
      · rw [if_neg d, List.getElem?_eq_none (by rw [List.length_set]; omega)]
  · rw [List.getElem?_set_ne e, hw, List.getElem?_set_ne e]
/-- back in the def: its own slots stand as they stood; what is forgotten of them is forgotten -/
theorem SR.back (L : σ.length = env.length) : ∀ vs : List Nat, (∀ v ∈ vs, env.set v none = env) → SR K ps pa G H (L2.wipe σ vs) env fp → (∀ j ∈ vs, j ∉ ps) → SR K ps pa G H σ env fp
  | [], _, S, _ => S
  | v :: vs, h, S, hp => by
    have S' : SR K ps pa G H ((L2.wipe σ vs).set v none) env fp := S
    have e := h v List.mem_cons_self
    have S2 : SR K ps pa G H (L2.wipe σ vs) env fp := by
      refine ⟨S'.sub, ?_, S'.one, fun k i a e1 e2 => ?_⟩
      · have r := S'.rs
        rw [← e] at r
        have r2 := Rs.unwipe r (by rw [L2.wipe_length]; exact L)
        rw [e] at r2
        exact r2
      · have q := S'.pin k i a e1 e2
        have ne : v ≠ i := fun z => hp v List.mem_cons_self (by rw [z]; exact List.mem_of_getElem? e1)
        rw [List.getElem?_set_ne ne] at q
        exact q
    exact SR.back L vs (fun u hu => h u (List.mem_cons_of_mem _ hu)) S2 fun j hj => hp j (List.mem_cons_of_mem _ hj)

/-! ### comprehensions -/
def fYes : FT := fun env => .ok (true, env)
theorem rel_yes : RelT E K ps true tYes fYes := by
  intro pa G H σ env fp S Q w
  exact w G H fp ⟨S, Stp.refl S.sub, fun _ => ⟨rfl, rfl, Stp.refl S.sub⟩⟩
def lcL (Fg : FG) (Ft : FT) (Fe : FE) (vs : List Nat) : List D → List D → Env → R (List D × Env)
  | [], acc, env => .ok (acc, env)
  | d :: ds, acc, env => (R.of (Fg d env)).bind fun e => (Ft e).bind fun t => if t.1 = true then (Fe t.2).bind fun r => if acc.length < big then lcL Fg Ft Fe vs ds (acc ++ [r.1]) (wipeE r.2 vs) else .no
      else lcL Fg Ft Fe vs ds acc (wipeE t.2 vs)
def fLc (p : Bool) (vs : List Nat) (Fi : FI) (Fg : FG) (Ft : FT) (Fe : FE) : FE := fun env => (Fi env).bind fun r => (lcL Fg Ft Fe vs r.1 [] (wipeE r.2 vs)).bind fun s => .ok (.lst true s.1, if p = true then env else s.2)

theorem app_ro {a : Addr} {acc : List D} {fr fy : Fp} {d : D} {y : V} {vs : List V} (S : Same G H) (r : Ro K G H (.lst true acc) (.ref a) fr) (ha : H a = some (.lst vs)) (ry : Ro K G H d y fy) (o : ∀ b, fr b + fy b ≤ 1) :
    Ro K G (upd H a (.lst (vs ++ [y]))) (.lst true (acc ++ [d])) (.ref a) (fAdd fr fy) := by
  obtain ⟨a', ws, g, e1, e2, e3, e4⟩ := r
  cases e1
  rw [if_pos rfl] at e2
  rw [e2.1] at ha
  cases ha
  subst e4
  have keep : ∀ (h : Fp), (∀ b, h b ≠ 0 → b ≠ a) → ∀ b, h b ≠ 0 → upd H a (.lst (vs ++ [y])) b = H b ∧ G b = G b := fun h k b hb => ⟨upd_ne (k b hb), rfl⟩
  have na : ∀ b, fAt true a g b + fy b ≤ 1 := o
  have ga : g a = 0 ∧ fy a = 0 := by
    have := na a
    unfold fAt at this
    rw [if_pos ⟨rfl, rfl⟩] at this
    omega
  refine ⟨a, vs ++ [y], fAdd g fy, rfl, ?_, ?_, ?_⟩
  · rw [if_pos rfl]
    exact ⟨upd_same, e2.2⟩
  · refine Ros.app (e3.mono (Same.refl G) acc vs g (keep g fun b hb z => hb (by rw [z]; exact ga.1))) ?_
    have rz : Ros K G (upd H a (.lst (vs ++ [y]))) [d] [y] (fAdd fy fz) := ⟨y, [], fy, fz, rfl, ry.mono (Same.refl G) d y fy (keep fy fun b hb z => hb (by rw [z]; exact ga.2)), ⟨rfl, rfl⟩, rfl⟩
    have e : fAdd fy fz = fy := rfl
    rw [e] at rz
    exact rz
  · funext b
    show g b + (if true = true ∧ b = a then 1 else 0) + fy b = g b + fy b + if true = true ∧ b = a then 1 else 0
    omega

structure LcI (K : PySem.W.Frag) (ps : List Nat) (pa : List V) (p : Bool) (σ : Sg) (vs : List Nat) (D : Addr) (G1 H1 : Hp) (fp1 : Fp) (env0 : Env) (fp0 : Fp) (acc : List Fw.D) (env2 : Env) (G H : Hp) (fp2 fr : Fp) : Prop where
  sr : SR K ps pa G H (L2.wipe σ vs) env2 fp2
  ro : Ro K G H (.lst true acc) (.ref D) fr
  one : ∀ b, fp2 b + fr b ≤ 1
  stp : Stp G1 H1 fp1 G H fp2
  own : ∀ b, fr b ≠ 0 → (p = false ∧ fp1 b ≠ 0) ∨ H1 b = none
  pur : p = true → env2 = env0 ∧ fp2 = fp0 ∧ Stp G1 H1 fz G H fz
  wip : ∀ v ∈ vs, env2.set v none = env2
  len : env2.length = env0.length

theorem LcI.turn {vs : List Nat} {D : Addr} {G1 H1 G5 H5 : Hp} {fp1 fp0 fp2 fr fp5 fy : Fp} {env0 env2 env5 : Env} {acc : List Fw.D} {σ5 : Sg} {d : Fw.D} {y : V} {ws : List V}
    (I : LcI K ps pa p σ vs D G1 H1 fp1 env0 fp0 acc env2 G H fp2 fr) (hv : ∀ j ∈ vs, j ∉ ps)
    (S5 : SR K ps pa G5 H5 σ5 env5 fp5) (st : Stp G H fp2 G5 H5 fp5) (pu : p = true → Stp G H fz G5 H5 fz ∧ wipeE env5 vs = wipeE env2 vs) (wσ : L2.wipe σ5 vs = L2.wipe σ vs) (le : env5.length = env2.length)
    (hD : H D = some (.lst ws)) (ry : Ro K G5 H5 d y fy) (o5 : ∀ b, fp5 b + fy b ≤ 1) (oy : ∀ b, fy b ≠ 0 → (p = false ∧ fp2 b ≠ 0) ∨ H b = none) :
    ∃ fp6, LcI K ps pa p σ vs D G1 H1 fp1 env0 fp0 (acc ++ [d]) (wipeE env5 vs) G5 (upd H5 D (.lst (ws ++ [y]))) fp6 (fAdd fr fy) := by
  have frD : fr D ≠ 0 := by
    obtain ⟨a', ws', g, e1, e2, e3, e4⟩ := I.ro
    cases e1
    rw [e4]
    simp [fAt]
  have frz : ∀ b, fr b ≠ 0 → fp2 b = 0 := fun b hb => by have := I.one b; omega
  have kr : ∀ b, fr b ≠ 0 → H5 b = H b ∧ G5 b = G b := fun b hb => by
    obtain ⟨_, o, ho, _⟩ := I.ro.own _ _ fr b hb
    obtain ⟨h1, h2⟩ := st.keep b o ho (frz b hb)
    exact ⟨h1.trans ho.symm, h2⟩
  have r5 : Ro K G5 H5 (.lst true acc) (.ref D) fr := I.ro.mono st.gg _ _ fr kr
  have hD5 : H5 D = some (.lst ws) := (kr D frD).1.trans hD
  have dis : ∀ b, fr b ≠ 0 → fp5 b = 0 ∧ fy b = 0 := fun b hb => by
    obtain ⟨_, o, ho, _⟩ := I.ro.own _ _ fr b hb
    constructor
    · by_cases q : fp5 b = 0
      · exact q
      · rcases st.new b q with w | w
        · exact absurd (frz b hb) w
        · rw [ho] at w; cases w
    · by_cases q : fy b = 0
      · exact q
      · rcases oy b q with ⟨_, w⟩ | w
        · exact absurd (frz b hb) w
        · rw [ho] at w; cases w
  have oo : ∀ b, fr b + fy b ≤ 1 := fun b => by
    by_cases q : fr b = 0
    · have := o5 b; omega
    · have := (dis b q).2; have := I.one b; omega
  have ra := app_ro S5.sub r5 hD5 ry oo
  have fpD : fp5 D = 0 := (dis D frD).1
  have up : ∀ {τ : Sg} {en : Env} {fq : Fp}, SR K ps pa G5 H5 τ en fq → fq D = 0 → SR K ps pa G5 (upd H5 D (.lst (ws ++ [y]))) τ en fq := fun {τ en fq} S z => by
    refine ⟨fun b o hb => ?_, S.rs.mono (Same.refl G5) fun b hb => ⟨upd_ne fun q => hb (by rw [q]; exact z), rfl⟩, S.one, S.pin⟩
    have ne : b ≠ D := fun q => by
      have := (r5.own _ _ fr D frD).1
      rw [q, this] at hb
      cases hb
    rw [upd_ne ne]
    exact S.sub b o hb
  have h1D : (p = false ∧ fp1 D ≠ 0) ∨ H1 D = none := I.own D frD
  have stU : ∀ fq fq', Stp G1 H1 fq G5 H5 fq' → (fq D ≠ 0 ∨ H1 D = none) → Stp G1 H1 fq G5 (upd H5 D (.lst (ws ++ [y]))) fq' := fun fq fq' s hq => by
    refine ⟨s.gg, fun b o hb => ?_, fun b o hb z => ?_, s.new, fun b hb => ?_⟩
    · have ne : b ≠ D := fun q => by
        have := (r5.own _ _ fr D frD).1
        rw [q, this] at hb
        cases hb
      rw [upd_ne ne]
      exact s.sub b o hb
    · have ne : b ≠ D := fun q => by
        subst q
        rcases hq with w | w
        · exact w z
        · rw [w] at hb; cases hb
      rw [upd_ne ne]
      exact s.keep b o hb z
    · by_cases ne : b = D
      · rw [ne, upd_same] at hb; cases hb
      · rw [upd_ne ne] at hb
        exact s.fre b hb
  have own6 : ∀ b, fAdd fr fy b ≠ 0 → (p = false ∧ fp1 b ≠ 0) ∨ H1 b = none := fun b hb => by
    have hb' : fr b + fy b ≠ 0 := hb
    by_cases q : fr b = 0
    · rcases oy b (by omega) with ⟨w1, w2⟩ | w
      · rcases I.stp.new b w2 with w | w
        · exact .inl ⟨w1, w⟩
        · exact .inr w
      · exact .inr (I.stp.fre b w)
    · exact I.own b q
  have wip6 : ∀ v ∈ vs, (wipeE env5 vs).set v none = wipeE env5 vs := fun v h => wipeE_idem env5 vs h
  have len6 : (wipeE env5 vs).length = env0.length := by rw [wipeE_len, le, I.len]
  by_cases c : p = true
  · obtain ⟨pu1, pu2⟩ := pu c
    obtain ⟨a1, a2, a3⟩ := I.pur c
    have e2 : wipeE env5 vs = env2 := by
      rw [pu2]
      have : ∀ us : List Nat, (∀ v ∈ us, v ∈ vs) → wipeE env2 us = env2 := by
        intro us
        induction us with
        | nil => intro _; rfl
        | cons u us ih =>
          intro h
          show (wipeE env2 us).set u none = env2
          rw [ih fun v hv => h v (List.mem_cons_of_mem _ hv)]
          exact I.wip u (h u List.mem_cons_self)
      exact this vs fun v h => h
    refine ⟨fp2, ⟨?_, ra, fun b => ?_, ?_, own6, fun _ => ⟨e2.trans a1, a2, ?_⟩, wip6, len6⟩⟩
    · rw [e2]
      exact up (I.sr.kept pu1) (frz D frD)
    · show fp2 b + (fr b + fy b) ≤ 1
      by_cases q : fr b = 0
      · by_cases q2 : fy b = 0
        · have := I.one b; omega
        · rcases oy b q2 with ⟨w1, _⟩ | w
          · rw [c] at w1; cases w1
          · have z : fp2 b = 0 := by
              by_cases q3 : fp2 b = 0
              · exact q3
              · obtain ⟨_, o, ho, _⟩ := I.sr.rs.own b q3
                rw [ho] at w; cases w
            have := oo b
            omega
      · have := (dis b q).2; have := I.one b; omega
    · exact stU _ _ (I.stp.trans pu1.ofP) (h1D.elim (fun z => .inl z.2) .inr)
    · refine stU _ _ (a3.trans pu1) (h1D.elim (fun z => ?_) .inr)
      rw [c] at z
      cases z.1
  · obtain ⟨fp6, S6, l6⟩ := S5.wipe vs hv
    refine ⟨fp6, ⟨?_, ra, fun b => ?_, ?_, own6, fun z => absurd z c, wip6, len6⟩⟩
    · rw [← wσ]
      exact up S6 (by have := l6 D; omega)
    · show fp6 b + (fr b + fy b) ≤ 1
      have := l6 b
      by_cases q : fr b = 0
      · have := o5 b; omega
      · have := dis b q; have := I.one b; omega
    · exact stU _ _ ((I.stp.trans st).weak fun b hb => by have := l6 b; omega) (h1D.elim (fun z => .inl z.2) .inr)

theorem LcI.skip {vs : List Nat} {D : Addr} {G1 H1 G5 H5 : Hp} {fp1 fp0 fp2 fr fp5 : Fp} {env0 env2 env5 : Env} {acc : List Fw.D} {σ5 : Sg}
    (I : LcI K ps pa p σ vs D G1 H1 fp1 env0 fp0 acc env2 G H fp2 fr) (hv : ∀ j ∈ vs, j ∉ ps)
    (S5 : SR K ps pa G5 H5 σ5 env5 fp5) (st : Stp G H fp2 G5 H5 fp5) (pu : p = true → Stp G H fz G5 H5 fz ∧ wipeE env5 vs = wipeE env2 vs) (wσ : L2.wipe σ5 vs = L2.wipe σ vs) (le : env5.length = env2.length) :
    ∃ fp6, LcI K ps pa p σ vs D G1 H1 fp1 env0 fp0 acc (wipeE env5 vs) G5 H5 fp6 fr := by
  have frz : ∀ b, fr b ≠ 0 → fp2 b = 0 := fun b hb => by have := I.one b; omega
  have r5 : Ro K G5 H5 (.lst true acc) (.ref D) fr := I.ro.mono st.gg _ _ fr fun b hb => by
    obtain ⟨_, o, ho, _⟩ := I.ro.own _ _ fr b hb
    obtain ⟨h1, h2⟩ := st.keep b o ho (frz b hb)
    exact ⟨h1.trans ho.symm, h2⟩
  have dis : ∀ b, fr b ≠ 0 → fp5 b = 0 := fun b hb => by
    obtain ⟨_, o, ho, _⟩ := I.ro.own _ _ fr b hb
    by_cases q : fp5 b = 0
    · exact q
    · rcases st.new b q with w | w
      · exact absurd (frz b hb) w
      · rw [ho] at w; cases w
  have wip6 : ∀ v ∈ vs, (wipeE env5 vs).set v none = wipeE env5 vs := fun v h => wipeE_idem env5 vs h
  have len6 : (wipeE env5 vs).length = env0.length := by rw [wipeE_len, le, I.len]
  by_cases c : p = true
  · obtain ⟨pu1, pu2⟩ := pu c
    obtain ⟨a1, a2, a3⟩ := I.pur c
    have e2 : wipeE env5 vs = env2 := by
      rw [pu2]
      have : ∀ us : List Nat, (∀ v ∈ us, v ∈ vs) → wipeE env2 us = env2 := by
        intro us
        induction us with
        | nil => intro _; rfl
        | cons u us ih =>
          intro h
          show (wipeE env2 us).set u none = env2
          rw [ih fun v hv => h v (List.mem_cons_of_mem _ hv)]
          exact I.wip u (h u List.mem_cons_self)
      exact this vs fun v h => h
    refine ⟨fp2, ⟨?_, r5, I.one, I.stp.trans pu1.ofP, I.own, fun _ => ⟨e2.trans a1, a2, a3.trans pu1⟩, wip6, len6⟩⟩
    rw [e2]
    exact I.sr.kept pu1
  · obtain ⟨fp6, S6, l6⟩ := S5.wipe vs hv
    refine ⟨fp6, ⟨?_, r5, fun b => ?_, (I.stp.trans st).weak fun b hb => by have := l6 b; omega, I.own, fun z => absurd z c, wip6, len6⟩⟩
    · rw [← wσ]
      exact S6
    · have := l6 b
      by_cases q : fr b = 0
      · have := S5.one b; omega
      · have := dis b q; have := I.one b; omega
theorem But.len {js : List Nat} {σ' : Sg} (h : But js σ σ' env env') : env'.length = env.length := by
  obtain ⟨_, h2⟩ := h js fun j hj => hj
  have := congrArg List.length h2
  rw [wipeE_len, wipeE_len] at this
  exact this
theorem rel_lc {js vs : List Nat} {wi : TI} {g : TG} {tt : TT} {te : TE} {Fi : FI} {Fg : FG} {Ft : FT} {Fe : FE} (hi : RelI E K ps p1 wi Fi) (hg : RelG K ps js g Fg) (ht : RelT E K ps p2 tt Ft) (he : RelE E K ps p3 true te Fe)
    (hjs : ∀ j ∈ js, j ∈ vs := by decide) (hv : ∀ j ∈ vs, j ∉ ps := by decide) : RelE E K ps (p1 && (p2 && p3)) true (tLc wi g tt te vs) (fLc (p1 && (p2 && p3)) vs Fi Fg Ft Fe) := by
  intro pa G H σ env fp S Q w
  generalize hp : (p1 && (p2 && p3)) = p at w
  have hp' : p = true → p1 = true ∧ p2 = true ∧ p3 = true := fun z => by
    rw [z] at hp
    obtain ⟨z1, z2⟩ := Bool.and_eq_true_iff.mp hp
    exact ⟨z1, Bool.and_eq_true_iff.mp z2⟩
  refine hi pa G H σ env fp S _ (R.wp_mono (R.wp_bind w) (fun r w1 J G1 H1 fp1 P hJ => ?_) fun _ x => x)
  obtain ⟨ds, env1⟩ := r
  replace w1 : (lcL Fg Ft Fe vs ds [] (wipeE env1 vs)).wp _ _ := R.wp_bind w1
  intro D hD
  obtain ⟨fp0, S0, l0⟩ := P.sr.wipe vs hv
  let Wd : List Fw.D × Env → Prop := fun s => (R.ok (Fw.D.lst true s.1, if p = true then env else s.2)).wp (fun r => ∀ v G' H' fp' fv, PostE K ps pa p true G H σ env fp r.1 r.2 v G' H' fp' fv → Q v H') (XW E K G H fp)
  let W : Nat → Hp → Prop := fun i H2 => ∃ G2 env2 fp2 fr acc ws, LcI K ps pa p σ vs D G1 H1 fp1 (wipeE env1 vs) fp0 acc env2 G2 H2 fp2 fr ∧ Same G1 G2 ∧ H2 D = some (.lst ws) ∧ ws.length = acc.length ∧
    (lcL Fg Ft Fe vs (ds.drop i) acc env2).wp Wd (XW E K G H fp)
  have stD := Stp.newO (f := fp1) (o := .lst []) P.sr.sub hD
  refine ⟨fun i m H2 => m = ds.length - i ∧ i ≤ ds.length ∧ W i H2, ⟨ds.length, by simp, Nat.zero_le _, G1, wipeE env1 vs, fp0, fAt true D fz, [], [], ?_, Same.refl G1, upd_same, rfl, w1⟩, ?_⟩
  · refine ⟨⟨stD.sub, S0.rs.mono (Same.refl G1) fun b hb => ?_, S0.one, S0.pin⟩, new_lst P.sr.sub (show Ros K G1 H1 [] [] fz from ⟨rfl, rfl⟩) hD, fun b => ?_, stD.weak fun b hb => ?_, fun b hb => ?_, fun z => ⟨rfl, rfl, (Stp.newO P.sr.sub hD).noF⟩, fun v hv => wipeE_idem env1 vs hv, rfl⟩
    · obtain ⟨_, o, ho, _⟩ := S0.rs.own b hb
      exact ⟨upd_ne (ne_of_none ho hD), rfl⟩
    · by_cases c : b = D
      · subst c
        have : fp0 b = 0 := by
          by_cases q : fp0 b = 0
          · exact q
          · obtain ⟨_, o, ho, _⟩ := S0.rs.own b q
            rw [ho] at hD; cases hD
        simp [fAt, fz, this]
      · simp [fAt, fz, c, S0.one b]
    · have := l0 b
      unfold fAt
      omega
    · refine .inr ?_
      by_cases c : b = D
      · rw [c]; exact hD
      · exact absurd (by simp [fAt, fz, c]) hb
  · rintro i m H2 ⟨rfl, hle, G2, env2, fp2, fr, acc, ws, I, e2, hDw, hlen, w2⟩
    obtain ⟨j1, j2⟩ := hJ G2 H2 e2 I.sr.sub i hle
    by_cases hlt : i < ds.length
    · obtain ⟨jg, jy⟩ := j2 ds[i] (List.getElem?_eq_getElem hlt)
      refine .inr ⟨jg, W (i + 1), fun H3 h3 => ⟨ds.length - (i + 1), by omega, rfl, hlt, h3⟩, fun x H3 y => ?_⟩
      obtain ⟨G3, s3, rx⟩ := jy x H3 y
      rw [List.drop_eq_getElem_cons hlt] at w2
      obtain ⟨e, q, w3⟩ := R.wp_of (R.wp_bind w2)
      have S3 := I.sr.kept s3
      have st3 : Stp G2 H2 fp2 G3 H3 fp2 := s3.ofP
      refine hg pa G3 H3 (L2.wipe σ vs) env2 fp2 ds[i] x fz e S3 rx S3.one q _ fun σ4 fp4 S4 o4 bt => ?_
      obtain ⟨bt1, bt2⟩ := bt vs hjs
      have idw : L2.wipe (L2.wipe σ vs) vs = L2.wipe σ vs := by
        apply List.ext_getElem?
        intro k
        rw [wipe_get (w := L2.wipe) (fun _ => rfl) (fun _ _ _ => rfl) (L2.wipe σ vs), L2.wipe_length, wipe_get (w := L2.wipe) (fun _ => rfl) (fun _ _ _ => rfl) σ]
        by_cases c : k ∈ vs ∧ k < σ.length
        · rw [if_pos c, if_pos c]
        · rw [if_neg c, if_neg c]
      refine ⟨bt1.trans idw, ?_⟩
      have st4 : Stp G2 H2 fp2 G3 H3 fp4 := st3.weak fun b hb => (o4 b hb).elim id fun z => absurd rfl z
      have toXW : ∀ {G5 H5 : Hp} {fp5 : Fp}, Stp G2 H2 fp2 G5 H5 fp5 → ∀ ex, XW E K G H fp ex → XW E K G5 H5 fp5 ex := fun s ex h => XW.mono s (XW.mono I.stp (XW.mono P.stp h))
      refine ht pa G3 H3 σ4 e fp4 S4 _ (R.wp_mono (R.wp_bind w3) (fun t w4 G4 H4 fpt Pt => ?_) (toXW st4))
      have st4t := st4.trans Pt.stp
      have leE := But.len bt
      by_cases ct : t.1 = true
      · rw [if_pos ct] at w4 ⊢
        refine he pa G4 H4 σ4 t.2 fpt Pt.sr _ (R.wp_mono (R.wp_bind w4) (fun re w5 v G5 H5 fp5 fy Pe => ?_) (toXW st4t))
        by_cases cb : acc.length < big
        · rw [if_pos cb] at w5
          have lre : re.2.length = env2.length := by
            have a := Pe.sr.rs.len
            have b := Pt.sr.rs.len
            have c := S4.rs.len
            omega
          have hpu : p = true → Stp G2 H2 fz G5 H5 fz ∧ wipeE re.2 vs = wipeE env2 vs := fun z => by
            obtain ⟨z1, z2, z3⟩ := hp' z
            obtain ⟨b1, b2, b3⟩ := Pt.pur z2
            obtain ⟨c1, c2, c3⟩ := Pe.pur z3
            refine ⟨(s3.trans b3).trans c3, ?_⟩
            rw [c1, b1, bt2]
          have how : ∀ b, fy b ≠ 0 → (p = false ∧ fp2 b ≠ 0) ∨ H2 b = none := fun b hb => by
            rcases Pe.own rfl b hb with ⟨w1, w2⟩ | w
            · rcases st4t.new b w2 with w | w
              · refine .inl ⟨?_, w⟩
                rw [← hp, w1]
                simp
              · exact .inr w
            · exact .inr (st4t.fre b w)
          obtain ⟨fp6, I6⟩ := I.turn hv Pe.sr (st4t.trans Pe.stp) hpu (bt1.trans idw) lre hDw Pe.ro (Pe.one rfl) how
          refine ⟨ws, ?_, ?_, G5, _, fp6, fAdd fr fy, acc ++ [re.1], ws ++ [v], I6, e2.trans ((st4t.trans Pe.stp).gg), upd_same, by rw [List.length_append, List.length_append, hlen]; rfl, w5⟩
          · have frD : fr D ≠ 0 := by
              obtain ⟨a', ws', g, e1, e2, e3, e4⟩ := I.ro
              cases e1
              rw [e4]
              simp [fAt]
            exact ((st4t.trans Pe.stp).keep D _ hDw (by have := I.one D; omega)).1
          · rw [hlen]
            exact Nat.lt_of_lt_of_le cb (big_line (Nat.le_refl _))
        · rw [if_neg cb] at w5
          exact w5.elim
      · rw [if_neg ct] at w4 ⊢
        have hpu : p = true → Stp G2 H2 fz G4 H4 fz ∧ wipeE t.2 vs = wipeE env2 vs := fun z => by
          obtain ⟨z1, z2, z3⟩ := hp' z
          obtain ⟨b1, b2, b3⟩ := Pt.pur z2
          refine ⟨s3.trans b3, ?_⟩
          rw [b1, bt2]
        have lt : t.2.length = env2.length := by
          have b := Pt.sr.rs.len
          have c := S4.rs.len
          omega
        obtain ⟨fp6, I6⟩ := I.skip hv Pt.sr st4t hpu (bt1.trans idw) lt
        refine ⟨G4, _, fp6, fr, acc, ws, I6, e2.trans st4t.gg, ?_, hlen, w4⟩
        have frD : fr D ≠ 0 := by
          obtain ⟨a', ws', g, e1, e2, e3, e4⟩ := I.ro
          cases e1
          rw [e4]
          simp [fAt]
        exact (st4t.keep D _ hDw (by have := I.one D; omega)).1
    · have e : i = ds.length := by omega
      refine .inl ⟨j1 e, ?_⟩
      rw [List.drop_eq_nil_of_le (by omega)] at w2
      have Lσ : σ.length = env2.length := by rw [I.len, wipeE_len]; exact P.sr.rs.len
      by_cases c : p = true
      · obtain ⟨a1, a2, a3⟩ := I.pur c
        obtain ⟨z1, z2, z3⟩ := hp' c
        obtain ⟨b1, b2, b3⟩ := P.pur z1
        have w3 : (R.ok (Fw.D.lst true acc, if p = true then env else env2)).wp (fun r => ∀ v G' H' fp' fv, PostE K ps pa p true G H σ env fp r.1 r.2 v G' H' fp' fv → Q v H') (XW E K G H fp) := w2
        rw [if_pos c] at w3
        have ss := b3.trans a3
        refine w3 _ G2 H2 fp fr ⟨S.kept ss, I.ro, ss.ofP, fun _ => ⟨rfl, rfl, ss⟩, fun _ b => ?_, fun _ b hb => ?_⟩
        · by_cases q : fr b = 0
          · rw [q]; exact S.one b
          · have : fp b = 0 := by
              by_cases q2 : fp b = 0
              · exact q2
              · obtain ⟨_, o, ho, _⟩ := S.rs.own b q2
                rcases I.own b q with ⟨w, _⟩ | w
                · rw [c] at w; cases w
                · rw [b3.fre b w] at ho; cases ho
            have := I.one b
            omega
        · rcases I.own b hb with ⟨w, _⟩ | w
          · rw [c] at w; cases w
          · exact .inr (b3.fre b w)
      · have w3 : (R.ok (Fw.D.lst true acc, if p = true then env else env2)).wp (fun r => ∀ v G' H' fp' fv, PostE K ps pa p true G H σ env fp r.1 r.2 v G' H' fp' fv → Q v H') (XW E K G H fp) := w2
        rw [if_neg c] at w3
        refine w3 _ G2 H2 fp2 fr ⟨SR.back Lσ vs I.wip I.sr hv, I.ro, P.stp.trans I.stp, fun z => absurd z c, fun _ => I.one, fun _ b hb => ?_⟩
        rcases I.own b hb with ⟨w, w2⟩ | w
        · rcases P.stp.new b w2 with w' | w'
          · exact .inl ⟨w, w'⟩
          · exact .inr w'
        · exact .inr (P.stp.fre b w)
end
end Fw
end

section
set_option linter.all false
set_option maxRecDepth 100000
namespace Fw
open PySem PySem.Spec L2
section
variable {E : XK} {K : PySem.W.Frag} {ps : List Nat} {pa : List V} {G H G' H' : Hp} {σ τ : Sg} {env env' : Env} {fp fp' fv : Fp} {p f p1 f1 p2 f2 p3 f3 : Bool}

/-! ### slots taken out and put back -/
def takeS : List Nat → Env → Option (List D × Env)
  | [], env => some ([], env)
  | i :: is, env => match env[i]? with
    | some (some d) => (takeS is (env.set i none)).map fun r => (d :: r.1, r.2)
    | _ => none
def putS : List Nat → List D → Env → Option Env
  | [], [], env => some env
  | i :: is, d :: ds, env => match env[i]? with
    | some none => putS is ds (env.set i (some d))
    | _ => none
  | _, _, _ => none
/-- what stands at these slots -/
def Rpin (K : PySem.W.Frag) (G H : Hp) (σ : Sg) : List Nat → List D → Fp → Prop
  | [], [], f => f = fz
  | i :: is, d :: ds, f => ∃ v g h, σ[i]? = some (some v) ∧ Ro K G H d v g ∧ Rpin K G H σ is ds h ∧ f = fAdd g h
  | _, _, _ => False
theorem take_rs : ∀ {is : List Nat} {env env' : Env} {ds : List D} {fp : Fp}, Rs K G H env σ fp → takeS is env = some (ds, env') → ∃ f h, Rpin K G H σ is ds f ∧ Rs K G H env' σ h ∧ fp = fAdd f h
  | [], env, _, ds, fp, r, e => by
    cases e
    exact ⟨fz, fp, rfl, r, by funext b; show fp b = 0 + fp b; omega⟩
  | i :: is, env, env', ds, fp, r, e => by
    unfold takeS at e
    cases q : env[i]? with
    | none => rw [q] at e; cases e
    | some o =>
      cases o with
      | none => rw [q] at e; cases e
      | some d =>
        rw [q] at e
        cases q2 : takeS is (env.set i none) with
        | none =>
          have e2 : (takeS is (env.set i none)).map (fun r => (d :: r.1, r.2)) = some (ds, env') := e
          rw [q2] at e2
          cases e2
        | some r2 =>
          have e2 : (takeS is (env.set i none)).map (fun r => (d :: r.1, r.2)) = some (ds, env') := e
          rw [q2] at e2
          cases e2
          obtain ⟨s, g, h, h1, ⟨v, rfl, h2⟩, h3, h4⟩ := r.split i q
          subst h3
          have rn := h4 G H (Same.refl G) (fun b _ => ⟨rfl, rfl⟩) none (some v) fz rfl
          rw [set_same h1] at rn
          obtain ⟨f2, k, r3, r4, e5⟩ := take_rs rn q2
          refine ⟨fAdd g f2, k, ⟨v, g, f2, h1, h2, r3, rfl⟩, r4, ?_⟩
          funext b
          have : 0 + h b = f2 b + k b := congrFun e5 b
          show g b + h b = g b + f2 b + k b
          omega
theorem put_rs : ∀ {is : List Nat} {ds : List D} {env env' : Env} {f h : Fp}, Rs K G H env σ h → Rpin K G H σ is ds f → putS is ds env = some env' → Rs K G H env' σ (fAdd f h)
  | [], [], env, _, f, h, r, q, e => by
    cases e
    have q' : f = fz := q
    subst q'
    have : fAdd fz h = h := by funext b; show 0 + h b = h b; omega
    rw [this]
    exact r
  | i :: is, d :: ds, env, _, f, h, r, ⟨v, g, k, h1, h2, h3, h4⟩, e => by
    subst h4
    unfold putS at e
    cases q : env[i]? with
    | none => rw [q] at e; cases e
    | some o =>
      cases o with
      | some _ => rw [q] at e; cases e
      | none =>
        rw [q] at e
        obtain ⟨s, g0, h0, a1, a2, a3, a4⟩ := r.split i q
        have a2' : g0 = fz := a2
        subst a2' a3
        have rn := a4 G H (Same.refl G) (fun b _ => ⟨rfl, rfl⟩) (some d) (some v) g ⟨v, rfl, h2⟩
        rw [set_same h1] at rn
        have rr := put_rs rn h3 e
        have e2 : fAdd k (fAdd g h0) = fAdd (fAdd g k) (fAdd fz h0) := by
          funext b
          show k b + (g b + h0 b) = g b + k b + (0 + h0 b)
          omega
        rw [← e2]
        exact rr
  | [], _ :: _, _, _, _, _, _, q, _ => q.elim
  | _ :: _, [], _, _, _, _, _, q, _ => q.elim
theorem Rpin.own : ∀ {is : List Nat} {ds : List D} {f : Fp}, Rpin K G H σ is ds f → ∀ b, f b ≠ 0 → G b = none ∧ ∃ o, H b = some o ∧ Mut (some o)
  | [], [], f, r, b, h => absurd (by rw [show f = fz from r]; rfl) h
  | i :: is, d :: ds, f, ⟨v, g, k, h1, h2, h3, h4⟩, b, hb => by
    subst h4
    by_cases c : g b = 0
    · exact Rpin.own h3 b (by have : g b + k b ≠ 0 := hb; omega)
    · exact h2.own d v g b c
  | [], _ :: _, _, q, _, _ => q.elim
  | _ :: _, [], _, q, _, _ => q.elim
theorem Rpin.at : ∀ {is js : List Nat} {ds : List D} {f : Fp}, Rpin K G H σ is ds f → is.length = js.length → (∀ (k i j : Nat), is[k]? = some i → js[k]? = some j → σ[i]? = τ[j]?) → Rpin K G H τ js ds f
  | [], [], [], f, r, _, _ => r
  | i :: is, j :: js, d :: ds, f, ⟨v, g, k, h1, h2, h3, h4⟩, hl, hs =>
    ⟨v, g, k, by rw [← hs 0 i j rfl rfl]; exact h1, h2, Rpin.at h3 (by simpa using hl) fun n a b e1 e2 => hs (n + 1) a b (by simpa using e1) (by simpa using e2), h4⟩
  | [], [], _ :: _, _, q, _, _ => q.elim
  | _ :: _, _, [], _, q, _, _ => q.elim
  | [], _ :: _, _, _, _, hl, _ => by cases hl
  | _ :: _, [], _, _, _, hl, _ => by cases hl

/-! ### a def's promise -/
abbrev Fn := List D → R (D × List D)
/-- the arguments ds, all frozen but those at the places ps; ps: the def may change them, and tells what they hold behind it -/
def spF (K : PySem.W.Frag) (ps : List Nat) (F : Fn) : Sp := fun vs H Q E => ∃ G ds f, Same G H ∧ Ros K G H ds vs f ∧ (∀ b, f b ≤ 1) ∧
  (F ds).wp (fun r => ∀ v G' H' fv f', Ro K G' H' r.1 v fv → Rpin K G' H' (vs.map some) ps r.2 f' → (∀ b, f' b + fv b ≤ 1) → Stp G H f G' H' f' → (∀ b, fv b ≠ 0 → f b ≠ 0 ∨ H b = none) → Q v H') (XW E K G H f)
def outF (ps : List Nat) (d : D) (env : Env) : R (D × List D) := (R.of (takeS ps env)).bind fun r => .ok (d, r.1)
/-- the function of a body: n slots, those of the arguments first -/
def fnF (ps : List Nat) (n : Nat) (F : FS) : Fn := fun ds => (F (ds.map some ++ List.replicate (n - ds.length) none)).bind fun c => match c with
  | .rt d env => outF ps d env
  | .nx env => outF ps .non env
  | _ => .no
theorem Ros.start : ∀ {ds : List D} {vs : List V} {f : Fp} (k : Nat), Ros K G H ds vs f → Rs K G H (ds.map some ++ List.replicate k none) (vs.map some ++ List.replicate k none) f
  | [], _, _, k, ⟨e1, e2⟩ => by
    subst e1 e2
    show Rs K G H (List.replicate k none) (List.replicate k none) fz
    induction k with
    | zero => exact ⟨rfl, rfl⟩
    | succ k ih => exact ⟨none, _, fz, fz, rfl, rfl, ih, rfl⟩
  | d :: ds, _, _, k, ⟨v, ws, g, h, e1, e2, e3, e4⟩ => by
    subst e1 e4
    exact ⟨some v, _, g, h, rfl, ⟨v, rfl, e2⟩, Ros.start k e3, rfl⟩
theorem body_of {N : List Str} {F : FS} {t : TS} {vs : List V} {Q : VK} (h : RelS E K ps t F) (hps : ∀ i ∈ ps, i < vs.length) (hN : vs.length ≤ N.length) (hsp : spF K ps (fnF ps N.length F) vs H Q E) : t { nx := fun _ H' => Q .non H', rt := Q } (L2.start N vs) H := by
  obtain ⟨G, ds, f, S, rs, o, w⟩ := hsp
  have hl := rs.len
  have r0 : Rs K G H (ds.map some ++ List.replicate (N.length - ds.length) none) (L2.start N vs) f := by
    unfold L2.start
    rw [hl]
    exact rs.start _
  have pinA : Pin ps (ps.filterMap fun i => vs[i]?) (L2.start N vs) := by
    have hlen : ∀ (l : List Nat), (∀ i ∈ l, i < vs.length) → ∀ (k i : Nat) (a : V), l[k]? = some i → (l.filterMap fun i => vs[i]?)[k]? = some a → vs[i]? = some a := by
      intro l
      induction l with
      | nil => intro _ k i a e; simp at e
      | cons x xs ih =>
        intro hx k i a e1 e2
        have hx0 := hx x List.mem_cons_self
        rw [List.filterMap_cons, List.getElem?_eq_getElem hx0] at e2
        cases k with
        | zero =>
          have e1' : x = i := by simpa using e1
          have e2' : vs[x] = a := by simpa using e2
          rw [← e1', ← e2']
          exact List.getElem?_eq_getElem hx0
        | succ k => exact ih (fun i hi => hx i (List.mem_cons_of_mem _ hi)) k i a (by simpa using e1) (by simpa using e2)
    intro k i a e1 e2
    have e := hlen ps hps k i a e1 e2
    unfold L2.start
    rw [List.getElem?_append_left (by rw [List.length_map]; exact (List.getElem?_eq_some_iff.mp e).1), List.getElem?_map, e]
    rfl
  have S0 : SR K ps (ps.filterMap fun i => vs[i]?) G H (L2.start N vs) (ds.map some ++ List.replicate (N.length - ds.length) none) f := ⟨S, r0, o, pinA⟩
  have fin : ∀ (σ' : Sg) (env' : Env) (G' H' : Hp) (fp' fv : Fp) (d : D) (v : V), SR K ps (ps.filterMap fun i => vs[i]?) G' H' σ' env' fp' → Ro K G' H' d v fv → (∀ b, fp' b + fv b ≤ 1) → (∀ b, fv b ≠ 0 → f b ≠ 0 ∨ H b = none) → Stp G H f G' H' fp' →
      (outF ps d env').wp (fun r => ∀ v G' H' fv f', Ro K G' H' r.1 v fv → Rpin K G' H' (vs.map some) ps r.2 f' → (∀ b, f' b + fv b ≤ 1) → Stp G H f G' H' f' → (∀ b, fv b ≠ 0 → f b ≠ 0 ∨ H b = none) → Q v H') (XW E K G H f) → Q v H' := by
    intro σ' env' G' H' fp' fv d v S' r o' ow st w
    obtain ⟨⟨outs, eh⟩, e, w2⟩ := R.wp_of (R.wp_bind w)
    obtain ⟨f', k, r3, r4, e5⟩ := take_rs S'.rs e
    subst e5
    have r6 : Rpin K G' H' (vs.map some) ps outs f' := r3.at rfl fun n i j e1 e2 => by
      rw [e1] at e2
      cases e2
      have hi : i < vs.length := hps i (List.mem_of_getElem? e1)
      have q := S'.pin n i vs[i] e1 (by
        have : ∀ (l : List Nat), (∀ i ∈ l, i < vs.length) → ∀ (k i : Nat) (hi : i < vs.length), l[k]? = some i → (l.filterMap fun i => vs[i]?)[k]? = some vs[i] := by
          intro l
          induction l with
          | nil => intro _ k i hi e; simp at e
          | cons x xs ih =>
            intro hx k i hi e1
            have hx0 := hx x List.mem_cons_self
            rw [List.filterMap_cons, List.getElem?_eq_getElem hx0]
            cases k with
            | zero =>
              have e1' : x = i := by simpa using e1
              subst e1'
              simp
            | succ k => simpa using ih (fun i hi => hx i (List.mem_cons_of_mem _ hi)) k i hi (by simpa using e1)
        exact this ps hps n i hi e1)
      rw [q, List.getElem?_map, List.getElem?_eq_getElem hi]
      rfl
    refine w2 v G' H' fv f' r r6 (fun b => ?_) (st.weak fun b hb => ?_) ow
    · have : f' b + k b + fv b ≤ 1 := o' b
      omega
    · show f' b + k b ≠ 0
      omega
  refine h _ G H (L2.start N vs) _ f S0 _ (R.wp_mono (R.wp_bind w) (fun c w1 => ?_) fun _ x => x)
  cases c with
  | nx e => exact fun σ1 G1 H1 fp1 S1 s1 => fin σ1 e G1 H1 fp1 fz .non .non S1 ⟨rfl, rfl⟩ S1.one (fun b hb => absurd rfl hb) s1 w1
  | rt d e => exact fun v σ1 G1 H1 fp1 fv S1 r1 o1 ow1 s1 => fin σ1 e G1 H1 fp1 fv d v S1 r1 o1 ow1 s1 w1
  | bk e => exact w1.elim
  | ct e => exact w1.elim

/-! ### a call of a def -/
def isOf (ks : List (Option Nat)) : List Nat := ks.filterMap id
def psOf : Nat → List (Option Nat) → List Nat
  | _, [] => []
  | n, none :: ks => psOf (n + 1) ks
  | n, some _ :: ks => n :: psOf (n + 1) ks
def mixA : List (Option Nat) → List D → List D → Option (List D)
  | [], [], [] => some []
  | none :: ks, d :: ds, ios => (mixA ks ds ios).map fun r => d :: r
  | some _ :: ks, _ :: ds, io :: ios => (mixA ks ds ios).map fun r => io :: r
  | _, _, _ => none
def Rga (K : PySem.W.Frag) (G H : Hp) (σ : Sg) : List (Option Nat) → List D → List V → Prop
  | [], [], [] => True
  | none :: ks, d :: ds, v :: vs => Ro K G H d v fz ∧ Rga K G H σ ks ds vs
  | some i :: ks, _ :: ds, v :: vs => σ[i]? = some (some v) ∧ Rga K G H σ ks ds vs
  | _, _, _ => False
theorem Rga.mix : ∀ {ks : List (Option Nat)} {ds ios args : List D} {vs : List V} {f : Fp}, Rga K G H σ ks ds vs → Rpin K G H σ (isOf ks) ios f → mixA ks ds ios = some args → Ros K G H args vs f
  | [], [], [], _, [], f, _, q, e => by
    cases e
    exact ⟨rfl, q⟩
  | none :: ks, d :: ds, ios, args, v :: vs, f, r, q, e => by
    cases e2 : mixA ks ds ios with
    | none =>
      have e' : (mixA ks ds ios).map (fun r => d :: r) = some args := by unfold mixA at e; exact e
      rw [e2] at e'
      cases e'
    | some as =>
      have e' : (mixA ks ds ios).map (fun r => d :: r) = some args := by unfold mixA at e; exact e
      rw [e2] at e'
      cases e'
      have q' : Rpin K G H σ (isOf ks) ios f := q
      exact ⟨v, vs, fz, f, rfl, r.1, Rga.mix r.2 q' e2, by funext b; show f b = 0 + f b; omega⟩
  | some i :: ks, d :: ds, io :: ios, args, v :: vs, f, r, q, e => by
    cases e2 : mixA ks ds ios with
    | none =>
      have e' : (mixA ks ds ios).map (fun r => io :: r) = some args := by unfold mixA at e; exact e
      rw [e2] at e'
      cases e'
    | some as =>
      have e' : (mixA ks ds ios).map (fun r => io :: r) = some args := by unfold mixA at e; exact e
      rw [e2] at e'
      cases e'
      obtain ⟨w, g, h, h1, h2, h3, h4⟩ := q
      rw [r.1] at h1
      cases h1
      exact ⟨v, vs, g, h, rfl, h2, Rga.mix r.2 h3 e2, h4⟩
  | [], [], _ :: _, _, _, _, _, _, e => by cases e
  | [], _ :: _, _, _, _, _, r, _, _ => by cases r
  | [], [], [], _, _ :: _, _, r, _, _ => by cases r
  | none :: _, [], _, _, _, _, r, _, _ => by cases r
  | none :: _, _ :: _, _, _, [], _, r, _, _ => by cases r
  | some _ :: _, [], _, _, _, _, r, _, _ => by cases r
  | some _ :: _, _ :: _, _, _, [], _, r, _, _ => by cases r
  | some _ :: _, _ :: _, [], _, _, _, _, _, e => by cases e
theorem Rga.pos : ∀ {ks : List (Option Nat)} {ds : List D} {vs : List V} {n : Nat}, Rga K G H σ ks ds vs → (psOf n ks).length = (isOf ks).length ∧
    ∀ (k i j : Nat), (psOf n ks)[k]? = some i → (isOf ks)[k]? = some j → n ≤ i ∧ ∀ pre : List V, pre.length = n → ((pre ++ vs).map some)[i]? = σ[j]?
  | [], [], [], n, _ => ⟨rfl, fun k i j e => by simp [psOf] at e⟩
  | none :: ks, d :: ds, v :: vs, n, r => by
    obtain ⟨h1, h2⟩ := Rga.pos (n := n + 1) r.2
    refine ⟨h1, fun k i j e1 e2 => ?_⟩
    obtain ⟨h3, h4⟩ := h2 k i j e1 e2
    refine ⟨by omega, fun pre hp => ?_⟩
    have := h4 (pre ++ [v]) (by rw [List.length_append, hp]; rfl)
    rw [List.append_assoc] at this
    exact this
  | some i0 :: ks, d :: ds, v :: vs, n, r => by
    obtain ⟨h1, h2⟩ := Rga.pos (n := n + 1) r.2
    refine ⟨by show (psOf (n + 1) ks).length + 1 = (isOf ks).length + 1; omega, fun k i j e1 e2 => ?_⟩
    cases k with
    | zero =>
      have e1' : n = i := by simpa [psOf] using e1
      have e2' : i0 = j := by simpa [isOf] using e2
      subst e1' e2'
      refine ⟨Nat.le_refl _, fun pre hp => ?_⟩
      rw [r.1, List.getElem?_map, List.getElem?_append_right (by omega), hp]
      simp
    | succ k =>
      obtain ⟨h3, h4⟩ := h2 k i j (by simpa [psOf] using e1) (by simpa [isOf] using e2)
      refine ⟨by omega, fun pre hp => ?_⟩
      have := h4 (pre ++ [v]) (by rw [List.length_append, hp]; rfl)
      rw [List.append_assoc] at this
      exact this
  | [], [], _ :: _, _, r => by cases r
  | [], _ :: _, _, _, r => by cases r
  | none :: _, [], _, _, r => by cases r
  | none :: _, _ :: _, [], _, r => by cases r
  | some _ :: _, [], _, _, r => by cases r
  | some _ :: _, _ :: _, [], _, r => by cases r
theorem Rga.mono (e : Same G G') : ∀ {ks : List (Option Nat)} {ds : List D} {vs : List V}, Rga K G H σ ks ds vs → Rga K G' H' σ ks ds vs
  | [], [], [], _ => trivial
  | none :: ks, d :: ds, v :: vs, r => ⟨r.1.keepF e, Rga.mono e r.2⟩
  | some i :: ks, d :: ds, v :: vs, r => ⟨r.1, Rga.mono e r.2⟩
  | [], [], _ :: _, r => by cases r
  | [], _ :: _, _, r => by cases r
  | none :: _, [], _, r => by cases r
  | none :: _, _ :: _, [], r => by cases r
  | some _ :: _, [], _, r => by cases r
  | some _ :: _, _ :: _, [], r => by cases r
def RelC (E : XK) (K : PySem.W.Frag) (ps : List Nat) (p : Bool) (ks : List (Option Nat)) (t : TA) (F : FA) : Prop :=
  ∀ pa G H σ env fp, SR K ps pa G H σ env fp → ∀ Q : List V → Hp → Prop, (F env).wp (fun r => ∀ vs G' H' fp', PostT K ps pa p G H σ env fp r.2 G' H' fp' → Rga K G' H' σ ks r.1 vs → Q vs H') (XW E K G H fp) → t σ H Q
theorem relc_nil : RelC E K ps true [] tNil fNil := by
  intro pa G H σ env fp S Q w
  exact w [] G H fp ⟨S, Stp.refl S.sub, fun _ => ⟨rfl, rfl, Stp.refl S.sub⟩⟩ trivial
/-- an argument, given out of hand -/
def fArg (Fa : FE) (Fr : FA) : FA := fun env => (fGive Fa env).bind fun r => if r.1.frz = true then (Fr r.2).bind fun s => .ok (r.1 :: s.1, s.2) else .no
/-- an argument that the def may change: the slot i -/
def fIo (i : Nat) (Fr : FA) : FA := fun env => match env[i]? with
  | some (some _) => (Fr env).bind fun s => .ok (.non :: s.1, s.2)
  | _ => .no
theorem relc_sh {ks : List (Option Nat)} {ta : TE} {tr : TA} {Fa : FE} {Fr : FA} (ha : RelE E K ps p1 true ta Fa) (hr : RelC E K ps p2 ks tr Fr) : RelC E K ps (p1 && p2) (none :: ks) (tCons ta tr) (fArg Fa Fr) := by
  intro pa G H σ env fp S Q w
  refine rel_give ha pa G H σ env fp S _ (R.wp_mono (R.wp_bind w) (fun r w1 v G1 H1 fp1 fv1 P1 => ?_) fun _ x => x)
  by_cases c : r.1.frz = true
  · rw [if_pos c] at w1
    have z := P1.ro.frz0 r.1 v fv1 c
    subst z
    refine hr pa G1 H1 σ r.2 fp1 P1.sr _ (R.wp_mono (R.wp_bind w1) (fun r2 w2 vs G2 H2 fp2 P2 q => ?_) fun _ x => XW.mono P1.stp x)
    exact w2 (v :: vs) G2 H2 fp2 (P1.toT.trans P2) ⟨P1.ro.keepF P2.stp.gg, q⟩
  · rw [if_neg c] at w1
    exact w1.elim
theorem relc_io {ks : List (Option Nat)} {i : Nat} {tr : TA} {Fr : FA} (hr : RelC E K ps p2 ks tr Fr) : RelC E K ps p2 (some i :: ks) (tCons (tVar i) tr) (fIo i Fr) := by
  intro pa G H σ env fp S Q w
  unfold fIo at w
  cases q : env[i]? with
  | none => rw [q] at w; exact w.elim
  | some o =>
    cases o with
    | none => rw [q] at w; exact w.elim
    | some d =>
      rw [q] at w
      obtain ⟨v, g, h1, _, _⟩ := S.rs.get q
      refine ⟨v, h1, hr pa G H σ env fp S _ (R.wp_mono (R.wp_bind w) (fun r2 w2 vs G2 H2 fp2 P2 q => ?_) fun _ x => x)⟩
      exact w2 (v :: vs) G2 H2 fp2 P2 ⟨h1, q⟩
def fCall (ks : List (Option Nat)) (dd : List D) (F : Fn) (Fa : FA) : FE := fun env => (Fa env).bind fun r => (R.of (takeS (isOf ks) r.2)).bind fun t => (R.of (mixA ks r.1 t.1)).bind fun args =>
  (F (args ++ dd)).bind fun o => (R.of (putS (isOf ks) o.2 t.2)).bind fun e2 => .ok (o.1, e2)
def noIo (ks : List (Option Nat)) : Bool := ks.all Option.isNone
theorem noIo_is : ∀ {ks : List (Option Nat)}, noIo ks = true → isOf ks = [] := by
  intro ks
  induction ks with
  | nil => intro _; rfl
  | cons k ks ih =>
    intro h
    unfold noIo at h
    rw [List.all_cons, Bool.and_eq_true] at h
    cases k with
    | none => exact ih h.2
    | some i => cases h.1
theorem rel_call {ks : List (Option Nat)} {ps' : List Nat} {dd : List D} {dvs : List V} {F : Fn} {t : TA} {Fa : FA} (h : RelC E K ps p ks t Fa) (hps : psOf 0 ks = ps' := by rfl) (hd : ∀ G H, Ros K G H dd dvs fz := by exact fun _ _ => ⟨rfl, rfl⟩) :
    RelE E K ps (p && noIo ks) true (tCall (spF K ps' F) dvs E t) (fCall ks dd F Fa) := by
  intro pa G H σ env fp S Q w
  refine h pa G H σ env fp S _ (R.wp_mono (R.wp_bind w) (fun r w1 vs G1 H1 fp1 P1 ra => ?_) fun _ x => x)
  obtain ⟨⟨ios, envh⟩, e1, w2⟩ := R.wp_of (R.wp_bind w1)
  obtain ⟨args, e2, w3⟩ := R.wp_of (R.wp_bind w2)
  obtain ⟨fa, fh, r3, r4, e3⟩ := take_rs P1.sr.rs e1
  subst e3
  have rr : Ros K G1 H1 (args ++ dd) (vs ++ dvs) fa := by
    have := (ra.mix r3 e2).app (hd G1 H1)
    have e : fAdd fa fz = fa := rfl
    rw [e] at this
    exact this
  have one1 : ∀ b, fa b + fh b ≤ 1 := P1.sr.one
  refine ⟨G1, args ++ dd, fa, P1.sr.sub, rr, fun b => by have := one1 b; omega, ?_⟩
  have stA : Stp G1 H1 (fAdd fa fh) G1 H1 fa := ⟨Same.refl G1, P1.sr.sub, fun b o q _ => ⟨q, rfl⟩, fun b q => .inl (by show fa b + fh b ≠ 0; omega), fun b q => q⟩
  refine R.wp_mono (R.wp_bind w3) (fun o w4 v G2 H2 fv f2 ro2 pin2 one2 st2 ow2 => ?_) fun _ x => XW.mono stA (XW.mono P1.stp x)
  obtain ⟨e4, q4, w5⟩ := R.wp_of (R.wp_bind w4)
  obtain ⟨pl, pp⟩ := Rga.pos (n := 0) ra
  have pin3 : Rpin K G2 H2 σ (isOf ks) o.2 f2 := by
    refine pin2.at (by rw [← hps]; exact pl) fun k i j a1 a2 => ?_
    rw [← hps] at a1
    have := (pp k i j a1 a2).2 [] rfl
    rw [List.nil_append] at this
    rw [← this, List.getElem?_map, List.getElem?_map]
    have hi : i < vs.length := by
      have q : (vs.map some)[i]? = σ[j]? := this
      have hpin : ∃ v, σ[j]? = some (some v) := by
        have : ∀ (is : List Nat) (ds : List D) (f : Fp), Rpin K G1 H1 σ is ds f → ∀ (k j : Nat), is[k]? = some j → ∃ v, σ[j]? = some (some v) := by
          intro is
          induction is with
          | nil => intro ds f _ k j e; simp at e
          | cons x xs ih =>
            intro ds f rp k j e
            cases ds with
            | nil => exact rp.elim
            | cons d ds =>
              obtain ⟨v, g, h, h1, h2, h3, h4⟩ := rp
              cases k with
              | zero =>
                have e' : x = j := by simpa using e
                rw [← e']
                exact ⟨v, h1⟩
              | succ k => exact ih ds h h3 k j (by simpa using e)
        exact this _ _ _ r3 k j a2
      obtain ⟨v, hv⟩ := hpin
      rw [hv] at q
      have := (List.getElem?_eq_some_iff.mp q).1
      rwa [List.length_map] at this
    rw [List.getElem?_append_left hi]
  have kh : ∀ b, fh b ≠ 0 → fa b = 0 ∧ ∃ o, H1 b = some o := fun b hb => by
    obtain ⟨_, o, ho, _⟩ := r4.own b hb
    exact ⟨by have := one1 b; omega, o, ho⟩
  have r5 : Rs K G2 H2 envh σ fh := r4.mono st2.gg fun b hb => by
    obtain ⟨z, o, ho⟩ := kh b hb
    obtain ⟨h1, h2⟩ := st2.keep b o ho z
    exact ⟨h1.trans ho.symm, h2⟩
  have r6 := put_rs r5 pin3 q4
  have dis : ∀ b, fh b ≠ 0 → f2 b = 0 ∧ fv b = 0 := fun b hb => by
    obtain ⟨z, o, ho⟩ := kh b hb
    constructor
    · by_cases q : f2 b = 0
      · exact q
      · rcases st2.new b q with w | w
        · exact absurd z w
        · rw [ho] at w; cases w
    · by_cases q : fv b = 0
      · exact q
      · rcases ow2 b q with w | w
        · exact absurd z w
        · rw [ho] at w; cases w
  have one6 : ∀ b, f2 b + fh b + fv b ≤ 1 := fun b => by
    by_cases q : fh b = 0
    · have := one2 b; omega
    · have := dis b q; have := one1 b; omega
  have st6 : Stp G1 H1 (fAdd fa fh) G2 H2 (fAdd f2 fh) := ⟨st2.gg, st2.sub, fun b o q z => st2.keep b o q (by have : fa b + fh b = 0 := z; omega), fun b q => by
    have q' : f2 b + fh b ≠ 0 := q
    by_cases z : fh b = 0
    · rcases st2.new b (by omega) with w | w
      · exact .inl (by show fa b + fh b ≠ 0; omega)
      · exact .inr w
    · exact .inl (by show fa b + fh b ≠ 0; omega), st2.fre⟩
  refine w5 v G2 H2 (fAdd f2 fh) fv ⟨⟨st2.sub, r6, fun b => by show f2 b + fh b ≤ 1; have := one6 b; omega, P1.sr.pin⟩, ro2, P1.stp.trans st6, fun z => ?_, fun _ b => one6 b, fun _ b hb => ?_⟩
  · obtain ⟨z1, z2⟩ := Bool.and_eq_true_iff.mp z
    obtain ⟨a1, a2, a3⟩ := P1.pur z1
    have ei := noIo_is z2
    rw [ei] at e1 q4 r3 pin3
    cases e1
    have fa0 : fa = fz := r3
    subst fa0
    have oe : o.2 = [] := by
      cases h : o.2 with
      | nil => rfl
      | cons x xs => rw [h] at q4; cases q4
    rw [oe] at q4 pin3
    cases q4
    have f20 : f2 = fz := pin3
    subst f20
    refine ⟨a1, a2, a3.trans ⟨st2.gg, st2.sub, fun b o q _ => st2.keep b o q rfl, fun b q => absurd rfl q, st2.fre⟩⟩
  · rcases ow2 b hb with w | w
    · have hp : p = true → noIo ks = true → False := fun _ z2 => by
        rw [noIo_is z2] at r3
        cases ios with
        | nil => exact w (by rw [show fa = fz from r3]; rfl)
        | cons _ _ => exact r3
      rcases P1.stp.new b (by show fa b + fh b ≠ 0; omega) with w' | w'
      · refine .inl ⟨?_, w'⟩
        by_cases z1 : p = true
        · by_cases z2 : noIo ks = true
          · exact (hp z1 z2).elim
          · rw [z1]
            simpa using z2
        · have : p = false := by simpa using z1
          rw [this]
          rfl
      · exact .inr w'
    · exact .inr (P1.stp.fre b w)
end
end Fw
end

section
set_option linter.all false
set_option maxRecDepth 100000
namespace Fw
open PySem PySem.Spec L2

section
variable {E : XK} {K : PySem.W.Frag} {ps : List Nat} {pa : List V} {G H G' H' : Hp} {σ : Sg} {env env' : Env} {fp fp' fv : Fp} {p f p1 f1 p2 f2 p3 f3 : Bool}

/-! ### a list of one's own in a slot is changed -/
theorem Stp.mut {G2 H2 : Hp} {fp2 f' : Fp} {a : Addr} {u o : HO} (s : Stp G H fp G2 H2 fp2) (hf : fp2 a ≠ 0) (ha : H2 a = some u) (hg : G2 a = none) (hn : ∀ b, f' b ≠ 0 → fp b ≠ 0 ∨ H b = none) : Stp G H fp G2 (upd H2 a o) f' where
  gg := s.gg
  sub := fun b w h => by
    rw [upd_ne (ne_of_none h hg)]
    exact s.sub b w h
  keep := fun b w h z => by
    obtain ⟨h1, h2⟩ := s.keep b w h z
    have c : b ≠ a := fun q => by
      subst q
      rcases s.new b hf with w2 | w2
      · exact w2 z
      · rw [h] at w2; cases w2
    exact ⟨by rw [upd_ne c]; exact h1, h2⟩
  new := hn
  fre := fun b h => by
    by_cases c : b = a
    · rw [c, upd_same] at h; cases h
    · rw [upd_ne c] at h; exact s.fre b h
/-- what a change of a list of one's own does: r by values, g by what they stand for -/
def MutRel (K : PySem.W.Frag) (r : V → List V → Hp → VK → Prop) (g : List D → List D → Option (D × List D)) : Prop :=
  ∀ G H a xs vs gx args ws fa d xs', Same G H → H a = some (.lst vs) → G a = none → Ros K G H xs vs gx → Ros K G H args ws fa → (∀ b, gx b + fa b + (if b = a then 1 else 0) ≤ 1) → g xs args = some (d, xs') →
    ∀ Q : VK, (∀ v vs' fr gx', Ro K G H d v fr → Ros K G H xs' vs' gx' → (∀ b, fr b + gx' b ≤ gx b + fa b) → Q v (upd H a (.lst vs'))) → r (.ref a) ws H Q
def isLst : Option (Option D) → Bool
  | some (some (.lst _ _)) => true
  | _ => false
def ownLst : Option (Option D) → Option (List D)
  | some (some (.lst true xs)) => some xs
  | _ => none
theorem isLst_of {o : Option (Option D)} (h : isLst o = true) : ∃ b xs, o = some (some (.lst b xs)) := by
  unfold isLst at h
  split at h
  · exact ⟨_, _, rfl⟩
  · cases h
theorem ownLst_of {o : Option (Option D)} {xs : List D} (h : ownLst o = some xs) : o = some (some (.lst true xs)) := by
  unfold ownLst at h
  split at h
  · cases h; rfl
  · cases h
def fMut (i : Nat) (g : List D → List D → Option (D × List D)) (Fa : FA) : FE := fun env => if isLst env[i]? = true then
    (Fa env).bind fun r => (R.of (ownLst r.2[i]?)).bind fun xs => (R.of (g xs r.1)).bind fun q => .ok (q.1, r.2.set i (some (.lst true q.2)))
  else .no
theorem lst_ty {o : Bool} {xs : List D} {v : V} (S : Same G H) (h : Ro K G H (.lst o xs) v fv) : tyV K "list" v H := by
  obtain ⟨a, vs, g, rfl, h2, _⟩ := h.lstV S
  exact .inl ⟨rfl, vs, h2⟩
theorem mut_fin {r : V → List V → Hp → VK → Prop} {g : List D → List D → Option (D × List D)} (hr : MutRel K r g) {i : Nat} {args : List D} {env1 : Env} {ws : List V} {G1 H1 : Hp} {fp1 fa : Fp} {xs xs' : List D} {d : D} {v : V}
    (P1 : PostA K ps pa p1 G H σ env fp args env1 ws G1 H1 fp1 fa) (hv : σ[i]? = some (some v)) (ex : env1[i]? = some (some (.lst true xs))) (eg : g xs args = some (d, xs')) (Q : VK)
    (w : ∀ u G' H' fp' fv, PostE K ps pa false true G H σ env fp d (env1.set i (some (.lst true xs'))) u G' H' fp' fv → Q u H') : r v ws H1 Q := by
  obtain ⟨s, gg, hh, h1, ⟨v0, rfl, h2⟩, h3, h4⟩ := P1.sr.rs.split i ex
  rw [hv] at h1
  cases h1
  obtain ⟨a, vs, gx, rfl, ha, rx, eg2⟩ := h2
  rw [if_pos rfl] at ha
  subst eg2
  have hgg : ∀ b, fAt true a gx b = gx b + if b = a then 1 else 0 := fun b => by
    unfold fAt
    by_cases c : b = a
    · rw [if_pos ⟨rfl, c⟩, if_pos c]
    · rw [if_neg (fun z => c z.2), if_neg c]
  have hone : ∀ b, gx b + (if b = a then 1 else 0) + hh b + fa b ≤ 1 := fun b => by
    have := P1.one b
    rw [h3] at this
    have q : fAt true a gx b + hh b + fa b ≤ 1 := this
    rw [hgg b] at q
    exact q
  refine hr G1 H1 a xs vs gx args ws fa d xs' P1.sr.sub ha.1 ha.2 rx P1.ro (fun b => by have := hone b; omega) eg Q fun u vs' fr gx' ru rx' ob => ?_
  have nea : ∀ b, fr b + gx' b + hh b ≠ 0 → b ≠ a := fun b hb q => by
    have h0 := hone b
    have h1 := ob b
    rw [if_pos q] at h0
    omega
  have sm : Same G1 (upd H1 a (.lst vs')) := fun b o q => by
    rw [upd_ne (ne_of_none q ha.2)]
    exact P1.sr.sub b o q
  have rl : Ro K G1 (upd H1 a (.lst vs')) (.lst true xs') (.ref a) (fAt true a gx') := by
    refine ⟨a, vs', gx', rfl, ?_, rx'.mono (Same.refl G1) xs' vs' gx' fun b hb => ⟨upd_ne (nea b (by omega)), rfl⟩, rfl⟩
    rw [if_pos rfl]
    exact ⟨upd_same, ha.2⟩
  have rs := h4 G1 (upd H1 a (.lst vs')) (Same.refl G1) (fun b hb => ⟨upd_ne (nea b (by omega)), rfl⟩) (some (.lst true xs')) (some (.ref a)) _ ⟨_, rfl, rl⟩
  rw [set_same hv] at rs
  have hg' : ∀ b, fAt true a gx' b = gx' b + if b = a then 1 else 0 := fun b => by
    unfold fAt
    by_cases c : b = a
    · rw [if_pos ⟨rfl, c⟩, if_pos c]
    · rw [if_neg (fun z => c z.2), if_neg c]
  have oneF : ∀ b, fAt true a gx' b + hh b + fr b ≤ 1 := fun b => by
    rw [hg' b]
    have h0 := hone b
    have h1 := ob b
    omega
  have own1 : ∀ b, fp1 b ≠ 0 ∨ fa b ≠ 0 → fp b ≠ 0 ∨ H b = none := fun b hb => by
    rcases hb with hb | hb
    · exact P1.stp.new b hb
    · rcases P1.own b hb with z | z
      · exact .inl z.2
      · exact .inr z
  have fp1e : ∀ b, fp1 b = gx b + (if b = a then 1 else 0) + hh b := fun b => by
    rw [h3]
    show fAt true a gx b + hh b = _
    rw [hgg b]
  refine w u G1 (upd H1 a (.lst vs')) (fAdd (fAt true a gx') hh) fr ⟨⟨sm, rs, fun b => by show fAt true a gx' b + hh b ≤ 1; have := oneF b; omega, P1.sr.pin⟩, ru.mono (Same.refl G1) d u fr fun b hb => ⟨upd_ne (nea b (by omega)), rfl⟩, ?_, fun z => Bool.noConfusion z, fun _ b => oneF b, fun _ b hb => ?_⟩
  · refine P1.stp.mut (u := .lst vs) (by rw [fp1e a, if_pos rfl]; omega) ha.1 ha.2 fun b hb => ?_
    have hb' : fAt true a gx' b + hh b ≠ 0 := hb
    rw [hg' b] at hb'
    refine own1 b ?_
    have h1 := ob b
    rw [fp1e b]
    omega
  · rcases own1 b (by have h1 := ob b; rw [fp1e b]; omega) with z | z
    · exact .inl ⟨rfl, z⟩
    · exact .inr z
theorem PostE.toA {d : D} {v : V} (P : PostE K ps pa p true G H σ env fp d env' v G' H' fp' fv) : PostA K ps pa p G H σ env fp [d] env' [v] G' H' fp' fv :=
  ⟨P.sr, ⟨v, [], fv, fz, rfl, P.ro, ⟨rfl, rfl⟩, rfl⟩, P.stp, P.pur, P.one rfl, P.own rfl⟩
theorem rel_mut {i : Nat} {r : V → List V → Hp → VK → Prop} {g : List D → List D → Option (D × List D)} {t : TA} {Fa : FA} (hr : MutRel K r g) (ha : RelA E K ps p t Fa) : RelE E K ps false true (tBM K "list" r (tVar i) t) (fMut i g Fa) := by
  intro pa G H σ env fp S Q w
  unfold fMut at w
  by_cases c : isLst env[i]? = true
  · rw [if_pos c] at w
    obtain ⟨o0, xs0, q0⟩ := isLst_of c
    obtain ⟨v, gv, hv, hro, _⟩ := S.rs.get q0
    refine ⟨v, hv, lst_ty S.sub hro, ha pa G H σ env fp S _ (R.wp_mono (R.wp_bind w) (fun r1 w1 ws G1 H1 fp1 fa P1 => ?_) fun _ x => x)⟩
    obtain ⟨xs, ex, w2⟩ := R.wp_of (R.wp_bind w1)
    obtain ⟨q, eg, w3⟩ := R.wp_of (R.wp_bind w2)
    exact mut_fin hr P1 hv (ownLst_of ex) eg Q w3
  · rw [if_neg c] at w
    exact w.elim
theorem rel_mut0 {i : Nat} {r : V → List V → Hp → VK → Prop} {g : List D → List D → Option (D × List D)} (hr : MutRel K r g) : RelE E K ps false true (tBM0 K "list" r (tVar i)) (fMut i g fNil) :=
  fun pa G H σ env fp S Q w => rel_mut (t := tNil) hr rel_nil pa G H σ env fp S Q w
theorem Ros.nth {i : Nat} : ∀ {ds : List D} {vs : List V} {f : Fp} {d : D} {j : Nat}, Ros K G H ds vs f → ds[j]? = some d →
    ∃ v g h, vs[j]? = some v ∧ Ro K G H d v g ∧ Ros K G H (ds.eraseIdx j) (vs.eraseIdx j) h ∧ f = fAdd g h ∧ ∀ e u g', Ro K G H e u g' → Ros K G H (ds.set j e) (vs.set j u) (fAdd g' h)
  | [], _, _, _, j, _, e => by simp at e
  | x :: xs, _, _, d, 0, ⟨v, ws, g, h, e1, e2, e3, e4⟩, e => by
    have e' : x = d := by simpa using e
    subst e' e1
    exact ⟨v, g, h, by simp, e2, by simpa using e3, e4, fun e u g' r => ⟨u, ws, g', h, rfl, r, e3, rfl⟩⟩
  | x :: xs, _, _, d, j + 1, ⟨v, ws, g, h, e1, e2, e3, e4⟩, e => by
    subst e1 e4
    obtain ⟨v2, g2, h2, r1, r2, r3, r4, r5⟩ := Ros.nth (i := i) (j := j) e3 (by simpa using e)
    subst r4
    refine ⟨v2, g2, fAdd g h2, by simpa using r1, r2, ⟨v, ws.eraseIdx j, g, h2, rfl, e2, r3, rfl⟩, by funext b; show g b + (g2 b + h2 b) = g2 b + (g b + h2 b); omega, fun e u g' r => ?_⟩
    exact ⟨v, ws.set j u, g, fAdd g' h2, rfl, e2, r5 e u g' r, by funext b; show g' b + (g b + h2 b) = g b + (g' b + h2 b); omega⟩
/-! ### append, pop -/
def gAppend : List D → List D → Option (D × List D) := fun xs as => match as with
  | [d] => if xs.length < big then some (.non, xs ++ [d]) else none
  | _ => none
theorem mut_append : MutRel K rAppend gAppend := by
  intro G H a xs vs gx args ws fa d xs' S ha hg rx rw_ one e Q q
  unfold gAppend at e
  split at e
  · rename_i d0
    obtain ⟨c, e⟩ := ite_some e
    cases e
    obtain ⟨w, ws', g1, h1, rfl, r1, ⟨rfl, rfl⟩, rfl⟩ := rw_
    refine ⟨a, vs, w, rfl, rfl, ha, by rw [rx.len, sizeLine_eq]; exact c, ?_⟩
    exact q .non (vs ++ [w]) fz (fAdd gx (fAdd g1 fz)) ⟨rfl, rfl⟩ (rx.app ⟨w, [], g1, fz, rfl, r1, ⟨rfl, rfl⟩, rfl⟩) fun b => by show 0 + (gx b + (g1 b + 0)) ≤ gx b + (g1 b + 0); omega
  · cases e
def gPopAt : List D → List D → Option (D × List D) := fun xs as => match as with
  | [.int i] => if small62 i = true then (ixN xs.length i).bind fun k => xs[k]?.bind fun d => some (d, xs.eraseIdx k) else none
  | _ => none
theorem bind_some {A B : Type} {o : Option A} {f : A → Option B} {b : B} (h : o.bind f = some b) : ∃ a, o = some a ∧ f a = some b := by
  cases o with
  | none => cases h
  | some a => exact ⟨a, rfl, h⟩
theorem mut_popAt : MutRel K rPopAt gPopAt := by
  intro G H a xs vs gx args ws fa d xs' S ha hg rx rw_ one e Q q
  unfold gPopAt at e
  split at e
  · rename_i i
    by_cases c : small62 i = true
    · rw [if_pos c] at e
      obtain ⟨k, e1, e⟩ := bind_some e
      obtain ⟨d0, e2, e⟩ := bind_some e
      cases e
      obtain ⟨w, ws', g1, h1, rfl, ⟨rfl, rfl⟩, ⟨rfl, rfl⟩, rfl⟩ := rw_
      obtain ⟨v, g, h, h3, h4, h5, rfl, _⟩ := rx.nth (i := 0) e2
      obtain ⟨c1, c2⟩ := small_of c
      have hl := rx.len
      refine ⟨a, vs, i, k, v, rfl, rfl, ha, by omega, by omega, ?_, h3, ?_⟩
      · rw [hl]
        exact (ixN_seq e1).1
      · exact q v _ g h h4 h5 fun b => by show g b + h b ≤ g b + h b + _; omega
    · rw [if_neg c] at e; cases e
  · cases e
def gPop : List D → List D → Option (D × List D) := fun xs as => match as with
  | [] => xs[xs.length - 1]?.bind fun d => some (d, xs.dropLast)
  | _ => none
theorem Ros.dropLast {ds : List D} {vs : List V} {f : Fp} {d : D} (r : Ros K G H ds vs f) (e : ds[ds.length - 1]? = some d) : ∃ v g h, vs[vs.length - 1]? = some v ∧ Ro K G H d v g ∧ Ros K G H ds.dropLast vs.dropLast h ∧ f = fAdd g h := by
  obtain ⟨v, g, h, h1, h2, h3, h4, _⟩ := r.nth (i := 0) e
  have hl := r.len
  refine ⟨v, g, h, by rw [hl]; exact h1, h2, ?_, h4⟩
  have e1 : ds.eraseIdx (ds.length - 1) = ds.dropLast := List.eraseIdx_length_sub_one
  have e2 : vs.eraseIdx (ds.length - 1) = vs.dropLast := by rw [← hl]; exact List.eraseIdx_length_sub_one
  rw [e1, e2] at h3
  exact h3
theorem mut_pop : MutRel K rPop gPop := by
  intro G H a xs vs gx args ws fa d xs' S ha hg rx rw_ one e Q q
  unfold gPop at e
  split at e
  · obtain ⟨d0, e2, e⟩ := bind_some e
    cases e
    obtain ⟨rfl, rfl⟩ := rw_
    obtain ⟨v, g, h, h1, h2, h3, rfl⟩ := rx.dropLast e2
    exact ⟨a, vs, v, rfl, rfl, ha, h1, q v _ g h h2 h3 fun b => by show g b + h b ≤ g b + h b + 0; omega⟩
  · cases e
/-! ### x[i] = e -/
def fSetS (i : Nat) (F Fi : FE) : FS := fun env => (F env).bind fun r => (R.of (ownLst r.2[i]?)).bind fun xs => (Fi r.2).bind fun s => (R.of s.1.isI).bind fun k => (R.of (ixN xs.length k)).bind fun j => .ok (.nx (r.2.set i (some (.lst true (xs.set j r.1)))))
def rSetM (k : V) : V → List V → Hp → VK → Prop := fun o vs H Q => ∃ v, vs = [v] ∧ rSetL o k v H fun H' => Q .non H'
def gSetM (k : Int) : List D → List D → Option (D × List D) := fun xs as => match as with
  | [d] => (ixN xs.length k).bind fun j => some (.non, xs.set j d)
  | _ => none
theorem ixN_lt {n : Nat} {i : Int} {j : Nat} (h : ixN n i = some j) : j < n := (ixN_seq h).2.1
theorem mut_set {k : Int} : MutRel K (rSetM (.int k)) (gSetM k) := by
  intro G H a xs vs gx args ws fa d xs' S ha hg rx rw_ one e Q q
  unfold gSetM at e
  split at e
  · rename_i d0
    obtain ⟨j, e1, e⟩ := bind_some e
    cases e
    obtain ⟨w, ws', g1, h1, rfl, r1, ⟨rfl, rfl⟩, rfl⟩ := rw_
    have hj : j < xs.length := ixN_lt e1
    obtain ⟨v, g, h, h3, h4, h5, rfl, h6⟩ := rx.nth (i := 0) (List.getElem?_eq_getElem hj)
    refine ⟨w, rfl, a, vs, k, j, rfl, rfl, ha, by rw [rx.len]; exact e1, ?_⟩
    exact q .non _ fz (fAdd g1 h) ⟨rfl, rfl⟩ (h6 d0 w g1 r1) fun b => by show 0 + (g1 b + h b) ≤ g b + h b + (g1 b + 0); omega
  · cases e
theorem rels_setS {i : Nat} {t ti : TE} {F Fi : FE} (h : RelE E K ps p1 true t F) (hi : RelE E K ps true f2 ti Fi) : RelS E K ps (tAsg t (gSub (tVar i) ti rSetL)) (fSetS i F Fi) := by
  intro pa G H σ env fp S T w
  refine h pa G H σ env fp S _ (R.wp_mono (R.wp_bind w) (fun r w1 v G1 H1 fp1 fv1 P1 => ?_) fun _ x => x)
  obtain ⟨xs, e1, w2⟩ := R.wp_of (R.wp_bind w1)
  have e1' := ownLst_of e1
  obtain ⟨u, gu, hu, hru, _⟩ := P1.sr.rs.get e1'
  refine ⟨u, hu, hi pa G1 H1 σ r.2 fp1 P1.sr _ (R.wp_mono (R.wp_bind w2) (fun s w3 vi G2 H2 fp2 fv2 P2 => ?_) fun _ x => XW.mono P1.stp x)⟩
  obtain ⟨k, e2, w4⟩ := R.wp_of (R.wp_bind w3)
  obtain ⟨j, e3, w5⟩ := R.wp_of (R.wp_bind w4)
  obtain ⟨a1, a2, a3⟩ := P2.pur rfl
  have hk := P2.ro.isI e2
  subst hk
  have PA1 := P1.toA
  have PA2 : PostA K ps pa p1 G H σ env fp [r.1] r.2 [v] G2 H2 fp1 fv1 := by
    have rr := P1.ro.carry P2 (.inl rfl)
    refine ⟨by have := P2.sr; rw [a1, a2] at this; exact this, ⟨v, [], fv1, fz, rfl, rr, ⟨rfl, rfl⟩, rfl⟩, P1.stp.trans a3.ofP, fun z => ?_, P1.one rfl, P1.own rfl⟩
    obtain ⟨b1, b2, b3⟩ := P1.pur z
    exact ⟨b1, b2, b3.trans a3⟩
  have main := mut_fin (mut_set (k := k)) PA2 hu e1' (d := .non) (xs' := xs.set j r.1) (by
    show (ixN xs.length k).bind _ = _
    rw [e3]
    rfl) (fun _ H' => T.nx σ H') fun u' G' H' fp' fv' P => w5 σ G' H' fp' P.sr P.stp
  obtain ⟨v', ev, q⟩ := main
  cases ev
  exact q

/-! ### built-ins of one value -/
def D.len : D → Option Nat
  | .str s => if s.length ≤ big then some s.length else none
  | .tup xs => some xs.length
  | .lst _ xs => some xs.length
  | _ => none
def lenD (x : D) : Option D := x.len.map fun n => .int (n : Nat)
def rLenC (K : PySem.W.Frag) : List V → Hp → VK → Prop := fun xs H Q => ∃ x n, xs = [x] ∧ LenV K x H n ∧ Q (.int n) H
theorem rel_len : UnRel K (fun x => rLenC K [x]) lenD := .mk0 fun G H x u fx d S rx e Q q => by
  unfold lenD at e
  cases x with
  | str s =>
    obtain ⟨rfl, _⟩ := rx
    have e' : (if s.length ≤ big then some s.length else none).map (fun n => D.int (n : Nat)) = some d := e
    by_cases c : s.length ≤ big
    · rw [if_pos c] at e'
      cases e'
      exact ⟨.str s, s.length, rfl, ⟨big_line c, rfl⟩, q _ ⟨rfl, rfl⟩⟩
    · rw [if_neg c] at e'; cases e'
  | tup xs =>
    cases e
    obtain ⟨a, vs, rfl, h1, r1⟩ := rx
    exact ⟨.ref a, xs.length, rfl, .inr ⟨vs, same_t S h1, r1.len.symm⟩, q _ ⟨rfl, rfl⟩⟩
  | lst o xs =>
    cases e
    obtain ⟨a, vs, g, rfl, h1, r1⟩ := rx.lstV S
    exact ⟨.ref a, xs.length, rfl, .inl ⟨vs, h1, r1.len.symm⟩, q _ ⟨rfl, rfl⟩⟩
  | _ => cases e
def intD : D → Option D
  | .int i => some (.int i)
  | .bl b => some (.int (if b then 1 else 0))
  | _ => none
theorem rel_int1 : UnRel K (fun x H Q => (∃ i, [x] = [V.int i] ∧ Q (.int i) H) ∨ ∃ k, [x] = [V.bl k] ∧ Q (.int (if k then 1 else 0)) H) intD := .mk0 fun G H x u fx d S rx e Q q => by
  cases x with
  | int i =>
    cases e
    obtain ⟨rfl, _⟩ := rx
    exact .inl ⟨i, rfl, q _ ⟨rfl, rfl⟩⟩
  | bl b =>
    cases e
    obtain ⟨rfl, _⟩ := rx
    exact .inr ⟨b, rfl, q _ ⟨rfl, rfl⟩⟩
  | _ => cases e
def absD : D → Option D
  | .int i => some (.int (if i < 0 then -i else i))
  | _ => none
theorem rel_abs : UnRel K (fun x H Q => ∃ i, [x] = [V.int i] ∧ Q (.int (if i < 0 then -i else i)) H) absD := .mk0 fun G H x u fx d S rx e Q q => by
  cases x with
  | int i =>
    cases e
    obtain ⟨rfl, _⟩ := rx
    exact ⟨i, rfl, q _ ⟨rfl, rfl⟩⟩
  | _ => cases e
def max2D : D → D → Option D
  | .int i, .int j => some (.int (if j > i then j else i))
  | _, _ => none
def min2D : D → D → Option D
  | .int i, .int j => some (.int (if j < i then j else i))
  | _, _ => none
theorem rel_max2 : OpRel K (fun x y H Q => ∃ i j, [x, y] = [V.int i, V.int j] ∧ Q (.int (if j > i then j else i)) H) max2D := .mk0 fun G H x y u v fx fy d S rx ry e Q q => by
  cases x with
  | int i =>
    cases y with
    | int j =>
      cases e
      obtain ⟨rfl, _⟩ := rx
      obtain ⟨rfl, _⟩ := ry
      exact ⟨i, j, rfl, q _ ⟨rfl, rfl⟩⟩
    | _ => cases e
  | _ => cases e
theorem rel_min2 : OpRel K (fun x y H Q => ∃ i j, [x, y] = [V.int i, V.int j] ∧ Q (.int (if j < i then j else i)) H) min2D := .mk0 fun G H x y u v fx fy d S rx ry e Q q => by
  cases x with
  | int i =>
    cases y with
    | int j =>
      cases e
      obtain ⟨rfl, _⟩ := rx
      obtain ⟨rfl, _⟩ := ry
      exact ⟨i, j, rfl, q _ ⟨rfl, rfl⟩⟩
    | _ => cases e
  | _ => cases e
/-! ### list(x), tuple(x) of frozen items -/
def D.fitems : D → Option (List D)
  | .lst _ xs => if frzs xs = true then some xs else none
  | .tup xs => if frzs xs = true then some xs else none
  | _ => none
theorem fit_of {d : D} {v : V} {xs : List D} (S : Same G H) (r : Ro K G H d v fv) (e : d.fitems = some xs) : ∃ a vs, v = .ref a ∧ (SqL K H a vs ∨ SqT K H a vs) ∧ Ros K G H xs vs fz := by
  cases d with
  | lst o ys =>
    obtain ⟨c, rfl⟩ := ite_some e
    obtain ⟨a, vs, g, rfl, h1, r1⟩ := r.lstV S
    have z := r1.frz0 ys vs g c
    subst z
    exact ⟨a, vs, rfl, .inl h1, r1⟩
  | tup ys =>
    obtain ⟨c, rfl⟩ := ite_some e
    obtain ⟨a, vs, rfl, h1, r1⟩ := r
    have z := r1.frz0 ys vs fv c
    subst z
    exact ⟨a, vs, rfl, .inr (same_t S h1), r1⟩
  | _ => cases e
def listD (x : D) : Option D := x.fitems.map fun xs => .lst true xs
def rListC (K : PySem.W.Frag) : List V → Hp → VK → Prop := fun xs H Q => ∃ p ys, xs = [.ref p] ∧ (SqL K H p ys ∨ SqT K H p ys) ∧ ∀ l, H l = none → Q (.ref l) (upd H l (.lst ys))
theorem rel_list : UnRel K (fun x => rListC K [x]) listD := by
  intro G H x u fx d S rx e Q q
  unfold listD at e
  cases e1 : x.fitems with
  | none => rw [e1] at e; cases e
  | some xs =>
    rw [e1] at e
    cases e
    obtain ⟨a, vs, rfl, h1, r1⟩ := fit_of S rx e1
    refine ⟨a, vs, rfl, h1, fun l hl => q _ G _ _ (new_lst S r1 hl) (Stp.newO S hl) fun b => ?_⟩
    unfold fAt fz
    split <;> omega
def tupleD (x : D) : Option D := x.fitems.map fun xs => .tup xs
def rTupleC (K : PySem.W.Frag) : List V → Hp → VK → Prop := fun xs H Q => ∃ p ys, xs = [.ref p] ∧ ((SqL K H p ys ∧ ∀ l, H l = none → Q (.ref l) (upd H l (.tup ys))) ∨ (SqT K H p ys ∧ Q (.ref p) H))
theorem rel_tuple : UnRel K (fun x => rTupleC K [x]) tupleD := by
  intro G H x u fx d S rx e Q q
  unfold tupleD at e
  cases x with
  | lst o ys =>
    obtain ⟨xs, e1, e2⟩ : ∃ xs, (D.lst o ys).fitems = some xs ∧ D.tup xs = d := by
      cases e1 : (D.lst o ys).fitems with
      | none => rw [e1] at e; cases e
      | some xs => rw [e1] at e; cases e; exact ⟨xs, rfl, rfl⟩
    obtain ⟨c, rfl⟩ := ite_some e1
    subst e2
    obtain ⟨a, vs, g, rfl, h1, r1⟩ := rx.lstV S
    have z := r1.frz0 ys vs g c
    subst z
    exact ⟨a, vs, rfl, .inl ⟨h1, fun l hl => q _ _ _ fz (new_tupF S r1 hl) (Stp.newF S hl) fun _ => Nat.zero_le _⟩⟩
  | tup ys =>
    obtain ⟨xs, e1, e2⟩ : ∃ xs, (D.tup ys).fitems = some xs ∧ D.tup xs = d := by
      cases e1 : (D.tup ys).fitems with
      | none => rw [e1] at e; cases e
      | some xs => rw [e1] at e; cases e; exact ⟨xs, rfl, rfl⟩
    obtain ⟨c, rfl⟩ := ite_some e1
    subst e2
    obtain ⟨a, vs, rfl, h1, r1⟩ := rx
    have z := r1.frz0 ys vs fx c
    subst z
    exact ⟨a, vs, rfl, .inr ⟨same_t S h1, q _ G H fz ⟨a, vs, rfl, h1, r1⟩ (Stp.refl S) fun _ => Nat.zero_le _⟩⟩
  | _ => cases e
end
end Fw
end

section
set_option linter.all false
set_option maxRecDepth 100000
namespace Fw
open PySem PySem.Spec PyProof.Rows L2

section
variable {E : XK} {K : PySem.W.Frag} {ps : List Nat} {pa : List V} {G H G' H' : Hp} {σ : Sg} {env env' : Env} {fp fp' fv : Fp} {p f p1 f1 p2 f2 p3 f3 : Bool}

/-! ### isinstance(x, T), T one of five -/
inductive Ty5 where
  | tuple | list | str | int | bool
def Ty5.nm : Ty5 → String
  | .tuple => "tuple" | .list => "list" | .str => "str" | .int => "int" | .bool => "bool"
def D.nm : D → String
  | .non => "NoneType" | .bl _ => "bool" | .int _ => "int" | .str _ => "str" | .tup _ => "tuple" | .lst _ _ => "list" | .dic _ _ _ => "dict"
def isTy : Ty5 → D → Bool
  | .tuple, .tup _ => true
  | .list, .lst _ _ => true
  | .str, .str _ => true
  | .int, .int _ => true
  | .int, .bl _ => true
  | .bool, .bl _ => true
  | _, _ => false
def noDic : D → Bool
  | .dic _ _ _ => false
  | _ => true
def isiD (T : Ty5) (x : D) : Option D := if noDic x = true then some (.bl (isTy T x)) else none
theorem kitT1 : (["NoneType", "bool", "int", "str", "tuple", "list"].all fun n => kitB n "tuple" == some (n == "tuple")) = true := by decide +kernel
theorem kitT2 : (["NoneType", "bool", "int", "str", "tuple", "list"].all fun n => kitB n "list" == some (n == "list")) = true := by decide +kernel
theorem kitT3 : (["NoneType", "bool", "int", "str", "tuple", "list"].all fun n => kitB n "str" == some (n == "str")) = true := by decide +kernel
theorem kitT4 : (["NoneType", "bool", "int", "str", "tuple", "list"].all fun n => kitB n "int" == some (n == "int" || n == "bool")) = true := by decide +kernel
theorem kitT5 : (["NoneType", "bool", "int", "str", "tuple", "list"].all fun n => kitB n "bool" == some (n == "bool")) = true := by decide +kernel
theorem kit5 (T : Ty5) (x : D) (h : noDic x = true) : kitB x.nm T.nm = some (isTy T x) := by
  have hm : x.nm ∈ ["NoneType", "bool", "int", "str", "tuple", "list"] := by
    cases x with
    | dic _ _ _ => cases h
    | _ => simp [D.nm]
  cases T with
  | tuple => rw [show Ty5.tuple.nm = "tuple" from rfl, eq_of_beq (List.all_eq_true.mp kitT1 _ hm)]; cases x <;> rfl
  | list => rw [show Ty5.list.nm = "list" from rfl, eq_of_beq (List.all_eq_true.mp kitT2 _ hm)]; cases x <;> rfl
  | str => rw [show Ty5.str.nm = "str" from rfl, eq_of_beq (List.all_eq_true.mp kitT3 _ hm)]; cases x <;> rfl
  | int => rw [show Ty5.int.nm = "int" from rfl, eq_of_beq (List.all_eq_true.mp kitT4 _ hm)]; cases x <;> rfl
  | bool => rw [show Ty5.bool.nm = "bool" from rfl, eq_of_beq (List.all_eq_true.mp kitT5 _ hm)]; cases x <;> rfl
theorem tyX_lst {a : Addr} {xs : List V} (h : SqL K H a xs) : TyX K H (.ref a) (.type "list") := by
  rcases h with (h | ⟨o, h⟩) | ⟨o, its, n, h, c, _⟩
  · exact .base (.lst h)
  · exact .base (.frz h)
  · exact .kList h c
theorem tyX_tup {a : Addr} {xs : List V} (h : SqT K H a xs) : TyX K H (.ref a) (.type "tuple") := by
  rcases h with (h | ⟨o, h⟩) | ⟨o, its, n, h, c, _⟩
  · exact .base (.tup h)
  · exact .fTuple h
  · exact .kTuple h c
theorem Ro.tyX (S : Same G H) {x : D} {v : V} (r : Ro K G H x v fv) (h : noDic x = true) : TyX K H v (.type x.nm) := by
  cases x with
  | non => obtain ⟨rfl, _⟩ := r; exact .base .non
  | bl b => obtain ⟨rfl, _⟩ := r; exact .base (.bl b)
  | int i => obtain ⟨rfl, _⟩ := r; exact .base (.int i)
  | str s => obtain ⟨rfl, _⟩ := r; exact .base (.str s)
  | tup xs =>
    obtain ⟨a, vs, rfl, h1, _⟩ := r
    exact tyX_tup (same_t S h1)
  | lst o xs =>
    obtain ⟨a, vs, g, rfl, h1, _⟩ := r.lstV S
    exact tyX_lst h1
  | dic _ _ _ => cases h
theorem rel_isi {T : Ty5} {t : TE} {F : FE} (h : RelE E K ps p f t F) : RelE E K ps p true (tCB (rIsi K) (tCons t (tCons (tC (.ty T.nm)) tNil))) (fUn (isiD T) F) := by
  intro pa G H σ env fp S Q w
  refine h pa G H σ env fp S _ (R.wp_mono (R.wp_bind w) (fun r w1 v G1 H1 fp1 fv1 P1 => ?_) fun _ x => x)
  obtain ⟨d, e, w2⟩ := R.wp_of (R.wp_bind w1)
  obtain ⟨c, rfl⟩ := ite_some e
  exact ⟨v, _, .type r.1.nm, _, isTy T r.1, rfl, .ty T.nm, P1.ro.tyX P1.sr.sub c, kit_ty (kit5 T r.1 c), w2 _ G1 H1 fp1 fz (P1.op1 (Stp.refl P1.sr.sub) ⟨rfl, rfl⟩ fun _ => Nat.zero_le _)⟩

/-! ### list(range(n)) -/
def fLstRg (F : FE) : FE := fun env => (F env).bind fun r => (R.of r.1.isI).bind fun n => if small62 n = true ∧ n.toNat ≤ big then .ok (.lst true (rangeD 0 n.toNat), r.2) else .no
theorem ros_range {lo : Int} : ∀ n : Nat, Ros K G H (rangeD lo n) ((List.range n).map fun i => V.int (lo + (i : Nat))) fz := by
  have gen : ∀ l : List Nat, Ros K G H (l.map fun i => D.int (lo + (i : Nat))) (l.map fun i => V.int (lo + (i : Nat))) fz := by
    intro l
    induction l with
    | nil => exact ⟨rfl, rfl⟩
    | cons x xs ih => exact ⟨_, _, fz, fz, rfl, ⟨rfl, rfl⟩, ih, rfl⟩
  exact fun n => gen _
theorem rel_lstRg {t : TE} {F : FE} (h : RelE E K ps p f t F) : RelE E K ps p true (tLstRg (tRg1 t)) (fLstRg F) := by
  intro pa G H σ env fp S Q w
  refine h pa G H σ env fp S _ (R.wp_mono (R.wp_bind w) (fun r w1 v G1 H1 fp1 fv1 P1 => ?_) fun _ x => x)
  obtain ⟨n, e, w2⟩ := R.wp_of (R.wp_bind w1)
  by_cases c : small62 n = true ∧ n.toNat ≤ big
  · rw [if_pos c] at w2
    obtain ⟨c1, c2⟩ := small_of c.1
    have hb : big = 2 ^ 24 := by decide
    refine ⟨n, P1.ro.isI e, ⟨by decide, by decide, c1, c2, by rw [← hb]; have := c.2; omega⟩, fun q hq => ?_⟩
    have e1 : rgV 0 n = (List.range n.toNat).map fun i => V.int (0 + (i : Nat)) := by
      unfold rgV
      rw [Int.sub_zero]
    rw [e1]
    refine w2 _ G1 _ fp1 _ (P1.op1 (Stp.newO P1.sr.sub hq) (new_lst P1.sr.sub (ros_range n.toNat) hq) fun b => ?_)
    unfold fAt fz
    split <;> omega
  · rw [if_neg c] at w2
    exact w2.elim

/-! ### a reading method of a value: xs.index(e) -/
def MtRel (K : PySem.W.Frag) (T : String) (r : V → List V → Hp → VK → Prop) (g : D → D → Option D) : Prop :=
  (∀ G H x u fx y d, Same G H → Ro K G H x u fx → g x y = some d → tyV K T u H) ∧ OpRel K (fun x y => r x [y]) g
def okT : String → D → Bool
  | "list", .lst _ _ => true
  | "str", .str _ => true
  | _, _ => false
theorem okT_ty {T : String} {x : D} {u : V} (S : Same G H) (r : Ro K G H x u fv) (h : okT T x = true) : tyV K T u H := by
  unfold okT at h
  split at h
  · exact lst_ty S r
  · obtain ⟨rfl, _⟩ := r
    rfl
  · cases h
def fMt (T : String) (g : D → D → Option D) (Fo Fa : FE) : FE := fun env => (Fo env).bind fun r => if okT T r.1 = true then (Fa r.2).bind fun s => (R.of (g r.1 s.1)).bind fun d => .ok (d, s.2) else .no
theorem rel_mt {T : String} {r : V → List V → Hp → VK → Prop} {g : D → D → Option D} {to ta : TE} {Fo Fa : FE} (hr : OpRel K (fun x y => r x [y]) g) (ho : RelE E K ps p1 f1 to Fo) (ha : RelE E K ps p2 f2 ta Fa) (hc : (p2 || f1) = true := by rfl) :
    RelE E K ps (p1 && p2) true (tBM K T r to (tCons ta tNil)) (fMt T g Fo Fa) := by
  intro pa G H σ env fp S Q w
  refine ho pa G H σ env fp S _ (R.wp_mono (R.wp_bind w) (fun r1 w1 v1 G1 H1 fp1 fv1 P1 => ?_) fun _ x => x)
  by_cases k : okT T r1.1 = true
  · rw [if_pos k] at w1
    refine ⟨okT_ty P1.sr.sub P1.ro k, ha pa G1 H1 σ r1.2 fp1 P1.sr _ (R.wp_mono (R.wp_bind w1) (fun r2 w2 v2 G2 H2 fp2 fv2 P2 => ?_) fun _ x => XW.mono P1.stp x)⟩
    have c : p2 = true ∨ ∀ b, fp1 b + fv1 b ≤ 1 := by
      rcases Bool.or_eq_true_iff.mp hc with z | z
      · exact .inl z
      · exact .inr (P1.one z)
    obtain ⟨d, e, w3⟩ := R.wp_of (R.wp_bind w2)
    exact hr G2 H2 r1.1 r2.1 v1 v2 fv1 fv2 d P2.sr.sub (P1.ro.carry P2 c) P2.ro e Q fun v G3 H3 fv r3 s3 o3 => w3 v G3 H3 fp2 fv (P1.op P2 s3 r3 o3)
  · rw [if_neg k] at w1
    exact w1.elim
def idxD (x : D) : List D → Nat → Option Nat
  | [], _ => none
  | y :: ys, n => if y.eqv x = true then some n else idxD x ys (n + 1)
theorem idx_spec {x : D} : ∀ {ys : List D} {n j : Nat}, idxD x ys n = some j → ∃ k z, j = n + k ∧ ys[k]? = some z ∧ z.eqv x = true ∧ ∀ m z', m < k → ys[m]? = some z' → z'.eqv x = false
  | [], _, _, h => by cases h
  | y :: ys, n, j, h => by
    have h' : (if y.eqv x = true then some n else idxD x ys (n + 1)) = some j := h
    by_cases c : y.eqv x = true
    · rw [if_pos c] at h'
      cases h'
      exact ⟨0, y, rfl, rfl, c, fun m z' hm => absurd hm (Nat.not_lt_zero m)⟩
    · rw [if_neg c] at h'
      obtain ⟨k, z, e1, e2, e3, e4⟩ := idx_spec h'
      refine ⟨k + 1, z, by omega, by simpa using e2, e3, fun m z' hm hz => ?_⟩
      cases m with
      | zero =>
        have e : y = z' := by simpa using hz
        rw [← e]
        simpa using c
      | succ m => exact e4 m z' (by omega) (by simpa using hz)
def indexD (x y : D) : Option D := match x with
  | .lst _ xs => if flatD y = true ∧ xs.all flatD = true then (idxD y xs 0).map fun j => .int (j : Nat) else none
  | _ => none
theorem rel_index : OpRel K (fun x y => rIndex K x [y]) indexD := .mk0 fun G H x y u v fx fy d S rx ry e Q q => by
  cases x with
  | lst o xs =>
    have e' : (if flatD y = true ∧ xs.all flatD = true then (idxD y xs 0).map fun j => D.int (j : Nat) else none) = some d := e
    by_cases c : flatD y = true ∧ xs.all flatD = true
    · rw [if_pos c] at e'
      cases e1 : idxD y xs 0 with
      | none => rw [e1] at e'; cases e'
      | some j =>
        rw [e1] at e'
        cases e'
        obtain ⟨a, vs, g, rfl, h1, r1⟩ := rx.lstV S
        obtain ⟨k, z, ej, e2, e3, e4⟩ := idx_spec e1
        have ej' : j = k := by omega
        subst ej'
        obtain ⟨w, gw, hw, rw_⟩ := r1.get e2
        have fl : ∀ {i : Nat} {z : D}, xs[i]? = some z → flatD z = true := fun h => List.all_eq_true.mp c.2 _ (List.mem_of_getElem? h)
        refine ⟨a, vs, v, j, w, rfl, rfl, h1, ry.flat c.1, r1.flat c.2, hw, by rw [flat_eq rw_ ry (fl e2) c.1]; exact e3, fun m z' hm hz => ?_, q _ ⟨rfl, rfl⟩⟩
        have hml : m < xs.length := by rw [← r1.len]; exact (List.getElem?_eq_some_iff.mp hz).1
        obtain ⟨w2, g2, hw2, rw2⟩ := r1.get (List.getElem?_eq_getElem hml)
        rw [hz] at hw2
        cases hw2
        rw [flat_eq rw2 ry (fl (List.getElem?_eq_getElem hml)) c.1]
        exact e4 m _ hm (List.getElem?_eq_getElem hml)
    · rw [if_neg c] at e'; cases e'
  | _ => cases e

/-! ### a dict of the module with text keys -/
def TabOk (K : PySem.W.Frag) (w : World) (a : Addr) (kvs : List (Str × D)) : Prop := ∀ z d, kvs.lookup z = some d → ∃ v, KDct K w a z v ∧ ∀ G H, Ro K G H d v fz
def tabD (kvs : List (Str × D)) : D → Option D
  | .str z => kvs.lookup z
  | _ => none
theorem rel_tab {w : World} {a : Addr} {kvs : List (Str × D)} {t : TE} {F : FE} (ht : TabOk K w a kvs) (h : RelE E K ps p f t F) : RelE E K ps p true (tOp (rIxD K w) (tC (.ref a)) t) (fUn (tabD kvs) F) := by
  intro pa G H σ env fp S Q w
  refine h pa G H σ env fp S _ (R.wp_mono (R.wp_bind w) (fun r w1 v G1 H1 fp1 fv1 P1 => ?_) fun _ x => x)
  obtain ⟨d, e, w2⟩ := R.wp_of (R.wp_bind w1)
  obtain ⟨d1, env1⟩ := r
  cases d1 with
  | str z =>
    obtain ⟨rfl, _⟩ := P1.ro
    obtain ⟨u, k, ru⟩ := ht z d e
    exact ⟨a, z, u, rfl, rfl, k, w2 u G1 H1 fp1 fz (P1.op1 (Stp.refl P1.sr.sub) (ru G1 H1) fun _ => Nat.zero_le _)⟩
  | _ => cases e
end

/-! ### a def -/
def spN (K : PySem.W.Frag) (n : Nat) (ps : List Nat) (F : Fn) : Sp := fun vs H Q E => vs.length = n ∧ spF K ps F vs H Q E
theorem fnok {P : Program} {w : World} {K : PySem.W.Frag} {mg : Str → Option Value} {base : Heap} {x qual : Str} {params : Arguments} {body : List Stmt} {scope : Scope} {dvs : List V} {kws : List (Str × V)} {f : Addr} {fd : FuncData}
    {N pl : List Str} {k : Nat} {pins : List Nat} {Fs : FS} (F : FunD K x qual params body scope dvs kws f fd) (S : FnScope N pl scope) (hp : ∀ i ∈ pins, i < pl.length) (hN : pl.length ≤ N.length)
    (hb : ∀ (cdv : Value) (A : Around) (outer : List PySem.Env) (s : Shared) (H : Hp) (E : XK), Room k (A.deeper (envOfC qual scope s.heap.objs.size f cdv)) →
      ∃ t, PSs (cxOf CX0 P w K mg base N qual scope f cdv A outer s H E).nox body t ∧ RelS E K pins t Fs) : FnOk P w K mg base CX0 (k + 1) f fd pl (spN K pl.length pins (fnF pins N.length Fs)) := by
  refine F.ok S (fun vs H Q E h => h.1) fun cdv A outer s H vs Q E hr h => ?_
  obtain ⟨t, h1, h2⟩ := hb cdv A outer s H E hr
  exact ⟨t, PSs.nox h1, body_of h2 (by rw [h.1]; exact hp) (by rw [h.1]; exact hN) h.2⟩
theorem Rga.len {K : PySem.W.Frag} {G H : Hp} {σ : Sg} : ∀ {ks : List (Option Nat)} {ds : List D} {vs : List V}, Rga K G H σ ks ds vs → vs.length = ks.length
  | [], [], [], _ => rfl
  | none :: ks, _ :: ds, _ :: vs, r => congrArg Nat.succ (Rga.len r.2)
  | some _ :: ks, _ :: ds, _ :: vs, r => congrArg Nat.succ (Rga.len r.2)
  | [], [], _ :: _, r => by cases r
  | [], _ :: _, _, r => by cases r
  | none :: _, [], _, r => by cases r
  | none :: _, _ :: _, [], r => by cases r
  | some _ :: _, [], _, r => by cases r
  | some _ :: _, _ :: _, [], r => by cases r
theorem rel_callN {E : XK} {K : PySem.W.Frag} {ps : List Nat} {p : Bool} {n : Nat} {ks : List (Option Nat)} {ps' : List Nat} {dd : List D} {dvs : List V} {F : Fn} {t : TA} {Fa : FA} (h : RelC E K ps p ks t Fa) (hps : psOf 0 ks = ps' := by rfl) (hd : ∀ G H, Ros K G H dd dvs fz := by exact fun _ _ => ⟨rfl, rfl⟩)
    (hn : ks.length + dvs.length = n := by rfl) : RelE E K ps (p && noIo ks) true (tCall (spN K n ps' F) dvs E t) (fCall ks dd F Fa) := by
  have h' : RelC E K ps p ks (fun σ H Q => t σ H fun vs H1 => (vs ++ dvs).length = n ∧ Q vs H1) Fa := by
    intro pa G H σ env fp S Q w
    exact h pa G H σ env fp S _ (R.wp_mono w (fun r w1 vs G1 H1 fp1 P1 ra => ⟨by rw [List.length_append, ra.len]; exact hn, w1 vs G1 H1 fp1 P1 ra⟩) fun _ x => x)
  exact rel_call (F := F) (dd := dd) h' hps hd
end Fw
end

section
set_option linter.all false
set_option maxRecDepth 100000
namespace Fw
open PySem PySem.Spec PyProof.Rows PySem.Calls L2
/-! ### what the head tells: facts, defs, tables, further facts -/
abbrev AlX : Type := He.AlT × List Bool
abbrev BFs : Type := List (PySem.W.Frag → Bool)
def obsX (fa : List He.Fa) (fn : List He.DefD) (ts : List He.Tab) (bs : BFs) (K : PySem.W.Frag) : AlX := (He.obsT fa fn ts K, bs.map fun b => b K)
def valX (fn : List He.DefD) (ts : List He.Tab) (bs : BFs) (w : World) : AlX := (He.valT fn ts w, bs.map fun _ => true)
def SaysX (fa : List He.Fa) (fn : List He.DefD) (ts : List He.Tab) (bs : BFs) (w : World) (K : PySem.W.Frag) : Prop := obsX fa fn ts bs K = valX fn ts bs w
def obsXG (n : Nat) (fa : List He.Fa) (fn : List He.DefD) (ts : List He.Tab) (bs : BFs) (g : Addr → Option Obj) : AlX := obsX fa fn ts bs (He.frG g (He.asD g n))
def hookX (n : Nat) (fa : List He.Fa) (fn : List He.DefD) (ts : List He.Tab) (bs : BFs) : PySem.W.Hook where
  α := AlX
  val := fun w => valX fn ts bs w
  obs := fun s => obsXG n fa fn ts bs s.heap.get?
  of := fun _ _ e => ⟨_, He.frG_in, e⟩
  says := fun w h => ∃ K : PySem.W.Frag, K.In h ∧ SaysX fa fn ts bs w K
  keeps := fun _ _ _ ⟨K, kin, c⟩ k => ⟨K, PySem.W.Frag.In.keeps kin k, c⟩
theorem obsXG_eq {n : Nat} {fa : List He.Fa} {fn : List He.DefD} {ts : List He.Tab} {bs : BFs} {g : Addr → Option Obj} {s : Shared} (h : ∀ a, g a = s.heap.get? a) : obsXG n fa fn ts bs g = (hookX n fa fn ts bs).obs s := by
  have q : g = s.heap.get? := funext h
  rw [q]
  rfl
section
variable {fa : List He.Fa} {fn : List He.DefD} {ts : List He.Tab} {bs : BFs} {w : World} {K : PySem.W.Frag}
theorem SaysX.t (c : SaysX fa fn ts bs w K) : He.SaysT fa fn ts w K := congrArg (fun z : AlX => z.1) c
theorem SaysX.b (c : SaysX fa fn ts bs w K) (i : Nat) {b : PySem.W.Frag → Bool} (h : bs[i]? = some b := by rfl) : b K = true := by
  have e : bs.map (fun b => b K) = bs.map fun _ => true := congrArg (fun z : AlX => z.2) c
  have q : (bs.map fun b => b K)[i]? = (bs.map fun _ => true)[i]? := by rw [e]
  rw [List.getElem?_map, List.getElem?_map, h] at q
  exact Option.some.inj q
end
/-- a table's facts -/
def Dv.d : He.Dv → D
  | .non => .non
  | .bl b => .bl b
  | .int i => .int i
  | .str x => .str x
  | _ => .dic true [] []
def plainV : He.Dv → Bool
  | .non => true
  | .bl _ => true
  | .int _ => true
  | .str _ => true
  | _ => false
theorem Dv.ro {K : PySem.W.Frag} {G H : Hp} {v : He.Dv} (h : plainV v = true) : Ro K G H (Dv.d v) (v.v K) fz := by
  cases v with
  | non => exact ⟨rfl, rfl⟩
  | bl b => exact ⟨rfl, rfl⟩
  | int b => exact ⟨rfl, rfl⟩
  | str b => exact ⟨rfl, rfl⟩
  | _ => cases h
theorem lookup_mem {kvs : List (Str × He.Dv)} {z : Str} {d : D} (h : (kvs.map fun q => (q.1, Dv.d q.2)).lookup z = some d) : ∃ v, (z, v) ∈ kvs ∧ d = Dv.d v := by
  induction kvs with
  | nil => cases h
  | cons q qs ih =>
    obtain ⟨k, v⟩ := q
    rw [List.map_cons, List.lookup_cons] at h
    cases c : z == k with
    | true =>
      rw [c] at h
      cases h
      exact ⟨v, by rw [eq_of_beq c]; exact List.mem_cons_self, rfl⟩
    | false =>
      rw [c] at h
      obtain ⟨v', m, e⟩ := ih h
      exact ⟨v', List.mem_cons_of_mem _ m, e⟩
theorem tab_ok {K : PySem.W.Frag} {w : World} {a : Addr} {es : Array DictEntry} {n : Nat} {kvs : List (Str × He.Dv)} (k : KDict K w a es n) (h : He.valsB K a kvs = true) (hp : kvs.all (fun q => plainV q.2) = true) :
    TabOk K w a (kvs.map fun q => (q.1, Dv.d q.2)) := fun z d e => by
  obtain ⟨v, m, rfl⟩ := lookup_mem e
  obtain ⟨u, e1, e2⟩ := He.valsB_ok h m
  exact ⟨v.v K, ⟨es, n, u, k.at_, k.lit, e1, e2⟩, fun G H => Dv.ro (List.all_eq_true.mp hp _ m)⟩
/-! ### the end, with the script's bits -/
theorem walk_law {l : PySem.W.OpenLaw} {d : DefRec} {n k : Nat} {x : Str} {q : Program} {loose : List Str} {XP : (Str → Option Value) → Heap → Prop} {YP : World → Heap → Prop}
    (hn : l.most = some n) (hdf : d.params.defaults = []) (hn2 : n ≤ sizeLine) (hr : Room k callerA)
    (F : ∀ (w : World) (mg : Str → Option Value) (fa : Addr) (h : Heap), YP w h → h.Ns mainGlobals mg → mg d.name = some (.ref fa) → ∃ (K : PySem.W.Frag) (fd : FuncData) (F : Fn),
      (∀ (s : Shared) (u : Value), BindsTo s fd ⟨[u], []⟩ [(x, u)]) ∧ K.In h ∧ (∀ ns : List Int, ns.length ≤ n → (∀ z ∈ ns, Builtin.Int.intBits z ≤ 1048576) → F [.lst false (ns.map .int)] = .ok (.bl true, [])) ∧
      ∀ base : Heap, K.In base → base.Ns mainGlobals mg → FnOk l.prog w K mg base CX0 k fa fd [x] (spN K 1 [] F)) :
    PySem.W.WalkO q loose XP YP l.row.toRowW d [] (fun f vs => PySem.call f vs) := by
  refine Att.attach_callB hn hdf fun w s₀ s₁ mg mb fa o pm cd doc a vs ns g y ho hd hcd hmg hobj hints hlen hbits hg => ?_
  obtain ⟨K, fd, Ff, hb, kin, hl, hF⟩ := F w mg fa _ y g.T.g hmg
  refine law_call kin g.T.g g.T.b g.T.builtins g.T.nolimit hg hobj hints (Nat.le_trans hlen hn2) hr hF hb (fun H hO hS => ?_) fun H e s' z => z
  refine ⟨rfl, H, [.lst false (ns.map .int)], fz, Same.refl H, ⟨.ref a, [], fz, fz, rfl, ⟨a, ns.map V.int, fz, rfl, by rw [if_neg Bool.false_ne_true]; exact hS, ?_, by funext b; simp [fAt, fz]⟩, ⟨rfl, rfl⟩, rfl⟩, fun _ => Nat.zero_le _, ?_⟩
  · clear hl hlen hbits hints hS
    induction ns with
    | nil => exact ⟨rfl, rfl⟩
    | cons z zs ih => exact ⟨.int z, zs.map V.int, fz, fz, rfl, ⟨rfl, rfl⟩, ih, rfl⟩
  · rw [hl ns hlen hbits]
    exact fun v G' H' fv f' r _ _ _ _ => r.1
end Fw
end

section
set_option linter.all false
set_option maxRecDepth 100000
namespace Fw
open PySem PySem.Spec PyProof.Rows PySem.Calls L2
theorem units65 {k : Nat} {A : Around} (r : Room k A) : A.units + 65 < cLine := by have := r.un; omega
/-- a def that is found by its name and keeps its promise -/
structure OkD (P : Program) (w : World) (K : PySem.W.Frag) (mg : Str → Option Value) (base : Heap) (x : Str) (k : Nat) (pl : List Str) (sp : Sp) : Prop where
  ex : ∃ f fd, FnOk P w K mg base CX0 k f fd pl sp ∧ mg x = some (.ref f) ∧ PySem.W.keepIn K (.ref f) = true ∧ Binds K fd pl []
theorem OkD.mk' {P : Program} {w : World} {K : PySem.W.Frag} {mg : Str → Option Value} {base : Heap} {x : Str} {k : Nat} {pl : List Str} {sp : Sp} {f : Addr} {fd : FuncData} (h : FnOk P w K mg base CX0 k f fd pl sp) (g : mg x = some (.ref f)) (kp : PySem.W.keepIn K (.ref f) = true) (b : Binds K fd pl []) :
    OkD P w K mg base x k pl sp := ⟨f, fd, h, g, kp, b⟩
theorem pe_callD {X : Cx} {x : Str} {j k : Nat} {pl : List Str} {sp : Sp} {E : XK} {e : Expr} {es : List Expr} {t : TA} {p pos : Pos} (O : OkD X.prog X.w X.K X.mg X.base x k pl sp) (hr : Room j X.A) (hk : k ≤ j) (hg : Gl X x) (ha : PA X (e :: es) t)
    (hdb : (x == ("__debug__" : Str)) = false := by decide) (he : starEach (e :: es) X.env = (false, eval e X.env) :: starEach es X.env := by rfl) (hpl : (backTo pos (starEach es X.env)).any (·.1) = false := by rfl) :
    PE X (.Call (.Name x p) (e :: es) [] pos) (tCall sp [] E t) := by
  obtain ⟨f, fd, h1, h2, h3, h4⟩ := O.ex
  exact pe_call h1 (hr.mono hk) hg h2 h3 h4 .nil pass0 ha hdb he hpl
theorem pe_callD0 {X : Cx} {x : Str} {j k : Nat} {pl : List Str} {sp : Sp} {E : XK} {p pos : Pos} (O : OkD X.prog X.w X.K X.mg X.base x k pl sp) (hr : Room j X.A) (hk : k ≤ j) (hg : Gl X x) (hdb : (x == ("__debug__" : Str)) = false := by decide) :
    PE X (.Call (.Name x p) [] [] pos) (tCall sp [] E tNil) := by
  obtain ⟨f, fd, h1, h2, h3, h4⟩ := O.ex
  exact pe_call0 h1 (hr.mono hk) hg h2 h3 h4 .nil pass0 hdb
theorem sp_no {K : PySem.W.Frag} {n : Nat} {ps : List Nat} {vs : List V} {H : Hp} {Q : VK} {E : XK} (h : spN K n ps (fun _ => .no) vs H Q E) : False := by
  obtain ⟨_, G, ds, f, _, _, _, q⟩ := h
  exact q
theorem fnok_no {P : Program} {w : World} {K : PySem.W.Frag} {mg : Str → Option Value} {base : Heap} {k n : Nat} {f : Addr} {fd : FuncData} {pl : List Str} {ps : List Nat} (h : pl.length = n) : FnOk P w K mg base CX0 k f fd pl (spN K n ps (fun _ => .no)) :=
  ⟨fun vs H Q E q => q.1.trans h.symm, fun A outer s H args us vs Q E _ _ _ _ q => (sp_no q).elim⟩
end Fw
end

section
set_option linter.all false
set_option maxRecDepth 100000
namespace Fw
open PySem PySem.Spec PyProof.Rows PySem.SeqAt L2
section
variable {prog : Program} {w : World} {A : Around} {E : Value → Shared → Prop} {s : Shared}
/-! ### the greater, the less of two data -/
theorem two_max {a b : Value} {d e : PyData} {as : List Addr} {Q : Value → Shared → Prop} (hh : A.handled = none) (hr : ReadsAll s.heap [a, b] [d, e] as) (ha : PySem.W.AlikeAll [d, e]) (hu : A.units + 1 + PyData.depthAll [d, e] < cLine)
    (h : ∀ h' tk, (∀ c o, s.heap.get? c = some o → h'.get? c = some o) → Q (if PySem.W.dataLt d e = true then b else a) { s with heap := h', toks := tk }) :
    wpAny (model prog w) A (call (.builtin "max") [a, b]) Q E s := by
  have nm : ("max" ++ ".loop" : String) = "max.loop" := by decide
  refine call_function_tree F.kind_max F.plain_max F.entry_max (F.args_max2 a b) ?_
  have bp : Builtin.Builtins.bindParams "max" ["key", "default"] 0 ⟨[], []⟩ = pure [none, none] := rfl
  show wpAny _ A.in1 (Builtin.Builtins.bindParams "max" ["key", "default"] 0 ⟨[], []⟩ >>= _) _ _ s
  refine wpAny_bind (wpAny_of_eq bp ?_)
  show wpAny _ A.in1 (newTuple [a, b] >>= _) _ _ s
  refine wpAny_bind (wpAny_newObj_type ?_)
  have hT : ({ s with heap := s.heap.push { cls := .type "tuple", data := .seq #[a, b] } } : Shared).heap.IsTuple s.heap.objs.size #[a, b] := ⟨_, Heap.get?_push_size _ rfl, rfl, 0, rfl⟩
  have old : ∀ c o, s.heap.get? c = some o → (s.heap.push { cls := .type "tuple", data := .seq #[a, b] }).get? c = some o := fun c o q => Heap.get?_push_of_some _ q
  refine wpAny_bind (PySem.W.iter_tupleW (s := { s with heap := s.heap.push { cls := .type "tuple", data := .seq #[a, b] } }) (A := A.in1) hh hT fun s₂ e₂ W st hfp hw hk => ?_)
  refine wpAny_bind (wpAny_newObj_type ?_)
  have nf := fun hm => Nat.lt_irrefl _ (hfp s₂.heap.objs.size hm)
  have hr2 : ReadsAll (s.heap.push { cls := .type "tuple", data := .seq #[a, b] }) (#[a, b] : Array Value).toList [d, e] as := PyProof.Rows.ReadsAll.keeps old hr
  refine wpAny_pure ⟨plainId_quiet F.plain_max_loop _, codeAny_max_loop_firstH W _ hw _ (PySem.W.cmpIn_gt (s := { s with heap := s.heap.push { cls := .type "tuple", data := .seq #[a, b] } }) (A := A.in1) (vs := #[a, b]) hr2 ha hu) s₂.heap.objs.size nf (fresh_in hk) _ (show 0 < 2 from Nat.zero_lt_succ 1)
    (fun c o q => Heap.get?_push_of_some _ (hk c o q)) (W.frame 0 s₂ _ s₂.toks st (Nat.le_refl _) fun c _ o q => Heap.get?_push_of_some _ q) (Heap.get?_push_size _ rfl) fun v s' hP hm => ?_⟩
  obtain ⟨h', tk, rfl, hk'⟩ := PySem.W.moved_old e₂ rfl (Moved.drop_new (tk := s₂.toks) hm (Nat.le_refl _))
  have hv : v = if PySem.W.dataLt d e = true then b else a := by
    have hP' : (#[a, b] : Array Value)[argBest (fun i j => PySem.W.dataLt ([d, e].getD j .none) ([d, e].getD i .none)) 1]? = some v := hP
    have e1 : argBest (fun i j => PySem.W.dataLt ([d, e].getD j .none) ([d, e].getD i .none)) 1 = if PySem.W.dataLt d e = true then 1 else 0 := rfl
    rw [e1] at hP'
    by_cases c : PySem.W.dataLt d e = true
    · rw [if_pos c] at hP' ⊢
      exact (Option.some.inj hP').symm
    · rw [if_neg c] at hP' ⊢
      exact (Option.some.inj hP').symm
  rw [hv]
  exact h h' tk fun c o q => hk' c o (old c o q)
theorem two_min {a b : Value} {d e : PyData} {as : List Addr} {Q : Value → Shared → Prop} (hh : A.handled = none) (hr : ReadsAll s.heap [a, b] [d, e] as) (ha : PySem.W.AlikeAll [d, e]) (hu : A.units + 1 + PyData.depthAll [d, e] < cLine)
    (h : ∀ h' tk, (∀ c o, s.heap.get? c = some o → h'.get? c = some o) → Q (if PySem.W.dataLt e d = true then b else a) { s with heap := h', toks := tk }) :
    wpAny (model prog w) A (call (.builtin "min") [a, b]) Q E s := by
  have nm : ("min" ++ ".loop" : String) = "min.loop" := by decide
  refine call_function_tree F.kind_min F.plain_min F.entry_min (F.args_min2 a b) ?_
  have bp : Builtin.Builtins.bindParams "min" ["key", "default"] 0 ⟨[], []⟩ = pure [none, none] := rfl
  show wpAny _ A.in1 (Builtin.Builtins.bindParams "min" ["key", "default"] 0 ⟨[], []⟩ >>= _) _ _ s
  refine wpAny_bind (wpAny_of_eq bp ?_)
  show wpAny _ A.in1 (newTuple [a, b] >>= _) _ _ s
  refine wpAny_bind (wpAny_newObj_type ?_)
  have hT : ({ s with heap := s.heap.push { cls := .type "tuple", data := .seq #[a, b] } } : Shared).heap.IsTuple s.heap.objs.size #[a, b] := ⟨_, Heap.get?_push_size _ rfl, rfl, 0, rfl⟩
  have old : ∀ c o, s.heap.get? c = some o → (s.heap.push { cls := .type "tuple", data := .seq #[a, b] }).get? c = some o := fun c o q => Heap.get?_push_of_some _ q
  refine wpAny_bind (PySem.W.iter_tupleW (s := { s with heap := s.heap.push { cls := .type "tuple", data := .seq #[a, b] } }) (A := A.in1) hh hT fun s₂ e₂ W st hfp hw hk => ?_)
  refine wpAny_bind (wpAny_newObj_type ?_)
  have nf := fun hm => Nat.lt_irrefl _ (hfp s₂.heap.objs.size hm)
  have hr2 : ReadsAll (s.heap.push { cls := .type "tuple", data := .seq #[a, b] }) (#[a, b] : Array Value).toList [d, e] as := PyProof.Rows.ReadsAll.keeps old hr
  refine wpAny_pure ⟨plainId_quiet F.plain_min_loop _, codeAny_min_loop_firstH W _ hw _ (PySem.W.cmpIn_lt (s := { s with heap := s.heap.push { cls := .type "tuple", data := .seq #[a, b] } }) (A := A.in1) (vs := #[a, b]) hr2 ha hu) s₂.heap.objs.size nf (fresh_in hk) _ (show 0 < 2 from Nat.zero_lt_succ 1)
    (fun c o q => Heap.get?_push_of_some _ (hk c o q)) (W.frame 0 s₂ _ s₂.toks st (Nat.le_refl _) fun c _ o q => Heap.get?_push_of_some _ q) (Heap.get?_push_size _ rfl) fun v s' hP hm => ?_⟩
  obtain ⟨h', tk, rfl, hk'⟩ := PySem.W.moved_old e₂ rfl (Moved.drop_new (tk := s₂.toks) hm (Nat.le_refl _))
  have hv : v = if PySem.W.dataLt e d = true then b else a := by
    have hP' : (#[a, b] : Array Value)[argBest (fun i j => PySem.W.dataLt ([d, e].getD i .none) ([d, e].getD j .none)) 1]? = some v := hP
    have e1 : argBest (fun i j => PySem.W.dataLt ([d, e].getD i .none) ([d, e].getD j .none)) 1 = if PySem.W.dataLt e d = true then 1 else 0 := rfl
    rw [e1] at hP'
    by_cases c : PySem.W.dataLt e d = true
    · rw [if_pos c] at hP' ⊢
      exact (Option.some.inj hP').symm
    · rw [if_neg c] at hP' ⊢
      exact (Option.some.inj hP').symm
  rw [hv]
  exact h h' tk fun c o q => hk' c o (old c o q)
end
section
variable {X : Cx}
def rMaxD (K : PySem.W.Frag) : R2 := fun x y H Q => ∃ d e, Dp K H x d ∧ Dp K H y e ∧ PySem.W.AlikeAll [d, e] ∧ d.depth ≤ 64 ∧ e.depth ≤ 64 ∧ Q (if PySem.W.dataLt d e = true then y else x) H
def rMinD (K : PySem.W.Frag) : R2 := fun x y H Q => ∃ d e, Dp K H x d ∧ Dp K H y e ∧ PySem.W.AlikeAll [d, e] ∧ d.depth ≤ 64 ∧ e.depth ≤ 64 ∧ Q (if PySem.W.dataLt e d = true then y else x) H
theorem dep2 {d e : PyData} (h1 : d.depth ≤ 64) (h2 : e.depth ≤ 64) : PyData.depthAll [d, e] ≤ 64 := by
  have e1 : PyData.depthAll [d, e] = max d.depth (max e.depth 0) := by simp [PyData.depthAll]
  omega
theorem call_maxD (hc : X.calm = true) (hu : X.A.units + 65 < cLine) : CallR X (.builtin "max") (fun xs H Q => ∃ x y, xs = [x, y] ∧ rMaxD X.K x y H Q) := by
  intro pins s σ H xs us Q I r h
  obtain ⟨x, y, rfl, d, e, h1, h2, al, p1, p2, q⟩ := h
  cases r with
  | cons r1 r2 =>
    cases r2 with
    | cons r2 r3 =>
      cases r3
      obtain ⟨as, hr⟩ := Dp.readsAll I [d, e] [x, y] _ (.cons h1 (.cons h2 .nil)) (.cons r1 (.cons r2 .nil))
      refine two_max (I.ok.hd hc) hr al (by have := dep2 p1 p2; omega) fun h' tk k => ⟨_, H, I.kept k, ?_, q⟩
      by_cases c : PySem.W.dataLt d e = true
      · rw [if_pos c, if_pos c]; exact r2
      · rw [if_neg c, if_neg c]; exact r1
theorem call_minD (hc : X.calm = true) (hu : X.A.units + 65 < cLine) : CallR X (.builtin "min") (fun xs H Q => ∃ x y, xs = [x, y] ∧ rMinD X.K x y H Q) := by
  intro pins s σ H xs us Q I r h
  obtain ⟨x, y, rfl, d, e, h1, h2, al, p1, p2, q⟩ := h
  cases r with
  | cons r1 r2 =>
    cases r2 with
    | cons r2 r3 =>
      cases r3
      obtain ⟨as, hr⟩ := Dp.readsAll I [d, e] [x, y] _ (.cons h1 (.cons h2 .nil)) (.cons r1 (.cons r2 .nil))
      refine two_min (I.ok.hd hc) hr al (by have := dep2 p1 p2; omega) fun h' tk k => ⟨_, H, I.kept k, ?_, q⟩
      by_cases c : PySem.W.dataLt e d = true
      · rw [if_pos c, if_pos c]; exact r2
      · rw [if_neg c, if_neg c]; exact r1
/-- data that can be held against one another -/
def okAl (x y : D) : Bool := x.nd && y.nd && !x.isN && !y.isN && PySem.W.alike x.py y.py && PySem.W.alike y.py x.py && PySem.W.alike x.py x.py && PySem.W.alike y.py y.py && decide (x.py.depth ≤ 64) && decide (y.py.depth ≤ 64) && x.frz && y.frz
def ltB (x y : D) : Bool := PySem.W.dataLt x.py y.py
def maxA : D → D → Option D := fun x y => if okAl x y = true then some (if ltB x y = true then y else x) else none
def minA : D → D → Option D := fun x y => if okAl x y = true then some (if ltB y x = true then y else x) else none
theorem py_ne {x : D} (h : x.isN = false) : x.py ≠ .none := fun z => by
  cases x with
  | non => cases h
  | _ => cases z
theorem al_of {x y : D} (h : okAl x y = true) : x.nd = true ∧ y.nd = true ∧ PySem.W.AlikeAll [x.py, y.py] ∧ x.py.depth ≤ 64 ∧ y.py.depth ≤ 64 ∧ x.frz = true ∧ y.frz = true := by
  unfold okAl at h
  simp only [Bool.and_eq_true, decide_eq_true_eq, Bool.not_eq_true'] at h
  obtain ⟨⟨⟨⟨⟨⟨⟨⟨⟨⟨⟨h1, h2⟩, h3⟩, h4⟩, h5⟩, h6⟩, h7⟩, h8⟩, h9⟩, h10⟩, h11⟩, h12⟩ := h
  refine ⟨h1, h2, ⟨fun a ha b hb => ?_, fun a ha => ?_⟩, h9, h10, h11, h12⟩
  · simp only [List.mem_cons, List.not_mem_nil, or_false] at ha hb
    rcases ha with rfl | rfl <;> rcases hb with rfl | rfl <;> assumption
  · simp only [List.mem_cons, List.not_mem_nil, or_false] at ha
    rcases ha with rfl | rfl
    · exact py_ne h3
    · exact py_ne h4
theorem rel_maxA {K : PySem.W.Frag} : OpRel K (fun x y H Q => ∃ x' y', [x, y] = [x', y'] ∧ rMaxD K x' y' H Q) maxA := .mk0 fun G H x y u v fx fy d S rx ry e Q q => by
  obtain ⟨c, rfl⟩ := ite_some e
  obtain ⟨h1, h2, h3, h4, h5, h6, h7⟩ := al_of c
  refine ⟨u, v, rfl, x.py, y.py, rx.dp S x u fx h1, ry.dp S y v fy h2, h3, h4, h5, ?_⟩
  have z1 := rx.frz0 x u fx h6
  have z2 := ry.frz0 y v fy h7
  subst z1 z2
  unfold ltB at q
  by_cases c : PySem.W.dataLt x.py y.py = true
  · rw [if_pos c] at q ⊢; exact q _ ry
  · rw [if_neg c] at q ⊢; exact q _ rx
theorem rel_minA {K : PySem.W.Frag} : OpRel K (fun x y H Q => ∃ x' y', [x, y] = [x', y'] ∧ rMinD K x' y' H Q) minA := .mk0 fun G H x y u v fx fy d S rx ry e Q q => by
  obtain ⟨c, rfl⟩ := ite_some e
  obtain ⟨h1, h2, h3, h4, h5, h6, h7⟩ := al_of c
  refine ⟨u, v, rfl, x.py, y.py, rx.dp S x u fx h1, ry.dp S y v fy h2, h3, h4, h5, ?_⟩
  have z1 := rx.frz0 x u fx h6
  have z2 := ry.frz0 y v fy h7
  subst z1 z2
  unfold ltB at q
  by_cases c : PySem.W.dataLt y.py x.py = true
  · rw [if_pos c] at q ⊢; exact q _ ry
  · rw [if_neg c] at q ⊢; exact q _ rx
theorem units66 {k : Nat} {A : Around} (r : Room k A) : A.units + 66 < cLine := by have := r.un; omega
/-! ### sorted(a list of data) -/
def rSortD (K : PySem.W.Frag) : V → Hp → VK → Prop := fun x H Q => ∃ (a : Addr) (vs : List V) (ds : List D), x = .ref a ∧ SqL K H a vs ∧ ds.length = vs.length ∧ DpAll K H vs (ds.map D.py) ∧ PySem.W.AllAlike (ds.map D.py) ∧ PySem.W.Sortable (ds.map D.py) ∧ (∀ d ∈ ds, d.py.depth ≤ 64) ∧ vs.length ≤ big ∧
  ∀ p, H p = none → Q (.ref p) (upd H p (.lst (((ds.zip vs).mergeSort (PySem.W.dataLe false fun q => q.1.py)).map (·.2))))
theorem each_zip {K : PySem.W.Frag} {H : Hp} : ∀ {vs : List V} {us : List Value} {ds : List D}, Vals vs us → ds.length = vs.length → PySem.W.EachIs (fun u (q : D × V) => RelV q.2 u) us (ds.zip vs)
  | [], _, [], .nil, _ => .nil
  | v :: vs, u :: us, d :: ds, .cons r1 r2, h => .cons r1 (each_zip (K := K) (H := H) r2 (by simpa using h))
  | [], _, _ :: _, _, h => by cases h
  | _ :: _, _, [], _, h => by cases h
theorem dpAll_each (I : Inv X pins σ H s) : ∀ {vs : List V} {us : List Value} {ds : List D}, Vals vs us → ds.length = vs.length → DpAll X.K H vs (ds.map D.py) → PySem.W.EachIs (fun u (q : D × V) => ∃ as, Reads s.heap u q.1.py as) us (ds.zip vs)
  | [], _, [], .nil, _, _ => .nil
  | v :: vs, u :: us, d :: ds, .cons r1 r2, h, .cons d1 d2 => .cons (Dp.reads I d.py v u d1 r1) (dpAll_each I r2 (by simpa using h) d2)
theorem vals_of {R : D × V → D × V → Bool} : ∀ {out : List Value} {qs : List (D × V)}, PySem.W.EachIs (fun u (q : D × V) => RelV q.2 u) out qs → Vals (qs.map (·.2)) out
  | _, _, .nil => .nil
  | _, _, .cons h t => .cons h (vals_of (R := R) t)
theorem zip_py {A : Type} : ∀ {ds : List D} {vs : List A}, ds.length = vs.length → (ds.zip vs).map (fun q => q.1.py) = ds.map D.py
  | [], [], _ => rfl
  | d :: ds, v :: vs, h => by
    show d.py :: (ds.zip vs).map _ = d.py :: ds.map D.py
    rw [zip_py (by simpa using h)]
theorem cr_sortedDat (hu : X.A.units + 66 < cLine) : CallR X (.builtin "sorted") (fun xs H Q => ∃ x, xs = [x] ∧ rSortD X.K x H Q) := by
  intro pins s σ H xs us Q I r h
  obtain ⟨x, rfl, a, vs, ds, rfl, hs, hlen, hd, hal, hk, hdp, hbig, q⟩ := h
  obtain ⟨its, rv, hl, _⟩ := I.list hs
  rw [Vals.ref1 r]
  have hz := zip_py hlen
  have hzl : (ds.zip vs).length = vs.length := by rw [List.length_zip, hlen, Nat.min_self]
  refine PySem.W.sorted_data (bs := ds.zip vs) (enc := fun q => q.1.py) (R := fun u q => RelV q.2 u) hl.isList (each_zip (K := X.K) (H := H) rv hlen) (dpAll_each I rv hlen hd) (by rw [hz]; exact hal) (by rw [hz]; exact hk) (by rw [hzl]; exact big_line hbig) (fun b hb => ?_) fun out ho e => ?_
  · have hm : b.1 ∈ ds := (List.of_mem_zip hb).1
    have := hdp _ hm
    show X.A.units + 2 + b.1.py.depth < cLine
    omega
  · obtain ⟨ep, he'⟩ := PyProof.Rows.sortedAll_at s.heap its (List.toArray out)
    have hl2 : (((ds.zip vs).mergeSort (PySem.W.dataLe false fun q => q.1.py)).map (·.2)).length ≤ sizeLine := by
      rw [List.length_map, (List.mergeSort_perm _ _).length_eq, hzl]
      exact big_line hbig
    exact ⟨.ref _, upd H (s.heap.objs.size + 1) (.lst (((ds.zip vs).mergeSort (PySem.W.dataLe false fun q => q.1.py)).map (·.2))), I.laid (t' := s.toks) (fun _ _ => PyProof.Rows.sortedAll_old) (Nat.le_succ _) ⟨hl2, out, ep, vals_of (R := fun _ _ => true) e, he'⟩, rfl, q _ (I.hok.fresh (Nat.le_succ _))⟩
end
/-- in ascending order -/
def leB (x y : D) : Bool := !ltB y x
def srtD (xs : List D) : List D := xs.mergeSort leB
def alAll (xs : List D) : Bool := xs.all fun x => xs.all fun y => PySem.W.alike x.py y.py
def tupB : D → Bool
  | .tup (_ :: _) => true
  | _ => false
def othB : D → Bool
  | .non => false
  | .tup _ => false
  | _ => true
def okSrt (xs : List D) : Bool := nds xs && frzs xs && alAll xs && (xs.all tupB || xs.all othB) && xs.all (fun x => decide (x.py.depth ≤ 64)) && decide (xs.length ≤ big)
def sortedD : D → Option D
  | .lst _ xs => if okSrt xs = true then some (.lst true (srtD xs)) else none
  | _ => none
theorem nds_mem {ds : List D} (h : nds ds = true) : ∀ d ∈ ds, d.nd = true := by
  induction ds with
  | nil => intro d hd; cases hd
  | cons x xs ih =>
    rw [nds, Bool.and_eq_true] at h
    intro d hd
    rcases List.mem_cons.mp hd with e | e
    · rw [e]; exact h.1
    · exact ih h.2 d e
theorem pys_map : ∀ xs : List D, pys xs = xs.map D.py
  | [] => rfl
  | x :: xs => by rw [pys, pys_map xs, List.map_cons]
theorem ros_zip {K : PySem.W.Frag} {G H : Hp} : ∀ {ds : List D} {vs : List V}, Ros K G H ds vs fz → frzs ds = true → ∀ q ∈ ds.zip vs, Ro K G H q.1 q.2 fz
  | [], _, _, _, q, hq => by cases hq
  | d :: ds, _, ⟨v, ws, g, h, e1, e2, e3, e4⟩, z, q, hq => by
    subst e1
    rw [frzs, Bool.and_eq_true] at z
    have z1 := e2.frz0 d v g z.1
    have z2 := e3.frz0 ds ws h z.2
    subst z1 z2
    rcases List.mem_cons.mp hq with e | e
    · rw [e]; exact e2
    · exact ros_zip e3 z.2 q e
theorem ros_of {K : PySem.W.Frag} {G H : Hp} : ∀ (qs : List (D × V)), (∀ q ∈ qs, Ro K G H q.1 q.2 fz) → Ros K G H (qs.map (·.1)) (qs.map (·.2)) fz
  | [], _ => ⟨rfl, rfl⟩
  | q :: qs, h => ⟨q.2, qs.map (·.2), fz, fz, rfl, h q List.mem_cons_self, ros_of qs fun x hx => h x (List.mem_cons_of_mem _ hx), rfl⟩
theorem rel_sorted {K : PySem.W.Frag} : UnRel K (fun x H Q => ∃ x', [x] = [x'] ∧ rSortD K x' H Q) sortedD := by
  intro G H x u fx d S rx e Q q
  cases x with
  | lst o xs =>
    obtain ⟨c, rfl⟩ := ite_some e
    unfold okSrt at c
    simp only [Bool.and_eq_true, decide_eq_true_eq] at c
    obtain ⟨⟨⟨⟨⟨c1, c2⟩, c3⟩, c4⟩, c5⟩, c6⟩ := c
    obtain ⟨a, vs, g, rfl, h1, r1⟩ := rx.lstV S
    have z := r1.frz0 xs vs g c2
    subst z
    have hl := r1.len
    have hd := Ros.dp S xs vs fz c1 r1
    rw [pys_map] at hd
    refine ⟨_, rfl, a, vs, xs, rfl, h1, hl.symm, hd, fun x hx y hy => ?_, ?_, fun d hd => ?_, by rw [hl]; exact c6, fun p hp => ?_⟩
    · obtain ⟨x', hx', rfl⟩ := List.mem_map.mp hx
      obtain ⟨y', hy', rfl⟩ := List.mem_map.mp hy
      exact List.all_eq_true.mp (List.all_eq_true.mp c3 x' hx') y' hy'
    · rcases Bool.or_eq_true_iff.mp c4 with c | c
      · refine .inl fun x hx => ?_
        obtain ⟨x', hx', rfl⟩ := List.mem_map.mp hx
        have t := List.all_eq_true.mp c x' hx'
        unfold tupB at t
        split at t
        · exact ⟨_, _, rfl⟩
        · cases t
      · refine .inr fun x hx => ?_
        obtain ⟨x', hx', rfl⟩ := List.mem_map.mp hx
        have t := List.all_eq_true.mp c x' hx'
        cases x' with
        | non => cases t
        | tup _ => cases t
        | dic _ _ _ => have := nds_mem c1 _ hx'; rw [D.nd] at this; cases this
        | _ => exact ⟨fun z => (by cases z), fun ys z => (by cases z)⟩
    · exact of_decide_eq_true (List.all_eq_true.mp c5 d hd)
    · have e1 : srtD xs = ((xs.zip vs).mergeSort (PySem.W.dataLe false fun q => q.1.py)).map (·.1) := by
        have e2 := List.map_mergeSort (r := PySem.W.dataLe false fun q : D × V => q.1.py) (s := leB) (f := fun q : D × V => q.1) (l := xs.zip vs) (fun a _ b _ => rfl)
        have e3 : (xs.zip vs).map (fun q : D × V => q.1) = xs := List.map_fst_zip (by rw [hl]; exact Nat.le_refl _)
        rw [e3] at e2
        exact e2.symm
      rw [e1] at q
      refine q _ G _ _ (new_lst S (ros_of _ fun q hq => ros_zip r1 c2 q ((List.mergeSort_perm _ _).mem_iff.mp hq)) hp) (Stp.newO S hp) fun b => ?_
      unfold fAt fz
      split <;> omega
  | _ => cases e
/-! ### sep.join -/
def allS : List D → Option (List Str)
  | [] => some []
  | .str s :: r => (allS r).map fun q => s :: q
  | _ => none
theorem allS_eq : ∀ {ds : List D} {ys : List Str}, allS ds = some ys → ds = ys.map D.str
  | [], _, h => by cases h; rfl
  | .str s :: r, ys, h => by
    have h' : (allS r).map (fun q => s :: q) = some ys := h
    cases e : allS r with
    | none => rw [e] at h'; cases h'
    | some q =>
      rw [e] at h'
      cases h'
      rw [allS_eq e]
      rfl
  | .non :: _, _, h => by cases h
  | .bl _ :: _, _, h => by cases h
  | .int _ :: _, _, h => by cases h
  | .tup _ :: _, _, h => by cases h
  | .lst _ _ :: _, _, h => by cases h
  | .dic _ _ _ :: _, _, h => by cases h
def joinL (a : Str) (ds : List D) : Option D := (allS ds).bind fun ys => if (ys.map (·.length)).sum + ys.length * a.length ≤ 16777216 then some (.str (Txt.join a ys)) else none
def joinD (x y : D) : Option D := match x, y with
  | .str a, .lst _ ds => joinL a ds
  | .str a, .tup ds => joinL a ds
  | _, _ => none
theorem ros_strs {K : PySem.W.Frag} {G H : Hp} : ∀ {ys : List Str} {vs : List V} {f : Fp}, Ros K G H (ys.map D.str) vs f → vs = ys.map V.str
  | [], _, _, ⟨e, _⟩ => e
  | y :: ys, _, _, ⟨v, ws, g, h, e1, e2, e3, e4⟩ => by
    obtain ⟨rfl, _⟩ := e2
    rw [e1, ros_strs e3]
    rfl
def rJoinC (K : PySem.W.Frag) : V → List V → Hp → VK → Prop := fun x xs H Q => ∃ a p, ∃ ys : List Str, x = .str a ∧ xs = [.ref p] ∧ (SqL K H p (ys.map V.str) ∨ SqT K H p (ys.map V.str)) ∧ (ys.map (·.length)).sum + ys.length * a.length ≤ 16777216 ∧ Q (.str (Txt.join a ys)) H
theorem rel_join {K : PySem.W.Frag} : OpRel K (fun x y => rJoinC K x [y]) joinD := .mk0 fun G H x y u v fx fy d S rx ry e Q q => by
  have key : ∀ {a : Str} {ds : List D}, joinL a ds = some d → ∃ ys : List Str, ds = ys.map D.str ∧ (ys.map (·.length)).sum + ys.length * a.length ≤ 16777216 ∧ d = .str (Txt.join a ys) := fun {a ds} h => by
    unfold joinL at h
    cases e1 : allS ds with
    | none => rw [e1] at h; cases h
    | some ys =>
      rw [e1] at h
      have h' : (if (ys.map (·.length)).sum + ys.length * a.length ≤ 16777216 then some (D.str (Txt.join a ys)) else none) = some d := h
      obtain ⟨c, rfl⟩ := ite_some h'
      exact ⟨ys, allS_eq e1, c, rfl⟩
  cases x with
  | str a =>
    obtain ⟨rfl, _⟩ := rx
    cases y with
    | lst o ds =>
      obtain ⟨ys, rfl, c, rfl⟩ := key e
      obtain ⟨p, vs, g, rfl, h1, r1⟩ := ry.lstV S
      rw [ros_strs r1] at h1
      exact ⟨a, p, ys, rfl, rfl, .inl h1, c, q _ ⟨rfl, rfl⟩⟩
    | tup ds =>
      obtain ⟨ys, rfl, c, rfl⟩ := key e
      obtain ⟨p, vs, rfl, h1, r1⟩ := ry
      rw [ros_strs r1] at h1
      exact ⟨a, p, ys, rfl, rfl, .inr (same_t S h1), c, q _ ⟨rfl, rfl⟩⟩
    | _ => cases e
  | _ => cases y <;> cases e
end Fw
end

section
set_option linter.all false
set_option maxRecDepth 100000
namespace Fw
open PySem PySem.Spec PyProof.Rows PySem.SeqAt L2
/-! ### == and in, of any data without dicts -/
mutual
theorem nd_plain : ∀ (x : D), x.nd = true → x.py.plain = true
  | .non, _ => by simp [D.py, PyData.plain]
  | .bl _, _ => by simp [D.py, PyData.plain]
  | .int _, _ => by simp [D.py, PyData.plain]
  | .str _, _ => by simp [D.py, PyData.plain]
  | .tup xs, h => by rw [D.nd] at h; simpa [D.py, PyData.plain] using nds_plain xs h
  | .lst o xs, h => by rw [D.nd] at h; simpa [D.py, PyData.plain] using nds_plain xs h
  | .dic _ _ _, h => by rw [D.nd] at h; cases h
theorem nds_plain : ∀ (xs : List D), nds xs = true → PyData.plainAll (pys xs) = true
  | [], _ => by simp [pys, PyData.plainAll]
  | x :: xs, h => by
    rw [nds, Bool.and_eq_true] at h
    simp [pys, PyData.plainAll, nd_plain x h.1, nds_plain xs h.2]
end
section
variable {X : Cx}
def rEqP (K : PySem.W.Frag) : R2 := fun x y H Q => ∃ d e, Dp K H x d ∧ Dp K H y e ∧ d.plain = true ∧ e.plain = true ∧ d.depth ≤ 64 ∧ Q (.bl (PyData.eqv d e)) H
def rNeP (K : PySem.W.Frag) : R2 := fun x y H Q => ∃ d e, Dp K H x d ∧ Dp K H y e ∧ d.plain = true ∧ e.plain = true ∧ d.depth ≤ 64 ∧ Q (.bl (!PyData.eqv d e)) H
theorem op_eqP (hu : X.A.units + 64 < cLine) : OpR X (compareOp .Eq) (rEqP X.K) := by
  intro pins s σ H x y v u Q I rx ry h
  obtain ⟨d, e, hd, he, p1, p2, dp, q⟩ := h
  obtain ⟨as, r1⟩ := Dp.reads I d x v hd rx
  obtain ⟨bs, r2⟩ := Dp.reads I e y u he ry
  exact eq_plain r1 r2 p1 p2 (by have := Nat.min_le_left d.depth e.depth; omega) ⟨.bl _, H, I, rfl, q⟩
theorem op_neP (hu : X.A.units + 64 < cLine) : OpR X (compareOp .NotEq) (rNeP X.K) := by
  intro pins s σ H x y v u Q I rx ry h
  obtain ⟨d, e, hd, he, p1, p2, dp, q⟩ := h
  obtain ⟨as, r1⟩ := Dp.reads I d x v hd rx
  obtain ⟨bs, r2⟩ := Dp.reads I e y u he ry
  exact ne_plain r1 r2 p1 p2 (by have := Nat.min_le_left d.depth e.depth; omega) ⟨.bl _, H, I, rfl, q⟩
def rInP (K : PySem.W.Frag) (neg : Bool) : R2 := fun x y H Q => ∃ d ds, Dp K H x d ∧ (Dp K H y (.list ds) ∨ Dp K H y (.tuple ds)) ∧ d.plain = true ∧ PyData.plainAll ds = true ∧ d.depth ≤ 64 ∧ Q (.bl (if neg = true then !ds.any fun z => PyData.eqv z d else ds.any fun z => PyData.eqv z d)) H
theorem op_inP (hu : X.A.units + 65 < cLine) : OpR X (compareOp .In) (rInP X.K false) := by
  intro pins s σ H x y v u Q I rx ry h
  obtain ⟨d, ds, hd, he, p1, p2, dp, q⟩ := h
  obtain ⟨as, r1⟩ := Dp.reads I d x v hd rx
  rcases he with he | he
  · obtain ⟨bs, r2⟩ := Dp.reads I _ y u he ry
    exact in_list_data r2 r1 p2 p1 (by have := Nat.min_le_right (PyData.depthAll ds) d.depth; omega) ⟨.bl _, H, I, rfl, q⟩
  · obtain ⟨bs, r2⟩ := Dp.reads I _ y u he ry
    exact in_tuple_data r2 r1 p2 p1 (by have := Nat.min_le_right (PyData.depthAll ds) d.depth; omega) ⟨.bl _, H, I, rfl, q⟩
theorem op_notInP (hu : X.A.units + 65 < cLine) : OpR X (compareOp .NotIn) (rInP X.K true) := by
  intro pins s σ H x y v u Q I rx ry h
  obtain ⟨d, ds, hd, he, p1, p2, dp, q⟩ := h
  obtain ⟨as, r1⟩ := Dp.reads I d x v hd rx
  rcases he with he | he
  · obtain ⟨bs, r2⟩ := Dp.reads I _ y u he ry
    exact notIn_list_data r2 r1 p2 p1 (by have := Nat.min_le_right (PyData.depthAll ds) d.depth; omega) ⟨.bl _, H, I, rfl, q⟩
  · obtain ⟨bs, r2⟩ := Dp.reads I _ y u he ry
    exact notIn_tuple_data r2 r1 p2 p1 (by have := Nat.min_le_right (PyData.depthAll ds) d.depth; omega) ⟨.bl _, H, I, rfl, q⟩
end
def D.okP (x : D) : Bool := x.nd && decide (x.py.depth ≤ 64)
def eqP (x y : D) : Option D := if x.okP = true ∧ y.nd = true then some (.bl (x.eqv y)) else none
def neP (x y : D) : Option D := if x.okP = true ∧ y.nd = true then some (.bl (!x.eqv y)) else none
def inP (neg : Bool) (x y : D) : Option D := match y with
  | .lst _ xs => if x.okP = true ∧ nds xs = true then some (.bl (if neg = true then !xs.any fun z => z.eqv x else xs.any fun z => z.eqv x)) else none
  | .tup xs => if x.okP = true ∧ nds xs = true then some (.bl (if neg = true then !xs.any fun z => z.eqv x else xs.any fun z => z.eqv x)) else none
  | _ => none
section
variable {K : PySem.W.Frag}
theorem okP_of {x : D} (h : x.okP = true) : x.nd = true ∧ x.py.depth ≤ 64 := by
  unfold D.okP at h
  rw [Bool.and_eq_true, decide_eq_true_eq] at h
  exact h
theorem rel_eqA : OpRel K (rEqP K) eqP := .mk0 fun G H x y u v fx fy d S rx ry e Q q => by
  obtain ⟨⟨c1, c2⟩, rfl⟩ := ite_some e
  obtain ⟨h1, h2⟩ := okP_of c1
  exact ⟨x.py, y.py, rx.dp S x u fx h1, ry.dp S y v fy c2, nd_plain x h1, nd_plain y c2, h2, q _ ⟨rfl, rfl⟩⟩
theorem rel_neA : OpRel K (rNeP K) neP := .mk0 fun G H x y u v fx fy d S rx ry e Q q => by
  obtain ⟨⟨c1, c2⟩, rfl⟩ := ite_some e
  obtain ⟨h1, h2⟩ := okP_of c1
  exact ⟨x.py, y.py, rx.dp S x u fx h1, ry.dp S y v fy c2, nd_plain x h1, nd_plain y c2, h2, q _ ⟨rfl, rfl⟩⟩
theorem rel_inA {neg : Bool} : OpRel K (rInP K neg) (inP neg) := .mk0 fun G H x y u v fx fy d S rx ry e Q q => by
  cases y with
  | lst o xs =>
    obtain ⟨⟨c1, c2⟩, rfl⟩ := ite_some e
    obtain ⟨h1, h2⟩ := okP_of c1
    exact ⟨x.py, pys xs, rx.dp S x u fx h1, .inl (ry.dp S _ v fy (by rw [D.nd]; exact c2)), nd_plain x h1, nds_plain xs c2, h2, by rw [any_py]; exact q _ ⟨rfl, rfl⟩⟩
  | tup xs =>
    obtain ⟨⟨c1, c2⟩, rfl⟩ := ite_some e
    obtain ⟨h1, h2⟩ := okP_of c1
    exact ⟨x.py, pys xs, rx.dp S x u fx h1, .inr (ry.dp S _ v fy (by rw [D.nd]; exact c2)), nd_plain x h1, nds_plain xs c2, h2, by rw [any_py]; exact q _ ⟨rfl, rfl⟩⟩
  | _ => cases e
end
end Fw
end

section
set_option linter.all false
set_option maxRecDepth 100000
namespace Fw
namespace Z
open PySem L2

/-! ### what a function comes to, by what is asked behind it -/
def OkE (F : FE) (env : Env) (Q : D → Env → Prop) : Prop := (F env).wp (fun r => Q r.1 r.2) fun _ => False
def OkT (F : FT) (env : Env) (Q : Bool → Env → Prop) : Prop := (F env).wp (fun r => Q r.1 r.2) fun _ => False
def OkA (F : FA) (env : Env) (Q : List D → Env → Prop) : Prop := (F env).wp (fun r => Q r.1 r.2) fun _ => False
def OkI (F : FI) (env : Env) (Q : List D → Env → Prop) : Prop := (F env).wp (fun r => Q r.1 r.2) fun _ => False
def OkO (F : FO) (env : Env) (Q : Option Int → Env → Prop) : Prop := (F env).wp (fun r => Q r.1 r.2) fun _ => False
def OkF (f : Fn) (args : List D) (Q : D → List D → Prop) : Prop := (f args).wp (fun r => Q r.1 r.2) fun _ => False
def OkS (F : FS) (env : Env) (N : Env → Prop) (Rt : D → Env → Prop) (B C : Env → Prop) : Prop :=
  (F env).wp (fun c => match c with | .nx e => N e | .rt d e => Rt d e | .bk e => B e | .ct e => C e) fun _ => False

theorem wp_bindI {A B : Type} {x : R A} {f : A → R B} {P : B → Prop} {X : Exn → Prop} (h : x.wp (fun a => (f a).wp P X) X) : (x.bind f).wp P X := by
  cases x <;> exact h
theorem wp_ofI {A : Type} {o : Option A} {P : A → Prop} {X : Exn → Prop} (h : ∃ a, o = some a ∧ P a) : (R.of o).wp P X := by
  obtain ⟨a, rfl, h⟩ := h
  exact h
theorem ok_eq {A : Type} {x : R A} {a : A} (h : x.wp (fun r => r = a) fun _ => False) : x = .ok a := by
  cases x with
  | ok b => exact congrArg R.ok h
  | ex e => exact h.elim
  | no => exact h.elim
section
variable {env : Env} {Q : D → Env → Prop} {QT : Bool → Env → Prop} {QA : List D → Env → Prop} {QO : Option Int → Env → Prop} {N : Env → Prop} {Rt : D → Env → Prop} {B C : Env → Prop}
theorem OkF.mono {f : Fn} {args : List D} {Q Q' : D → List D → Prop} (h : OkF f args Q) (k : ∀ d ds, Q d ds → Q' d ds) : OkF f args Q' := R.wp_mono h (fun r q => k r.1 r.2 q) fun _ x => x
/-! expressions -/
theorem okE_c {d : D} (h : Q d env) : OkE (fC d) env Q := h
theorem okE_var {i : Nat} {d : D} (e : env[i]? = some (some d)) (h : Q d env) : OkE (fVar i) env Q := by
  unfold OkE fVar
  rw [e]
  exact h
theorem okE_frz {i : Nat} {d d' : D} (e : env[i]? = some (some d)) (e2 : d.fr = d') (h : Q d' (env.set i (some d'))) : OkE (fFrz i) env Q := by
  unfold OkE fFrz
  rw [e]
  subst e2
  exact h
theorem okE_mov {i : Nat} {d : D} (e : env[i]? = some (some d)) (h : Q d (env.set i none)) : OkE (fMov i) env Q := by
  unfold OkE fMov
  rw [e]
  exact h
theorem okE_chk {F : FE} (h : OkE F env fun d e => d.frz = true ∧ Q d e) : OkE (chk F) env Q := by
  refine wp_bindI (R.wp_mono h (fun r q => ?_) fun _ x => x)
  rw [if_pos q.1]
  exact q.2
theorem okE_give {F : FE} (h : OkE F env fun d e => ∃ d', d.fr = d' ∧ Q d' e) : OkE (fGive F) env Q := by
  refine wp_bindI (R.wp_mono h (fun r q => ?_) fun _ x => x)
  obtain ⟨d', e, q⟩ := q
  rw [e]
  exact q
theorem okE_bin {g : D → D → Option D} {Fa Fb : FE} (h : OkE Fa env fun a e => OkE Fb e fun b e2 => ∃ d, g a b = some d ∧ Q d e2) : OkE (fBin g Fa Fb) env Q :=
  wp_bindI (R.wp_mono h (fun r q => wp_bindI (R.wp_mono q (fun s q2 => by
    obtain ⟨d, e, q3⟩ := q2
    rw [e]
    exact q3) fun _ x => x)) fun _ x => x)
theorem okE_un {g : D → Option D} {Fa : FE} (h : OkE Fa env fun a e => ∃ d, g a = some d ∧ Q d e) : OkE (fUn g Fa) env Q :=
  wp_bindI (R.wp_mono h (fun r q => by
    obtain ⟨d, e, q3⟩ := q
    rw [e]
    exact q3) fun _ x => x)
theorem okE_tup {F : FA} (h : OkA F env fun ds e => ds.length ≤ big ∧ Q (.tup ds) e) : OkE (fTup F) env Q := by
  refine wp_bindI (R.wp_mono h (fun r q => ?_) fun _ x => x)
  rw [if_pos q.1]
  exact q.2
theorem okE_lst {F : FA} (h : OkA F env fun ds e => ds.length ≤ big ∧ Q (.lst true ds) e) : OkE (fLst F) env Q := by
  refine wp_bindI (R.wp_mono h (fun r q => ?_) fun _ x => x)
  rw [if_pos q.1]
  exact q.2
theorem okA_nil (h : QA [] env) : OkA fNil env QA := h
theorem okA_cons {Fa : FE} {Fr : FA} (h : OkE Fa env fun d e => OkA Fr e fun ds e2 => QA (d :: ds) e2) : OkA (fCons Fa Fr) env QA :=
  wp_bindI (R.wp_mono h (fun r q => wp_bindI (R.wp_mono q (fun s q2 => q2) fun _ x => x)) fun _ x => x)
theorem okE_if {Ct : FT} {Fa Fb : FE} (h : OkT Ct env fun b e => (b = true → OkE Fa e Q) ∧ (b = false → OkE Fb e Q)) : OkE (fIf Ct Fa Fb) env Q := by
  refine wp_bindI (R.wp_mono h (fun r q => ?_) fun _ x => x)
  cases c : r.1 with
  | true => rw [if_pos rfl]; exact q.1 c
  | false => rw [if_neg Bool.false_ne_true]; exact q.2 c
theorem okE_andV {Fa Fb : FE} (h : OkT (fTest Fa) env fun b e => (b = true → OkE Fb e Q) ∧ (b = false → Q (.bl false) e)) : OkE (fAndV Fa Fb) env Q := by
  refine wp_bindI (R.wp_mono h (fun r q => ?_) fun _ x => x)
  cases c : r.1 with
  | true => rw [if_pos rfl]; exact q.1 c
  | false => rw [if_neg Bool.false_ne_true]; exact q.2 c
theorem okE_orV {Fa Fb : FE} (h : OkT (fTest Fa) env fun b e => (b = true → Q (.bl true) e) ∧ (b = false → OkE Fb e Q)) : OkE (fOrV Fa Fb) env Q := by
  refine wp_bindI (R.wp_mono h (fun r q => ?_) fun _ x => x)
  cases c : r.1 with
  | true => rw [if_pos rfl]; exact q.1 c
  | false => rw [if_neg Bool.false_ne_true]; exact q.2 c
theorem okE_notV {Fa : FE} (h : OkT (fTest Fa) env fun b e => Q (.bl (!b)) e) : OkE (fNotV Fa) env Q := wp_bindI (R.wp_mono h (fun r q => q) fun _ x => x)
theorem okE_mt {T : String} {g : D → D → Option D} {Fo Fa : FE} (h : OkE Fo env fun a e => okT T a = true ∧ OkE Fa e fun b e2 => ∃ d, g a b = some d ∧ Q d e2) : OkE (fMt T g Fo Fa) env Q :=
  wp_bindI (R.wp_mono h (fun r q => by
    rw [if_pos q.1]
    exact wp_bindI (R.wp_mono q.2 (fun s q2 => by
      obtain ⟨d, e, q3⟩ := q2
      rw [e]
      exact q3) fun _ x => x)) fun _ x => x)
theorem okE_sl {F : FE} {Fl Fh : FO} (h : OkE F env fun a e => OkO Fl e fun l e1 => OkO Fh e1 fun u e2 => ∃ d, slD a l u = some d ∧ Q d e2) : OkE (fSl F Fl Fh) env Q :=
  wp_bindI (R.wp_mono h (fun r q => wp_bindI (R.wp_mono q (fun s q2 => wp_bindI (R.wp_mono q2 (fun t q3 => by
    obtain ⟨d, e, q4⟩ := q3
    rw [e]
    exact q4) fun _ x => x)) fun _ x => x)) fun _ x => x)
theorem okO_no (h : QO none env) : OkO fNoPart env QO := h
theorem okO_part {F : FE} (h : OkE F env fun d e => ∃ i, d = .int i ∧ QO (some i) e) : OkO (fPart F) env QO :=
  wp_bindI (R.wp_mono h (fun r q => by
    obtain ⟨i, e, q2⟩ := q
    rw [e]
    exact q2) fun _ x => x)
theorem okE_lstRg {F : FE} (h : OkE F env fun d e => ∃ n : Int, d = .int n ∧ (small62 n = true ∧ n.toNat ≤ big) ∧ Q (.lst true (rangeD 0 n.toNat)) e) : OkE (fLstRg F) env Q :=
  wp_bindI (R.wp_mono h (fun r q => by
    obtain ⟨n, e, c, q2⟩ := q
    rw [e]
    show (if _ then _ else _ : R _).wp _ _
    rw [if_pos c]
    exact q2) fun _ x => x)
/-! tests -/
theorem okT_test {F : FE} (h : OkE F env fun d e => ∃ b, d.isB = some b ∧ QT b e) : OkT (fTest F) env QT :=
  wp_bindI (R.wp_mono h (fun r q => by
    obtain ⟨b, e, q2⟩ := q
    rw [e]
    exact q2) fun _ x => x)
theorem okT_tru {F : FE} (h : OkE F env fun d e => ∃ b, d.tru = some b ∧ QT b e) : OkT (fTru F) env QT :=
  wp_bindI (R.wp_mono h (fun r q => by
    obtain ⟨b, e, q2⟩ := q
    rw [e]
    exact q2) fun _ x => x)
theorem okT_not {F : FT} (h : OkT F env fun b e => QT (!b) e) : OkT (fNot F) env QT := wp_bindI (R.wp_mono h (fun r q => q) fun _ x => x)
theorem okT_and {Fa Fb : FT} (h : OkT Fa env fun b e => (b = true → OkT Fb e QT) ∧ (b = false → QT false e)) : OkT (fAnd Fa Fb) env QT := by
  refine wp_bindI (R.wp_mono h (fun r q => ?_) fun _ x => x)
  cases c : r.1 with
  | true => rw [if_pos rfl]; exact q.1 c
  | false => rw [if_neg Bool.false_ne_true]; exact q.2 c
theorem okT_or {Fa Fb : FT} (h : OkT Fa env fun b e => (b = true → QT true e) ∧ (b = false → OkT Fb e QT)) : OkT (fOr Fa Fb) env QT := by
  refine wp_bindI (R.wp_mono h (fun r q => ?_) fun _ x => x)
  cases c : r.1 with
  | true => rw [if_pos rfl]; exact q.1 c
  | false => rw [if_neg Bool.false_ne_true]; exact q.2 c
theorem okT_yes (h : QT true env) : OkT fYes env QT := h
/-! statements -/
theorem okS_skip (h : N env) : OkS fSkip env N Rt B C := h
theorem okS_seq {F G : FS} (h : OkS F env (fun e => OkS G e N Rt B C) Rt B C) : OkS (fSeq F G) env N Rt B C := by
  refine wp_bindI (R.wp_mono h (fun c q => ?_) fun _ x => x)
  cases c <;> exact q
theorem okS_break (h : B env) : OkS fBreak env N Rt B C := h
theorem okS_cont (h : C env) : OkS fCont env N Rt B C := h
theorem okS_drop {F : FE} (h : OkE F env fun _ e => N e) : OkS (fDrop F) env N Rt B C := wp_bindI (R.wp_mono h (fun r q => q) fun _ x => x)
theorem okS_ret {F : FE} (h : OkE F env Rt) : OkS (fRet F) env N Rt B C := wp_bindI (R.wp_mono h (fun r q => q) fun _ x => x)
theorem okS_retN (h : Rt .non env) : OkS fRetN env N Rt B C := h
theorem okS_if {Ct : FT} {Fa Fb : FS} (h : OkT Ct env fun b e => (b = true → OkS Fa e N Rt B C) ∧ (b = false → OkS Fb e N Rt B C)) : OkS (fIfS Ct Fa Fb) env N Rt B C := by
  refine wp_bindI (R.wp_mono h (fun r q => ?_) fun _ x => x)
  cases c : r.1 with
  | true => rw [if_pos rfl]; exact q.1 c
  | false => rw [if_neg Bool.false_ne_true]; exact q.2 c
theorem okS_asg {F : FE} {Fg : FG} (h : OkE F env fun d e => ∃ e2, Fg d e = some e2 ∧ N e2) : OkS (fAsg F Fg) env N Rt B C :=
  wp_bindI (R.wp_mono h (fun r q => by
    obtain ⟨d, e, q3⟩ := q
    rw [e]
    exact q3) fun _ x => x)
theorem okS_setS {i : Nat} {F Fi : FE} (h : OkE F env fun d e => ∃ xs, ownLst e[i]? = some xs ∧ OkE Fi e fun k _ => ∃ n, k.isI = some n ∧ ∃ j, ixN xs.length n = some j ∧ N (e.set i (some (.lst true (xs.set j d))))) : OkS (fSetS i F Fi) env N Rt B C :=
  wp_bindI (R.wp_mono h (fun r q => by
    obtain ⟨xs, e, q⟩ := q
    rw [e]
    show ((Fi r.2).bind _).wp _ _
    exact wp_bindI (R.wp_mono q (fun s q => by
      obtain ⟨n, e2, j, e3, q⟩ := q
      rw [e2]
      show ((R.of (ixN xs.length n)).bind _).wp _ _
      rw [e3]
      exact q) fun _ x => x)) fun _ x => x)
theorem okE_mut {i : Nat} {g : List D → List D → Option (D × List D)} {Fa : FA} (c : isLst env[i]? = true) (h : OkA Fa env fun as e => ∃ xs, ownLst e[i]? = some xs ∧ ∃ q, g xs as = some q ∧ Q q.1 (e.set i (some (.lst true q.2)))) : OkE (fMut i g Fa) env Q := by
  unfold OkE fMut
  rw [if_pos c]
  exact wp_bindI (R.wp_mono h (fun r q => by
    obtain ⟨xs, e, q2, e2, q⟩ := q
    rw [e]
    show ((R.of (g xs r.1)).bind _).wp _ _
    rw [e2]
    exact q) fun _ x => x)
/-! calls -/
theorem okA_arg {Fa : FE} {Fr : FA} (h : OkE Fa env fun d e => ∃ d', d.fr = d' ∧ d'.frz = true ∧ OkA Fr e fun ds e2 => QA (d' :: ds) e2) : OkA (fArg Fa Fr) env QA := by
  refine wp_bindI (wp_bindI (R.wp_mono h (fun r q => ?_) fun _ x => x))
  obtain ⟨d', rfl, z, q⟩ := q
  show (if r.1.fr.frz = true then (Fr r.2).bind (fun s => R.ok (r.1.fr :: s.1, s.2)) else R.no).wp (fun r => QA r.1 r.2) _
  rw [if_pos z]
  exact wp_bindI (R.wp_mono q (fun s q2 => q2) fun _ x => x)
theorem okA_io {i : Nat} {d : D} {Fr : FA} (e : env[i]? = some (some d)) (h : OkA Fr env fun ds e2 => QA (.non :: ds) e2) : OkA (fIo i Fr) env QA := by
  unfold OkA fIo
  rw [e]
  exact wp_bindI (R.wp_mono h (fun s q2 => q2) fun _ x => x)
theorem okE_call {ks : List (Option Nat)} {dd : List D} {F : Fn} {Fa : FA} (h : OkA Fa env fun ds e => ∃ t, takeS (isOf ks) e = some t ∧ ∃ as, mixA ks ds t.1 = some as ∧ OkF F (as ++ dd) fun d os => ∃ e2, putS (isOf ks) os t.2 = some e2 ∧ Q d e2) : OkE (fCall ks dd F Fa) env Q :=
  wp_bindI (R.wp_mono h (fun r q => by
    obtain ⟨t, e, as, e2, q⟩ := q
    rw [e]
    show ((R.of (mixA ks r.1 t.1)).bind _).wp _ _
    rw [e2]
    show ((F (as ++ dd)).bind _).wp _ _
    exact wp_bindI (R.wp_mono q (fun s q => by
      obtain ⟨e3, e4, q⟩ := q
      rw [e4]
      exact q) fun _ x => x)) fun _ x => x)
/-- a def's function: its body at the arguments -/
def Out (ps : List Nat) (e : Env) (P : List D → Prop) : Prop := ∃ r, takeS ps e = some r ∧ P r.1
theorem okF_fn {ps : List Nat} {n : Nat} {F : FS} {args : List D} {Q : D → List D → Prop} (h : OkS F (args.map some ++ List.replicate (n - args.length) none) (fun e => Out ps e (Q .non)) (fun d e => Out ps e (Q d)) (fun _ => False) fun _ => False) : OkF (fnF ps n F) args Q :=
  wp_bindI (R.wp_mono h (fun c q => by
    cases c with
    | nx e => obtain ⟨r, e1, q⟩ := q; show (outF ps .non e).wp _ _; unfold outF; rw [e1]; exact q
    | rt d e => obtain ⟨r, e1, q⟩ := q; show (outF ps d e).wp _ _; unfold outF; rw [e1]; exact q
    | bk e => exact q.elim
    | ct e => exact q.elim) fun _ x => x)
/-! walks -/
theorem okI_seq {F : FE} {QI : List D → Env → Prop} (h : OkE F env fun d e => ∃ d', d.fr = d' ∧ ∃ ds, d'.items = some ds ∧ QI ds e) : OkI (fSeqI F) env QI :=
  wp_bindI (wp_bindI (R.wp_mono h (fun r q => by
    obtain ⟨d', rfl, ds, e2, q⟩ := q
    show ((R.of r.1.fr.items).bind _).wp _ _
    rw [e2]
    exact q) fun _ x => x))
theorem okI_enum {F : FE} {QI : List D → Env → Prop} (h : OkE F env fun d e => ∃ d', d.fr = d' ∧ ∃ ds, d'.seqs = some ds ∧ QI (enumD ds) e) : OkI (fEnum F) env QI :=
  wp_bindI (wp_bindI (R.wp_mono h (fun r q => by
    obtain ⟨d', rfl, ds, e2, q⟩ := q
    show ((R.of r.1.fr.seqs).bind _).wp _ _
    rw [e2]
    exact q) fun _ x => x))
theorem okI_rng1 {F : FE} {QI : List D → Env → Prop} (h : OkE F env fun d e => ∃ n : Int, d = .int n ∧ small62 n = true ∧ QI (rangeD 0 n.toNat) e) : OkI (fRng1 F) env QI :=
  wp_bindI (R.wp_mono h (fun r q => by
    obtain ⟨n, e, c, q⟩ := q
    rw [e]
    show (if _ then _ else _ : R _).wp _ _
    rw [if_pos c]
    exact q) fun _ x => x)
theorem okI_rng2 {Fa Fb : FE} {QI : List D → Env → Prop} (h : OkE Fa env fun d e => OkE Fb e fun d2 e2 => ∃ i j : Int, d = .int i ∧ d2 = .int j ∧ (small62 i = true ∧ small62 j = true) ∧ QI (rangeD i (j - i).toNat) e2) : OkI (fRng2 Fa Fb) env QI :=
  wp_bindI (R.wp_mono h (fun r q => by
    cases hr : r.1.isI with
    | none =>
      refine absurd ?_ (fun z : False => z)
      have : (Fb r.2).wp (fun s => ∃ i j : Int, r.1 = .int i ∧ s.1 = .int j ∧ (small62 i = true ∧ small62 j = true) ∧ QI (rangeD i (j - i).toNat) s.2) (fun _ => False) := q
      cases e : Fb r.2 with
      | ok s =>
        rw [e] at this
        obtain ⟨i, j, z, _⟩ := this
        rw [z] at hr
        cases hr
      | ex s => rw [e] at this; exact this
      | no => rw [e] at this; exact this
    | some i =>
      have e1 : r.1 = .int i := by
        cases h : r.1 <;> rw [h] at hr <;> first | (cases hr; rfl) | cases hr
      show ((Fb r.2).bind _).wp _ _
      exact wp_bindI (R.wp_mono q (fun s q => by
        obtain ⟨i', j, z1, z2, c, q⟩ := q
        rw [e1] at z1
        cases z1
        rw [z2]
        show (if _ then _ else _ : R _).wp _ _
        rw [if_pos c]
        exact q) fun _ x => x)) fun _ x => x)
/-- a for loop: I what holds ahead of a turn, of the items left -/
theorem okS_for {Fi : FI} {Fg : FG} {Fb : FS} (h : OkI Fi env fun ds e => ∃ I : List D → Env → Prop, I ds e ∧ (∀ d rest e, I (d :: rest) e → ∃ e2, Fg d e = some e2 ∧ OkS Fb e2 (I rest) Rt N (I rest)) ∧ ∀ e, I [] e → N e) : OkS (fFor Fi Fg Fb) env N Rt B C := by
  refine wp_bindI (R.wp_mono h (fun r q => ?_) fun _ x => x)
  obtain ⟨I, h0, h1, h2⟩ := q
  have go : ∀ (ds : List D) (e : Env), I ds e → OkS (forL Fg Fb ds) e N Rt B C := by
    intro ds
    induction ds with
    | nil => intro e he; exact h2 e he
    | cons d rest ih =>
      intro e he
      obtain ⟨e2, g, b⟩ := h1 d rest e he
      show ((R.of (Fg d e)).bind _ : R Ctl).wp _ _
      rw [g]
      show ((Fb e2).bind _).wp _ _
      refine wp_bindI (R.wp_mono b (fun c q => ?_) fun _ x => x)
      cases c with
      | nx e => exact ih e q
      | rt d e => exact q
      | bk e => exact q
      | ct e => exact ih e q
  exact go r.1 r.2 h0
/-- a list comprehension: I what holds ahead of a turn, of the items left, what is made, the names -/
theorem okE_lc {p : Bool} {vs : List Nat} {Fi : FI} {Fg : FG} {Ft : FT} {Fe : FE} (h : OkI Fi env fun ds e => ∃ I : List D → List D → Env → Prop, I ds [] (wipeE e vs) ∧
    (∀ d rest acc e, I (d :: rest) acc e → ∃ e2, Fg d e = some e2 ∧ OkT Ft e2 fun b e3 => (b = true → OkE Fe e3 fun x e4 => acc.length < big ∧ I rest (acc ++ [x]) (wipeE e4 vs)) ∧ (b = false → I rest acc (wipeE e3 vs))) ∧
    ∀ acc e2, I [] acc e2 → Q (.lst true acc) (if p = true then env else e2)) : OkE (fLc p vs Fi Fg Ft Fe) env Q := by
  refine wp_bindI (R.wp_mono h (fun r q => ?_) fun _ x => x)
  obtain ⟨I, h0, h1, h2⟩ := q
  have go : ∀ (ds acc : List D) (e : Env), I ds acc e → (lcL Fg Ft Fe vs ds acc e).wp (fun s => Q (.lst true s.1) (if p = true then env else s.2)) fun _ => False := by
    intro ds
    induction ds with
    | nil => intro acc e he; exact h2 acc e he
    | cons d rest ih =>
      intro acc e he
      obtain ⟨e2, g, b⟩ := h1 d rest acc e he
      show ((R.of (Fg d e)).bind _).wp _ _
      rw [g]
      show ((Ft e2).bind _).wp _ _
      refine wp_bindI (R.wp_mono b (fun t q => ?_) fun _ x => x)
      cases c : t.1 with
      | true =>
        rw [if_pos rfl]
        refine wp_bindI (R.wp_mono (q.1 c) (fun x q2 => ?_) fun _ x => x)
        rw [if_pos q2.1]
        exact ih _ _ q2.2
      | false =>
        rw [if_neg Bool.false_ne_true]
        exact ih _ _ (q.2 c)
  exact wp_bindI (go r.1 [] _ h0)
end
end Z
end Fw

namespace Fw
open PySem L2
structure OkE (F : FE) (env : Env) (Q : D → Env → Prop) : Prop where
  w : Z.OkE F env Q
structure OkT (F : FT) (env : Env) (Q : Bool → Env → Prop) : Prop where
  w : Z.OkT F env Q
structure OkA (F : FA) (env : Env) (Q : List D → Env → Prop) : Prop where
  w : Z.OkA F env Q
structure OkI (F : FI) (env : Env) (Q : List D → Env → Prop) : Prop where
  w : Z.OkI F env Q
structure OkO (F : FO) (env : Env) (Q : Option Int → Env → Prop) : Prop where
  w : Z.OkO F env Q
structure OkF (f : Fn) (args : List D) (Q : D → List D → Prop) : Prop where
  w : Z.OkF f args Q
structure OkS (F : FS) (env : Env) (N : Env → Prop) (Rt : D → Env → Prop) (B C : Env → Prop) : Prop where
  w : Z.OkS F env N Rt B C
theorem eqE : @OkE = @Z.OkE := by funext F env Q; exact propext ⟨fun h => h.w, fun h => ⟨h⟩⟩
theorem eqT : @OkT = @Z.OkT := by funext F env Q; exact propext ⟨fun h => h.w, fun h => ⟨h⟩⟩
theorem eqA : @OkA = @Z.OkA := by funext F env Q; exact propext ⟨fun h => h.w, fun h => ⟨h⟩⟩
theorem eqI : @OkI = @Z.OkI := by funext F env Q; exact propext ⟨fun h => h.w, fun h => ⟨h⟩⟩
theorem eqO : @OkO = @Z.OkO := by funext F env Q; exact propext ⟨fun h => h.w, fun h => ⟨h⟩⟩
theorem eqF : @OkF = @Z.OkF := by funext F env Q; exact propext ⟨fun h => h.w, fun h => ⟨h⟩⟩
theorem eqS : @OkS = @Z.OkS := by funext F env N Rt B C; exact propext ⟨fun h => h.w, fun h => ⟨h⟩⟩
theorem ok_eq {A : Type} {x : R A} {a : A} (h : x.wp (fun r => r = a) fun _ => False) : x = .ok a := Z.ok_eq h
abbrev Out := @Z.Out
section
variable {env : Env} {Q : D → Env → Prop} {QT : Bool → Env → Prop} {QA : List D → Env → Prop} {QO : Option Int → Env → Prop} {N : Env → Prop} {Rt : D → Env → Prop} {B C : Env → Prop}
theorem OkF.mono {f : Fn} {args : List D} {Q Q' : D → List D → Prop} (h : OkF f args Q) (k : ∀ d ds, Q d ds → Q' d ds) : OkF f args Q' := by
  simp only [eqE, eqT, eqA, eqI, eqO, eqF, eqS] at *
  exact Z.OkF.mono h k
theorem okE_c {d : D} (h : Q d env) : OkE (fC d) env Q := by
  simp only [eqE, eqT, eqA, eqI, eqO, eqF, eqS] at *
  exact Z.okE_c h
theorem okE_var {i : Nat} {d : D} (e : env[i]? = some (some d)) (h : Q d env) : OkE (fVar i) env Q := by
  simp only [eqE, eqT, eqA, eqI, eqO, eqF, eqS] at *
  exact Z.okE_var e h
theorem okE_frz {i : Nat} {d d' : D} (e : env[i]? = some (some d)) (e2 : d.fr = d') (h : Q d' (env.set i (some d'))) : OkE (fFrz i) env Q := by
  simp only [eqE, eqT, eqA, eqI, eqO, eqF, eqS] at *
  exact Z.okE_frz e e2 h
theorem okE_mov {i : Nat} {d : D} (e : env[i]? = some (some d)) (h : Q d (env.set i none)) : OkE (fMov i) env Q := by
  simp only [eqE, eqT, eqA, eqI, eqO, eqF, eqS] at *
  exact Z.okE_mov e h
theorem okE_chk {F : FE} (h : OkE F env fun d e => d.frz = true ∧ Q d e) : OkE (chk F) env Q := by
  simp only [eqE, eqT, eqA, eqI, eqO, eqF, eqS] at *
  exact Z.okE_chk h
theorem okE_give {F : FE} (h : OkE F env fun d e => ∃ d', d.fr = d' ∧ Q d' e) : OkE (fGive F) env Q := by
  simp only [eqE, eqT, eqA, eqI, eqO, eqF, eqS] at *
  exact Z.okE_give h
theorem okE_bin {g : D → D → Option D} {Fa Fb : FE} (h : OkE Fa env fun a e => OkE Fb e fun b e2 => ∃ d, g a b = some d ∧ Q d e2) : OkE (fBin g Fa Fb) env Q := by
  simp only [eqE, eqT, eqA, eqI, eqO, eqF, eqS] at *
  exact Z.okE_bin h
theorem okE_un {g : D → Option D} {Fa : FE} (h : OkE Fa env fun a e => ∃ d, g a = some d ∧ Q d e) : OkE (fUn g Fa) env Q := by
  simp only [eqE, eqT, eqA, eqI, eqO, eqF, eqS] at *
  exact Z.okE_un h
theorem okE_tup {F : FA} (h : OkA F env fun ds e => ds.length ≤ big ∧ Q (.tup ds) e) : OkE (fTup F) env Q := by
  simp only [eqE, eqT, eqA, eqI, eqO, eqF, eqS] at *
  exact Z.okE_tup h
theorem okE_lst {F : FA} (h : OkA F env fun ds e => ds.length ≤ big ∧ Q (.lst true ds) e) : OkE (fLst F) env Q := by
  simp only [eqE, eqT, eqA, eqI, eqO, eqF, eqS] at *
  exact Z.okE_lst h
theorem okA_nil (h : QA [] env) : OkA fNil env QA := by
  simp only [eqE, eqT, eqA, eqI, eqO, eqF, eqS] at *
  exact Z.okA_nil h
theorem okA_cons {Fa : FE} {Fr : FA} (h : OkE Fa env fun d e => OkA Fr e fun ds e2 => QA (d :: ds) e2) : OkA (fCons Fa Fr) env QA := by
  simp only [eqE, eqT, eqA, eqI, eqO, eqF, eqS] at *
  exact Z.okA_cons h
theorem okE_if {Ct : FT} {Fa Fb : FE} (h : OkT Ct env fun b e => (b = true → OkE Fa e Q) ∧ (b = false → OkE Fb e Q)) : OkE (fIf Ct Fa Fb) env Q := by
  simp only [eqE, eqT, eqA, eqI, eqO, eqF, eqS] at *
  exact Z.okE_if h
theorem okE_andV {Fa Fb : FE} (h : OkT (fTest Fa) env fun b e => (b = true → OkE Fb e Q) ∧ (b = false → Q (.bl false) e)) : OkE (fAndV Fa Fb) env Q := by
  simp only [eqE, eqT, eqA, eqI, eqO, eqF, eqS] at *
  exact Z.okE_andV h
theorem okE_orV {Fa Fb : FE} (h : OkT (fTest Fa) env fun b e => (b = true → Q (.bl true) e) ∧ (b = false → OkE Fb e Q)) : OkE (fOrV Fa Fb) env Q := by
  simp only [eqE, eqT, eqA, eqI, eqO, eqF, eqS] at *
  exact Z.okE_orV h
theorem okE_notV {Fa : FE} (h : OkT (fTest Fa) env fun b e => Q (.bl (!b)) e) : OkE (fNotV Fa) env Q := by
  simp only [eqE, eqT, eqA, eqI, eqO, eqF, eqS] at *
  exact Z.okE_notV h
theorem okE_mt {T : String} {g : D → D → Option D} {Fo Fa : FE} (h : OkE Fo env fun a e => okT T a = true ∧ OkE Fa e fun b e2 => ∃ d, g a b = some d ∧ Q d e2) : OkE (fMt T g Fo Fa) env Q := by
  simp only [eqE, eqT, eqA, eqI, eqO, eqF, eqS] at *
  exact Z.okE_mt h
theorem okE_sl {F : FE} {Fl Fh : FO} (h : OkE F env fun a e => OkO Fl e fun l e1 => OkO Fh e1 fun u e2 => ∃ d, slD a l u = some d ∧ Q d e2) : OkE (fSl F Fl Fh) env Q := by
  simp only [eqE, eqT, eqA, eqI, eqO, eqF, eqS] at *
  exact Z.okE_sl h
theorem okO_no (h : QO none env) : OkO fNoPart env QO := by
  simp only [eqE, eqT, eqA, eqI, eqO, eqF, eqS] at *
  exact Z.okO_no h
theorem okO_part {F : FE} (h : OkE F env fun d e => ∃ i, d = .int i ∧ QO (some i) e) : OkO (fPart F) env QO := by
  simp only [eqE, eqT, eqA, eqI, eqO, eqF, eqS] at *
  exact Z.okO_part h
theorem okE_lstRg {F : FE} (h : OkE F env fun d e => ∃ n : Int, d = .int n ∧ (small62 n = true ∧ n.toNat ≤ big) ∧ Q (.lst true (rangeD 0 n.toNat)) e) : OkE (fLstRg F) env Q := by
  simp only [eqE, eqT, eqA, eqI, eqO, eqF, eqS] at *
  exact Z.okE_lstRg h
theorem okT_test {F : FE} (h : OkE F env fun d e => ∃ b, d.isB = some b ∧ QT b e) : OkT (fTest F) env QT := by
  simp only [eqE, eqT, eqA, eqI, eqO, eqF, eqS] at *
  exact Z.okT_test h
theorem okT_tru {F : FE} (h : OkE F env fun d e => ∃ b, d.tru = some b ∧ QT b e) : OkT (fTru F) env QT := by
  simp only [eqE, eqT, eqA, eqI, eqO, eqF, eqS] at *
  exact Z.okT_tru h
theorem okT_not {F : FT} (h : OkT F env fun b e => QT (!b) e) : OkT (fNot F) env QT := by
  simp only [eqE, eqT, eqA, eqI, eqO, eqF, eqS] at *
  exact Z.okT_not h
theorem okT_and {Fa Fb : FT} (h : OkT Fa env fun b e => (b = true → OkT Fb e QT) ∧ (b = false → QT false e)) : OkT (fAnd Fa Fb) env QT := by
  simp only [eqE, eqT, eqA, eqI, eqO, eqF, eqS] at *
  exact Z.okT_and h
theorem okT_or {Fa Fb : FT} (h : OkT Fa env fun b e => (b = true → QT true e) ∧ (b = false → OkT Fb e QT)) : OkT (fOr Fa Fb) env QT := by
  simp only [eqE, eqT, eqA, eqI, eqO, eqF, eqS] at *
  exact Z.okT_or h
theorem okT_yes (h : QT true env) : OkT fYes env QT := by
  simp only [eqE, eqT, eqA, eqI, eqO, eqF, eqS] at *
  exact Z.okT_yes h
theorem okS_skip (h : N env) : OkS fSkip env N Rt B C := by
  simp only [eqE, eqT, eqA, eqI, eqO, eqF, eqS] at *
  exact Z.okS_skip h
theorem okS_seq {F G : FS} (h : OkS F env (fun e => OkS G e N Rt B C) Rt B C) : OkS (fSeq F G) env N Rt B C := by
  simp only [eqE, eqT, eqA, eqI, eqO, eqF, eqS] at *
  exact Z.okS_seq h
theorem okS_break (h : B env) : OkS fBreak env N Rt B C := by
  simp only [eqE, eqT, eqA, eqI, eqO, eqF, eqS] at *
  exact Z.okS_break h
theorem okS_cont (h : C env) : OkS fCont env N Rt B C := by
  simp only [eqE, eqT, eqA, eqI, eqO, eqF, eqS] at *
  exact Z.okS_cont h
theorem okS_drop {F : FE} (h : OkE F env fun _ e => N e) : OkS (fDrop F) env N Rt B C := by
  simp only [eqE, eqT, eqA, eqI, eqO, eqF, eqS] at *
  exact Z.okS_drop h
theorem okS_ret {F : FE} (h : OkE F env Rt) : OkS (fRet F) env N Rt B C := by
  simp only [eqE, eqT, eqA, eqI, eqO, eqF, eqS] at *
  exact Z.okS_ret h
theorem okS_retN (h : Rt .non env) : OkS fRetN env N Rt B C := by
  simp only [eqE, eqT, eqA, eqI, eqO, eqF, eqS] at *
  exact Z.okS_retN h
theorem okS_if {Ct : FT} {Fa Fb : FS} (h : OkT Ct env fun b e => (b = true → OkS Fa e N Rt B C) ∧ (b = false → OkS Fb e N Rt B C)) : OkS (fIfS Ct Fa Fb) env N Rt B C := by
  simp only [eqE, eqT, eqA, eqI, eqO, eqF, eqS] at *
  exact Z.okS_if h
theorem okS_asg {F : FE} {Fg : FG} (h : OkE F env fun d e => ∃ e2, Fg d e = some e2 ∧ N e2) : OkS (fAsg F Fg) env N Rt B C := by
  simp only [eqE, eqT, eqA, eqI, eqO, eqF, eqS] at *
  exact Z.okS_asg h
theorem okS_setS {i : Nat} {F Fi : FE} (h : OkE F env fun d e => ∃ xs, ownLst e[i]? = some xs ∧ OkE Fi e fun k _ => ∃ n, k.isI = some n ∧ ∃ j, ixN xs.length n = some j ∧ N (e.set i (some (.lst true (xs.set j d))))) : OkS (fSetS i F Fi) env N Rt B C := by
  simp only [eqE, eqT, eqA, eqI, eqO, eqF, eqS] at *
  exact Z.okS_setS h
theorem okE_mut {i : Nat} {g : List D → List D → Option (D × List D)} {Fa : FA} (c : isLst env[i]? = true) (h : OkA Fa env fun as e => ∃ xs, ownLst e[i]? = some xs ∧ ∃ q, g xs as = some q ∧ Q q.1 (e.set i (some (.lst true q.2)))) : OkE (fMut i g Fa) env Q := by
  simp only [eqE, eqT, eqA, eqI, eqO, eqF, eqS] at *
  exact Z.okE_mut c h
theorem okA_arg {Fa : FE} {Fr : FA} (h : OkE Fa env fun d e => ∃ d', d.fr = d' ∧ d'.frz = true ∧ OkA Fr e fun ds e2 => QA (d' :: ds) e2) : OkA (fArg Fa Fr) env QA := by
  simp only [eqE, eqT, eqA, eqI, eqO, eqF, eqS] at *
  exact Z.okA_arg h
theorem okA_io {i : Nat} {d : D} {Fr : FA} (e : env[i]? = some (some d)) (h : OkA Fr env fun ds e2 => QA (.non :: ds) e2) : OkA (fIo i Fr) env QA := by
  simp only [eqE, eqT, eqA, eqI, eqO, eqF, eqS] at *
  exact Z.okA_io e h
theorem okE_call {ks : List (Option Nat)} {dd : List D} {F : Fn} {Fa : FA} (h : OkA Fa env fun ds e => ∃ t, takeS (isOf ks) e = some t ∧ ∃ as, mixA ks ds t.1 = some as ∧ OkF F (as ++ dd) fun d os => ∃ e2, putS (isOf ks) os t.2 = some e2 ∧ Q d e2) : OkE (fCall ks dd F Fa) env Q := by
  simp only [eqE, eqT, eqA, eqI, eqO, eqF, eqS] at *
  exact Z.okE_call h
theorem okF_fn {ps : List Nat} {n : Nat} {F : FS} {args : List D} {Q : D → List D → Prop} (h : OkS F (args.map some ++ List.replicate (n - args.length) none) (fun e => Out ps e (Q .non)) (fun d e => Out ps e (Q d)) (fun _ => False) fun _ => False) : OkF (fnF ps n F) args Q := by
  simp only [eqE, eqT, eqA, eqI, eqO, eqF, eqS] at *
  exact Z.okF_fn h
theorem okI_seq {F : FE} {QI : List D → Env → Prop} (h : OkE F env fun d e => ∃ d', d.fr = d' ∧ ∃ ds, d'.items = some ds ∧ QI ds e) : OkI (fSeqI F) env QI := by
  simp only [eqE, eqT, eqA, eqI, eqO, eqF, eqS] at *
  exact Z.okI_seq h
theorem okI_enum {F : FE} {QI : List D → Env → Prop} (h : OkE F env fun d e => ∃ d', d.fr = d' ∧ ∃ ds, d'.seqs = some ds ∧ QI (enumD ds) e) : OkI (fEnum F) env QI := by
  simp only [eqE, eqT, eqA, eqI, eqO, eqF, eqS] at *
  exact Z.okI_enum h
theorem okI_rng1 {F : FE} {QI : List D → Env → Prop} (h : OkE F env fun d e => ∃ n : Int, d = .int n ∧ small62 n = true ∧ QI (rangeD 0 n.toNat) e) : OkI (fRng1 F) env QI := by
  simp only [eqE, eqT, eqA, eqI, eqO, eqF, eqS] at *
  exact Z.okI_rng1 h
theorem okI_rng2 {Fa Fb : FE} {QI : List D → Env → Prop} (h : OkE Fa env fun d e => OkE Fb e fun d2 e2 => ∃ i j : Int, d = .int i ∧ d2 = .int j ∧ (small62 i = true ∧ small62 j = true) ∧ QI (rangeD i (j - i).toNat) e2) : OkI (fRng2 Fa Fb) env QI := by
  simp only [eqE, eqT, eqA, eqI, eqO, eqF, eqS] at *
  exact Z.okI_rng2 h
theorem okS_for {Fi : FI} {Fg : FG} {Fb : FS} (h : OkI Fi env fun ds e => ∃ I : List D → Env → Prop, I ds e ∧ (∀ d rest e, I (d :: rest) e → ∃ e2, Fg d e = some e2 ∧ OkS Fb e2 (I rest) Rt N (I rest)) ∧ ∀ e, I [] e → N e) : OkS (fFor Fi Fg Fb) env N Rt B C := by
  simp only [eqE, eqT, eqA, eqI, eqO, eqF, eqS] at *
  exact Z.okS_for h
theorem okE_lc {p : Bool} {vs : List Nat} {Fi : FI} {Fg : FG} {Ft : FT} {Fe : FE} (h : OkI Fi env fun ds e => ∃ I : List D → List D → Env → Prop, I ds [] (wipeE e vs) ∧
    (∀ d rest acc e, I (d :: rest) acc e → ∃ e2, Fg d e = some e2 ∧ OkT Ft e2 fun b e3 => (b = true → OkE Fe e3 fun x e4 => acc.length < big ∧ I rest (acc ++ [x]) (wipeE e4 vs)) ∧ (b = false → I rest acc (wipeE e3 vs))) ∧
    ∀ acc e2, I [] acc e2 → Q (.lst true acc) (if p = true then env else e2)) : OkE (fLc p vs Fi Fg Ft Fe) env Q := by
  simp only [eqE, eqT, eqA, eqI, eqO, eqF, eqS] at *
  exact Z.okE_lc h
end
end Fw
end

section
set_option linter.all false
set_option maxRecDepth 100000
namespace Fw
open PySem L2
mutual
theorem frz_fr : ∀ (d : D), d.frz = true → d.fr = d
  | .non, _ => rfl
  | .bl _, _ => rfl
  | .int _, _ => rfl
  | .str _, _ => rfl
  | .tup xs, h => by rw [D.frz] at h; rw [D.fr, frzs_frs xs h]
  | .lst o xs, h => by
    rw [D.frz, Bool.and_eq_true] at h
    cases o with
    | true => cases h.1
    | false => rw [D.fr, frzs_frs xs h.2]
  | .dic o ks xs, h => by
    rw [D.frz, Bool.and_eq_true] at h
    cases o with
    | true => cases h.1
    | false => rw [D.fr, frzs_frs xs h.2]
theorem frzs_frs : ∀ (ds : List D), frzs ds = true → frs ds = ds
  | [], _ => rfl
  | x :: xs, h => by
    rw [frzs, Bool.and_eq_true] at h
    rw [frs, frz_fr x h.1, frzs_frs xs h.2]
end
mutual
theorem fr_frz : ∀ (d : D), d.fr.frz = true
  | .non => rfl
  | .bl _ => rfl
  | .int _ => rfl
  | .str _ => rfl
  | .tup xs => by rw [D.fr, D.frz]; exact frs_frzs xs
  | .lst o xs => by rw [D.fr, D.frz]; exact frs_frzs xs
  | .dic o ks xs => by rw [D.fr, D.frz]; exact frs_frzs xs
theorem frs_frzs : ∀ (ds : List D), frzs (frs ds) = true
  | [] => rfl
  | x :: xs => by rw [frs, frzs, fr_frz x, frs_frzs xs]; rfl
end
inductive EnvIs : List D → Nat → Env → Prop
  | cons {a : D} {as : List D} {n : Nat} {e : Env} : EnvIs as n e → EnvIs (a :: as) (n + 1) (some a :: e)
  | non {n : Nat} {e : Env} : EnvIs [] n e → EnvIs [] (n + 1) (none :: e)
  | nil : EnvIs [] 0 []
theorem EnvIs.eq {as : List D} {n : Nat} {e : Env} (h : EnvIs as n e) : as.map some ++ List.replicate (n - as.length) none = e := by
  induction h with
  | cons h ih =>
    rw [List.map_cons, List.cons_append, List.length_cons, Nat.add_sub_add_right, ih]
  | @non n e h ih =>
    rw [← ih]
    show List.replicate (n + 1 - 0) none = none :: (List.replicate (n - 0) none)
    rw [Nat.sub_zero, Nat.sub_zero, List.replicate_succ]
  | nil => rfl
theorem okF_env {ps : List Nat} {n : Nat} {F : FS} {args : List D} {env : Env} {Q : D → List D → Prop} (he : EnvIs args n env) (h : OkS F env (fun e => Out ps e (Q .non)) (fun d e => Out ps e (Q d)) (fun _ => False) fun _ => False) : OkF (fnF ps n F) args Q := by
  refine okF_fn ?_
  rw [he.eq]
  exact h
theorem out_0 {e : Env} {P : List D → Prop} (h : P []) : Out [] e P := ⟨([], e), rfl, h⟩
theorem out_1 {d : D} {e : Env} {P : List D → Prop} (h : P [d]) : Out [0] (some d :: e) P := ⟨([d], none :: e), rfl, h⟩
theorem fr_int {a : Int} : (D.int a).fr = .int a := rfl
theorem fr_str {a : Str} : (D.str a).fr = .str a := rfl
theorem fr_bl {a : Bool} : (D.bl a).fr = .bl a := rfl
theorem fr_non : D.non.fr = .non := rfl
theorem gtup_o {n : Nat} {Fg : FGs} {xs : List D} {env e2 : Env} (h : xs.length = n) (hf : frzs xs = true) (e : Fg xs env = some e2) : gTupD n Fg (.tup xs) env = some e2 := by
  show (if xs.length = n ∧ frzs xs = true then Fg xs env else none) = _
  rw [if_pos ⟨h, hf⟩, e]
theorem eqv_bl {a b : Bool} : (D.bl a).eqv (D.bl b) = (a == b) := by cases a <;> cases b <;> rfl
theorem ty_tuple_non  : isTy .tuple .non = false := rfl
theorem ty_tuple_bl {b : Bool} : isTy .tuple (.bl b) = false := rfl
theorem ty_tuple_int {i : Int} : isTy .tuple (.int i) = false := rfl
theorem ty_tuple_str {s : Str} : isTy .tuple (.str s) = false := rfl
theorem ty_tuple_tup {xs : List D} : isTy .tuple (.tup xs) = true := rfl
theorem ty_tuple_lst {o : Bool} {xs : List D} : isTy .tuple (.lst o xs) = false := rfl
theorem ty_list_non  : isTy .list .non = false := rfl
theorem ty_list_bl {b : Bool} : isTy .list (.bl b) = false := rfl
theorem ty_list_int {i : Int} : isTy .list (.int i) = false := rfl
theorem ty_list_str {s : Str} : isTy .list (.str s) = false := rfl
theorem ty_list_tup {xs : List D} : isTy .list (.tup xs) = false := rfl
theorem ty_list_lst {o : Bool} {xs : List D} : isTy .list (.lst o xs) = true := rfl
theorem ty_str_non  : isTy .str .non = false := rfl
theorem ty_str_bl {b : Bool} : isTy .str (.bl b) = false := rfl
theorem ty_str_int {i : Int} : isTy .str (.int i) = false := rfl
theorem ty_str_str {s : Str} : isTy .str (.str s) = true := rfl
theorem ty_str_tup {xs : List D} : isTy .str (.tup xs) = false := rfl
theorem ty_str_lst {o : Bool} {xs : List D} : isTy .str (.lst o xs) = false := rfl
theorem ty_int_non  : isTy .int .non = false := rfl
theorem ty_int_bl {b : Bool} : isTy .int (.bl b) = true := rfl
theorem ty_int_int {i : Int} : isTy .int (.int i) = true := rfl
theorem ty_int_str {s : Str} : isTy .int (.str s) = false := rfl
theorem ty_int_tup {xs : List D} : isTy .int (.tup xs) = false := rfl
theorem ty_int_lst {o : Bool} {xs : List D} : isTy .int (.lst o xs) = false := rfl
theorem ty_bool_non  : isTy .bool .non = false := rfl
theorem ty_bool_bl {b : Bool} : isTy .bool (.bl b) = true := rfl
theorem ty_bool_int {i : Int} : isTy .bool (.int i) = false := rfl
theorem ty_bool_str {s : Str} : isTy .bool (.str s) = false := rfl
theorem ty_bool_tup {xs : List D} : isTy .bool (.tup xs) = false := rfl
theorem ty_bool_lst {o : Bool} {xs : List D} : isTy .bool (.lst o xs) = false := rfl
theorem in_non  : D.isN .non = true := rfl
theorem in_bl {b : Bool} : D.isN (.bl b) = false := rfl
theorem in_int {i : Int} : D.isN (.int i) = false := rfl
theorem in_str {s : Str} : D.isN (.str s) = false := rfl
theorem in_tup {xs : List D} : D.isN (.tup xs) = false := rfl
theorem in_lst {o : Bool} {xs : List D} : D.isN (.lst o xs) = false := rfl
theorem ofStr_inj {a b : String} : (Str.ofString a = Str.ofString b) = (a = b) := by
  apply propext
  constructor
  · intro h
    rw [Str.ofString_eq_toList, Str.ofString_eq_toList] at h
    simp only [Str.mk.injEq] at h
    apply String.toList_inj.mp
    have h2 : (a.toList.map Char.toNat) = (b.toList.map Char.toNat) := by simpa using h
    exact List.map_inj_right (fun x y e => Char.toNat_inj.mp e) |>.mp h2
  · intro h; rw [h]
theorem max_ii {a b : Int} : max2D (.int a) (.int b) = some (.int (max a b)) := by
  show some (D.int _) = _
  congr 2
  by_cases c : b > a
  · rw [if_pos c]; omega
  · rw [if_neg c]; omega
theorem min_ii {a b : Int} : min2D (.int a) (.int b) = some (.int (min a b)) := by
  show some (D.int _) = _
  congr 2
  by_cases c : b < a
  · rw [if_pos c]; omega
  · rw [if_neg c]; omega
theorem abs_i {a : Int} : absD (.int a) = some (.int (if a < 0 then -a else a)) := rfl
theorem frzs_all {ds : List D} (h : ∀ d ∈ ds, d.frz = true) : frzs ds = true := by
  induction ds with
  | nil => rfl
  | cons x xs ih =>
    rw [frzs, h x List.mem_cons_self, ih fun d hd => h d (List.mem_cons_of_mem _ hd)]
    rfl
theorem frzs_mem {ds : List D} (h : frzs ds = true) : ∀ d ∈ ds, d.frz = true := by
  induction ds with
  | nil => intro d hd; cases hd
  | cons x xs ih =>
    rw [frzs, Bool.and_eq_true] at h
    intro d hd
    rcases List.mem_cons.mp hd with e | e
    · rw [e]; exact h.1
    · exact ih h.2 d e
theorem frzs_append {xs ys : List D} (h : frzs xs = true) (k : frzs ys = true) : frzs (xs ++ ys) = true :=
  frzs_all fun d hd => (List.mem_append.mp hd).elim (frzs_mem h d) (frzs_mem k d)
/-! the operations on whole numbers and texts, spelt out -/
theorem eq_ii {a b : Int} : eqD (.int a) (.int b) = some (.bl (decide (a = b))) := by
  show some (D.bl (PyData.eqv (.int a) (.int b))) = _
  congr 2
theorem ne_ii {a b : Int} : neD (.int a) (.int b) = some (.bl (!decide (a = b))) := by
  show some (D.bl (!PyData.eqv (.int a) (.int b))) = _
  congr 2
theorem dlt_ii {a b : Int} : PySem.W.dataLt (.int a) (.int b) = decide (a < b) := by
  unfold PySem.W.dataLt PySem.W.keyToks
  simp [PyProof.Rows.lexLt, PyProof.Rows.itemLt]
theorem lt_ii {a b : Int} : ltD (.int a) (.int b) = some (.bl (decide (a < b))) := by
  show some (D.bl (PySem.W.dataLt (.int a) (.int b))) = _
  rw [dlt_ii]
theorem gt_ii {a b : Int} : gtD (.int a) (.int b) = some (.bl (decide (a > b))) := by
  show some (D.bl (PySem.W.dataLt (.int b) (.int a))) = _
  rw [dlt_ii]
theorem le_ii {a b : Int} : leD (.int a) (.int b) = some (.bl (!decide (b < a))) := by
  show some (D.bl (!PySem.W.dataLt (.int b) (.int a))) = _
  rw [dlt_ii]
theorem ge_ii {a b : Int} : geD (.int a) (.int b) = some (.bl (!decide (a < b))) := by
  show some (D.bl (!PySem.W.dataLt (.int a) (.int b))) = _
  rw [dlt_ii]
theorem eq_ss {a b : Str} : eqD (.str a) (.str b) = some (.bl (decide (a = b))) := by
  show some (D.bl (PyData.eqv (.str a) (.str b))) = _
  congr 2
theorem eq_iS {a : Int} : eqD (.int a) (.int a) = some (.bl true) := by rw [eq_ii, decide_eq_true rfl]
theorem ne_iS {a : Int} : neD (.int a) (.int a) = some (.bl false) := by rw [ne_ii, decide_eq_true rfl]; rfl
theorem eq_sS {a : Str} : eqD (.str a) (.str a) = some (.bl true) := by rw [eq_ss, decide_eq_true rfl]
theorem ix_t {xs : List D} {k : Int} {x : D} (h0 : 0 ≤ k) (h : xs[k.toNat]? = some x) : ixD (.tup xs) (.int k) = some x := by
  have e : (k.toNat : Int) = k := by omega
  show atI xs k = some x
  rw [← e]
  exact atI_nat h
theorem ix_l {o : Bool} {xs : List D} {k : Int} {x : D} (h0 : 0 ≤ k) (h : xs[k.toNat]? = some x) : ixD (.lst o xs) (.int k) = some x := by
  have e : (k.toNat : Int) = k := by omega
  show atI xs k = some x
  rw [← e]
  exact atI_nat h
theorem len_t {xs : List D} : lenD (.tup xs) = some (.int (xs.length : Nat)) := rfl
theorem len_l {o : Bool} {xs : List D} : lenD (.lst o xs) = some (.int (xs.length : Nat)) := rfl
theorem small_i {n : Int} (h : -(2 ^ 62) ≤ n ∧ n < 2 ^ 62) : small62 n = true := by
  unfold small62
  rw [decide_eq_true h.1, decide_eq_true h.2]
  rfl
theorem mul_ii {a b : Int} (h : CMul a b) : mulD (.int a) (.int b) = some (.int (a * b)) := by
  show (if CMul a b then _ else _) = _
  rw [if_pos h]
theorem div_ii {a b : Int} (h : CDiv a b) : divD (.int a) (.int b) = some (.int (a / b)) := by
  show (if CDiv a b then _ else _) = _
  rw [if_pos h]
theorem mod_ii {a b : Int} (h : 0 < b) : modD (.int a) (.int b) = some (.int (a % b)) := by
  show (if 0 < b then _ else _) = _
  rw [if_pos h]
end Fw
end

section
set_option linter.all false
set_option maxRecDepth 100000
namespace Fw
open PySem L2
theorem OkS.mono {F : FS} {env : Env} {N N' : Env → Prop} {Rt Rt' : D → Env → Prop} {B B' C C' : Env → Prop} (h : OkS F env N Rt B C) (hn : ∀ e, N e → N' e) (hr : ∀ d e, Rt d e → Rt' d e) (hb : ∀ e, B e → B' e) (hc : ∀ e, C e → C' e) : OkS F env N' Rt' B' C' :=
  ⟨R.wp_mono h.w (fun c q => by
    cases c with
    | nx e => exact hn e q
    | rt d e => exact hr d e q
    | bk e => exact hb e q
    | ct e => exact hc e q) fun _ x => x⟩
/-- a row of statements, with what holds between -/
theorem okS_seqI {F G : FS} {env : Env} (I : Env → Prop) {N : Env → Prop} {Rt : D → Env → Prop} {B C : Env → Prop} (h : OkS F env I Rt B C) (k : ∀ e, I e → OkS G e N Rt B C) : OkS (fSeq F G) env N Rt B C :=
  okS_seq (h.mono k (fun _ _ q => q) (fun _ q => q) fun _ q => q)
end Fw
end

section
set_option linter.all false
set_option maxRecDepth 100000
namespace Fw
open PySem L2
/-! ### the calculus of outcomes as rules of rewriting: each thing that stands still has a name, so that nothing behind it is looked into -/
theorem wp_bind_iff {A B : Type} {x : R A} {f : A → R B} {P : B → Prop} {X : Exn → Prop} : (x.bind f).wp P X ↔ x.wp (fun a => (f a).wp P X) X := by cases x <;> exact Iff.rfl
theorem wp_of_iff {A : Type} {o : Option A} {P : A → Prop} {X : Exn → Prop} : (R.of o).wp P X ↔ ∃ a, o = some a ∧ P a := by
  cases o with
  | none => exact ⟨fun h => h.elim, fun ⟨_, h, _⟩ => by cases h⟩
  | some a => exact ⟨fun h => ⟨a, rfl, h⟩, fun ⟨b, e, h⟩ => by cases e; exact h⟩
theorem wp_ite_iff {A : Type} {c : Prop} [Decidable c] {x : R A} {P : A → Prop} {X : Exn → Prop} : (if c then x else .no).wp P X ↔ c ∧ x.wp P X := by
  by_cases h : c
  · rw [if_pos h]; exact ⟨fun q => ⟨h, q⟩, fun q => q.2⟩
  · rw [if_neg h]; exact ⟨fun q => q.elim, fun q => h q.1⟩
set_option checkBinderAnnotations false
def XE (F : FE) (env : Env) [Q : D → Env → Prop] : Prop := Fw.OkE F env Q
def XT (F : FT) (env : Env) [Q : Bool → Env → Prop] : Prop := Fw.OkT F env Q
def XA (F : FA) (env : Env) [Q : List D → Env → Prop] : Prop := Fw.OkA F env Q
def XI (F : FI) (env : Env) [Q : List D → Env → Prop] : Prop := Fw.OkI F env Q
def XO (F : FO) (env : Env) [Q : Option Int → Env → Prop] : Prop := Fw.OkO F env Q
def XS (F : FS) (env : Env) [N : Env → Prop] [Rt : D → Env → Prop] [B : Env → Prop] [C : Env → Prop] : Prop := Fw.OkS F env N Rt B C
def XF (F : Fn) (as : List D) [Q : D → List D → Prop] : Prop := Fw.OkF F as Q
/-- a value that must be there -/
def Opt {A : Type} (o : Option A) [Q : A → Prop] : Prop := ∃ a, o = some a ∧ Q a
/-- given out of hand -/
def FrD (d : D) [Q : D → Prop] : Prop := Q d.fr
/-- one of two ways -/
def Br (b : Bool) [A : Prop] [B : Prop] : Prop := (b = true → A) ∧ (b = false → B)
/-- this, and then the rest -/
def And2 (A : Prop) [B : Prop] : Prop := A ∧ B
def At (i : Nat) (e : Env) [K : D → Env → Prop] : Prop := ∃ d, e[i]? = some (some d) ∧ K d e
def Put (i : Nat) (v : Option D) (e : Env) [K : Env → Prop] : Prop := K (e.set i v)
def Tak (i : Nat) (e : Env) [K : D → Env → Prop] : Prop := ∃ d, e[i]? = some (some d) ∧ K d (e.set i none)
def Own (i : Nat) (e : Env) [K : List D → Prop] : Prop := ∃ xs, ownLst e[i]? = some xs ∧ K xs
def IsLs (i : Nat) (e : Env) [K : Prop] : Prop := isLst e[i]? = true ∧ K
def GG (g : FG) (d : D) (e : Env) [K : Env → Prop] : Prop := ∃ e2, g d e = some e2 ∧ K e2
def GGs (g : FGs) (ds : List D) (e : Env) [K : Env → Prop] : Prop := ∃ e2, g ds e = some e2 ∧ K e2
def PutO (i : Nat) (os : List D) (e : Env) [K : Env → Prop] : Prop := ∃ e2, putS [i] os e = some e2 ∧ K e2
def CallP (ks : List (Option Nat)) (ds : List D) (e : Env) (F : Fn) [Q : D → Env → Prop] : Prop := ∃ t, takeS (isOf ks) e = some t ∧ ∃ as, mixA ks ds t.1 = some as ∧ Fw.OkF F (as ++ []) fun d os => ∃ e2, putS (isOf ks) os t.2 = some e2 ∧ Q d e2
def Wip (e : Env) (vs : List Nat) [K : Env → Prop] : Prop := K (wipeE e vs)
theorem and2_t {A B : Prop} (h : A) : @And2 A B ↔ B := ⟨fun k => k.2, fun k => ⟨h, k⟩⟩
theorem opt_some {A : Type} {a : A} {Q : A → Prop} : @Opt _ (some a) Q ↔ Q a := ⟨fun ⟨_, e, h⟩ => by cases e; exact h, fun h => ⟨a, rfl, h⟩⟩
theorem opt_of {A : Type} {o : Option A} {a : A} {Q : A → Prop} (e : o = some a) (h : Q a) : @Opt _ o Q := ⟨a, e, h⟩
theorem br_t {A B : Prop} : @Br true A B ↔ A := ⟨fun h => h.1 rfl, fun h => ⟨fun _ => h, fun q => (by cases q)⟩⟩
theorem br_f {A B : Prop} : @Br false A B ↔ B := ⟨fun h => h.2 rfl, fun h => ⟨fun q => (by cases q), fun _ => h⟩⟩
theorem br_d {p : Prop} [Decidable p] {A B : Prop} : @Br (decide p) A B ↔ (p → A) ∧ (¬p → B) := by
  unfold Br
  rw [decide_eq_true_eq, decide_eq_false_iff_not]
theorem br_n {b : Bool} {A B : Prop} : @Br (!b) A B ↔ @Br b B A := by
  cases b
  · exact br_t.trans br_f.symm
  · exact br_f.trans br_t.symm
theorem br_mk {b : Bool} {A B : Prop} (h : b = true → A) (k : b = false → B) : @Br b A B := ⟨h, k⟩
theorem fr_of {d : D} {Q : D → Prop} (h : d.frz = true) : @FrD d Q ↔ Q d := by unfold FrD; rw [frz_fr d h]
theorem fr_l2 {o : Bool} {xs : List D} {Q : D → Prop} (h : frzs xs = true) : @FrD (.lst o xs) Q ↔ Q (.lst false xs) := by
  unfold FrD
  rw [show (D.lst o xs).fr = .lst false xs by rw [D.fr, frzs_frs xs h]]
theorem z_int {i : Int} : (D.int i).frz = true := rfl
theorem z_str {s : Str} : (D.str s).frz = true := rfl
theorem z_bl {b : Bool} : (D.bl b).frz = true := rfl
theorem z_non : D.non.frz = true := rfl
theorem z_tup {xs : List D} : (D.tup xs).frz = frzs xs := rfl
theorem z_lst {xs : List D} : (D.lst false xs).frz = frzs xs := by rw [D.frz]; rfl
theorem z_nil : frzs [] = true := rfl
theorem z_cons {x : D} {xs : List D} : frzs (x :: xs) = (x.frz && frzs xs) := rfl
theorem fr_i {i : Int} {Q : D → Prop} : @FrD (.int i) Q ↔ Q (.int i) := Iff.rfl
theorem fr_s {i : Str} {Q : D → Prop} : @FrD (.str i) Q ↔ Q (.str i) := Iff.rfl
theorem fr_b {i : Bool} {Q : D → Prop} : @FrD (.bl i) Q ↔ Q (.bl i) := Iff.rfl
theorem fr_n {Q : D → Prop} : @FrD .non Q ↔ Q .non := Iff.rfl
section
variable {env : Env} {Q : D → Env → Prop} {QT : Bool → Env → Prop} {QA : List D → Env → Prop} {QO : Option Int → Env → Prop} {QI : List D → Env → Prop} {N : Env → Prop} {Rt : D → Env → Prop} {B C : Env → Prop}

theorem E_c {d : D} : @XE (fC d) env Q ↔ Q d env := ⟨fun h => h.w, fun h => ⟨h⟩⟩
theorem E_var {i : Nat} : @XE (fVar i) env Q ↔ @At i env Q := by
  simp only [XE, eqE, Z.OkE, At]
  unfold fVar
  constructor
  · intro h
    split at h
    · rename_i d e; exact ⟨d, e, h⟩
    · exact h.elim
  · rintro ⟨d, e, h⟩
    rw [e]; exact h
theorem E_frz {i : Nat} : @XE (fFrz i) env Q ↔ @At i env fun d e => @FrD d fun d' => @Put i (some d') e (Q d') := by
  simp only [XE, eqE, Z.OkE, At, FrD, Put]
  unfold fFrz
  constructor
  · intro h
    split at h
    · rename_i d e; exact ⟨d, e, h⟩
    · exact h.elim
  · rintro ⟨d, e, h⟩
    rw [e]; exact h
theorem E_mov {i : Nat} : @XE (fMov i) env Q ↔ @Tak i env Q := by
  simp only [XE, eqE, Z.OkE, Tak]
  unfold fMov
  constructor
  · intro h
    split at h
    · rename_i d e; exact ⟨d, e, h⟩
    · exact h.elim
  · rintro ⟨d, e, h⟩
    rw [e]; exact h
theorem A_io {i : Nat} {Fr : FA} : @XA (fIo i Fr) env QA ↔ @At i env fun _ e => @XA Fr e fun ds e2 => QA (.non :: ds) e2 := by
  simp only [XA, eqA, Z.OkA, At]
  unfold fIo
  constructor
  · intro h
    split at h
    · rename_i d e; exact ⟨d, e, wp_bind_iff.mp h⟩
    · exact h.elim
  · rintro ⟨d, e, h⟩
    rw [e]; exact wp_bind_iff.mpr h

theorem E_chk {F : FE} : @XE (chk F) env Q ↔ @XE F env fun d e => @And2 (d.frz = true) (Q d e) := by
  simp only [XE, XT, XA, XI, XO, XS, XF, And2, eqE, eqT, eqA, eqI, eqO, eqF, eqS, Z.OkE, Z.OkT, Z.OkA, Z.OkI, Z.OkO, Z.OkS, Opt, FrD, GG, Br]
  simp only [chk, wp_bind_iff, wp_of_iff, wp_ite_iff, fGive]
  first | done | exact Iff.rfl
theorem E_give {F : FE} : @XE (fGive F) env Q ↔ @XE F env fun d e => @FrD d fun d => Q d e := by
  simp only [XE, XT, XA, XI, XO, XS, XF, And2, eqE, eqT, eqA, eqI, eqO, eqF, eqS, Z.OkE, Z.OkT, Z.OkA, Z.OkI, Z.OkO, Z.OkS, Opt, FrD, GG, Br]
  simp only [fGive, wp_bind_iff, wp_of_iff, wp_ite_iff, fGive]
  first | done | exact Iff.rfl
theorem E_bin {g : D → D → Option D} {Fa Fb : FE} : @XE (fBin g Fa Fb) env Q ↔ @XE Fa env fun a e => @XE Fb e fun b e2 => @Opt _ (g a b) fun d => Q d e2 := by
  simp only [XE, XT, XA, XI, XO, XS, XF, And2, eqE, eqT, eqA, eqI, eqO, eqF, eqS, Z.OkE, Z.OkT, Z.OkA, Z.OkI, Z.OkO, Z.OkS, Opt, FrD, GG, Br]
  simp only [fBin, wp_bind_iff, wp_of_iff, wp_ite_iff, fGive]
  first | done | exact Iff.rfl
theorem E_un {g : D → Option D} {Fa : FE} : @XE (fUn g Fa) env Q ↔ @XE Fa env fun a e => @Opt _ (g a) fun d => Q d e := by
  simp only [XE, XT, XA, XI, XO, XS, XF, And2, eqE, eqT, eqA, eqI, eqO, eqF, eqS, Z.OkE, Z.OkT, Z.OkA, Z.OkI, Z.OkO, Z.OkS, Opt, FrD, GG, Br]
  simp only [fUn, wp_bind_iff, wp_of_iff, wp_ite_iff, fGive]
  first | done | exact Iff.rfl
theorem E_tup {F : FA} : @XE (fTup F) env Q ↔ @XA F env fun ds e => @And2 (ds.length ≤ big) (Q (.tup ds) e) := by
  simp only [XE, XT, XA, XI, XO, XS, XF, And2, eqE, eqT, eqA, eqI, eqO, eqF, eqS, Z.OkE, Z.OkT, Z.OkA, Z.OkI, Z.OkO, Z.OkS, Opt, FrD, GG, Br]
  simp only [fTup, wp_bind_iff, wp_of_iff, wp_ite_iff, fGive]
  first | done | exact Iff.rfl
theorem E_lst {F : FA} : @XE (fLst F) env Q ↔ @XA F env fun ds e => @And2 (ds.length ≤ big) (Q (.lst true ds) e) := by
  simp only [XE, XT, XA, XI, XO, XS, XF, And2, eqE, eqT, eqA, eqI, eqO, eqF, eqS, Z.OkE, Z.OkT, Z.OkA, Z.OkI, Z.OkO, Z.OkS, Opt, FrD, GG, Br]
  simp only [fLst, wp_bind_iff, wp_of_iff, wp_ite_iff, fGive]
  first | done | exact Iff.rfl
theorem A_nil : @XA fNil env QA ↔ QA [] env := ⟨fun h => h.w, fun h => ⟨h⟩⟩
theorem A_cons {Fa : FE} {Fr : FA} : @XA (fCons Fa Fr) env QA ↔ @XE Fa env fun d e => @XA Fr e fun ds e2 => QA (d :: ds) e2 := by
  simp only [XE, XT, XA, XI, XO, XS, XF, And2, eqE, eqT, eqA, eqI, eqO, eqF, eqS, Z.OkE, Z.OkT, Z.OkA, Z.OkI, Z.OkO, Z.OkS, Opt, FrD, GG, Br]
  simp only [fCons, wp_bind_iff, wp_of_iff, wp_ite_iff, fGive]
  first | done | exact Iff.rfl
theorem A_arg {Fa : FE} {Fr : FA} : @XA (fArg Fa Fr) env QA ↔ @XE Fa env fun d e => @FrD d fun d => @And2 (d.frz = true) (@XA Fr e fun ds e2 => QA (d :: ds) e2) := by
  simp only [XE, XT, XA, XI, XO, XS, XF, And2, eqE, eqT, eqA, eqI, eqO, eqF, eqS, Z.OkE, Z.OkT, Z.OkA, Z.OkI, Z.OkO, Z.OkS, Opt, FrD, GG, Br]
  simp only [fArg, fGive, wp_bind_iff, wp_of_iff, wp_ite_iff, fGive]
  first | done | exact Iff.rfl
theorem E_if {Ct : FT} {Fa Fb : FE} : @XE (fIf Ct Fa Fb) env Q ↔ @XT Ct env fun b e => @Br b (@XE Fa e Q) (@XE Fb e Q) := by
  simp only [XE, XT, XA, XI, XO, XS, XF, And2, eqE, eqT, eqA, eqI, eqO, eqF, eqS, Z.OkE, Z.OkT, Z.OkA, Z.OkI, Z.OkO, Z.OkS, Opt, FrD, GG, Br]
  simp only [fIf, wp_bind_iff, wp_of_iff]
  apply Iff.of_eq
  congr 1
  funext r
  cases h : r.1 <;> simp [R.wp]
theorem S_if {Ct : FT} {Fa Fb : FS} : @XS (fIfS Ct Fa Fb) env N Rt B C ↔ @XT Ct env fun b e => @Br b (@XS Fa e N Rt B C) (@XS Fb e N Rt B C) := by
  simp only [XE, XT, XA, XI, XO, XS, XF, And2, eqE, eqT, eqA, eqI, eqO, eqF, eqS, Z.OkE, Z.OkT, Z.OkA, Z.OkI, Z.OkO, Z.OkS, Opt, FrD, GG, Br]
  simp only [fIfS, wp_bind_iff, wp_of_iff]
  apply Iff.of_eq
  congr 1
  funext r
  cases h : r.1 <;> simp [R.wp]
theorem T_and {Fa Fb : FT} : @XT (fAnd Fa Fb) env QT ↔ @XT Fa env fun b e => @Br b (@XT Fb e QT) (QT false e) := by
  simp only [XE, XT, XA, XI, XO, XS, XF, And2, eqE, eqT, eqA, eqI, eqO, eqF, eqS, Z.OkE, Z.OkT, Z.OkA, Z.OkI, Z.OkO, Z.OkS, Opt, FrD, GG, Br]
  simp only [fAnd, wp_bind_iff, wp_of_iff]
  apply Iff.of_eq
  congr 1
  funext r
  cases h : r.1 <;> simp [R.wp]
theorem T_or {Fa Fb : FT} : @XT (fOr Fa Fb) env QT ↔ @XT Fa env fun b e => @Br b (QT true e) (@XT Fb e QT) := by
  simp only [XE, XT, XA, XI, XO, XS, XF, And2, eqE, eqT, eqA, eqI, eqO, eqF, eqS, Z.OkE, Z.OkT, Z.OkA, Z.OkI, Z.OkO, Z.OkS, Opt, FrD, GG, Br]
  simp only [fOr, wp_bind_iff, wp_of_iff]
  apply Iff.of_eq
  congr 1
  funext r
  cases h : r.1 <;> simp [R.wp]
theorem T_test {F : FE} : @XT (fTest F) env QT ↔ @XE F env fun d e => @Opt _ d.isB fun b => QT b e := by
  simp only [XE, XT, XA, XI, XO, XS, XF, And2, eqE, eqT, eqA, eqI, eqO, eqF, eqS, Z.OkE, Z.OkT, Z.OkA, Z.OkI, Z.OkO, Z.OkS, Opt, FrD, GG, Br]
  simp only [fTest, wp_bind_iff, wp_of_iff, wp_ite_iff, fGive]
  first | done | exact Iff.rfl
theorem T_tru {F : FE} : @XT (fTru F) env QT ↔ @XE F env fun d e => @Opt _ d.tru fun b => QT b e := by
  simp only [XE, XT, XA, XI, XO, XS, XF, And2, eqE, eqT, eqA, eqI, eqO, eqF, eqS, Z.OkE, Z.OkT, Z.OkA, Z.OkI, Z.OkO, Z.OkS, Opt, FrD, GG, Br]
  simp only [fTru, wp_bind_iff, wp_of_iff, wp_ite_iff, fGive]
  first | done | exact Iff.rfl
theorem T_not {F : FT} : @XT (fNot F) env QT ↔ @XT F env fun b e => QT (!b) e := by
  simp only [XE, XT, XA, XI, XO, XS, XF, And2, eqE, eqT, eqA, eqI, eqO, eqF, eqS, Z.OkE, Z.OkT, Z.OkA, Z.OkI, Z.OkO, Z.OkS, Opt, FrD, GG, Br]
  simp only [fNot, wp_bind_iff, wp_of_iff, wp_ite_iff, fGive]
  first | done | exact Iff.rfl
theorem T_yes : @XT fYes env QT ↔ QT true env := ⟨fun h => h.w, fun h => ⟨h⟩⟩
theorem E_andV {Fa Fb : FE} : @XE (fAndV Fa Fb) env Q ↔ @XE Fa env fun d e => @Opt _ d.isB fun b => @Br b (@XE Fb e Q) (Q (.bl false) e) := by
  rw [← T_test (F := Fa) (QT := fun b e => @Br b (@XE Fb e Q) (Q (.bl false) e))]
  simp only [XE, XT, XA, XI, XO, XS, XF, And2, eqE, eqT, eqA, eqI, eqO, eqF, eqS, Z.OkE, Z.OkT, Z.OkA, Z.OkI, Z.OkO, Z.OkS, Opt, FrD, GG, Br]
  simp only [fAndV, wp_bind_iff]
  apply Iff.of_eq
  congr 1
  funext r
  cases h : r.1 <;> simp [R.wp]
theorem E_orV {Fa Fb : FE} : @XE (fOrV Fa Fb) env Q ↔ @XE Fa env fun d e => @Opt _ d.isB fun b => @Br b (Q (.bl true) e) (@XE Fb e Q) := by
  rw [← T_test (F := Fa) (QT := fun b e => @Br b (Q (.bl true) e) (@XE Fb e Q))]
  simp only [XE, XT, XA, XI, XO, XS, XF, And2, eqE, eqT, eqA, eqI, eqO, eqF, eqS, Z.OkE, Z.OkT, Z.OkA, Z.OkI, Z.OkO, Z.OkS, Opt, FrD, GG, Br]
  simp only [fOrV, wp_bind_iff]
  apply Iff.of_eq
  congr 1
  funext r
  cases h : r.1 <;> simp [R.wp]
theorem E_notV {Fa : FE} : @XE (fNotV Fa) env Q ↔ @XE Fa env fun d e => @Opt _ d.isB fun b => Q (.bl (!b)) e := by
  rw [← T_test (F := Fa) (QT := fun b e => Q (.bl (!b)) e)]
  simp only [XE, XT, XA, XI, XO, XS, XF, And2, eqE, eqT, eqA, eqI, eqO, eqF, eqS, Z.OkE, Z.OkT, Z.OkA, Z.OkI, Z.OkO, Z.OkS, Opt, FrD, GG, Br]
  simp only [fNotV, wp_bind_iff]
  exact Iff.rfl
theorem E_mt {T : String} {g : D → D → Option D} {Fo Fa : FE} : @XE (fMt T g Fo Fa) env Q ↔ @XE Fo env fun a e => @And2 (okT T a = true) (@XE Fa e fun b e2 => @Opt _ (g a b) fun d => Q d e2) := by
  simp only [XE, XT, XA, XI, XO, XS, XF, And2, eqE, eqT, eqA, eqI, eqO, eqF, eqS, Z.OkE, Z.OkT, Z.OkA, Z.OkI, Z.OkO, Z.OkS, Opt, FrD, GG, Br]
  simp only [fMt, wp_bind_iff, wp_of_iff, wp_ite_iff, fGive]
  first | done | exact Iff.rfl
theorem E_sl {F : FE} {Fl Fh : FO} : @XE (fSl F Fl Fh) env Q ↔ @XE F env fun a e => @XO Fl e fun l e1 => @XO Fh e1 fun u e2 => @Opt _ (slD a l u) fun d => Q d e2 := by
  simp only [XE, XT, XA, XI, XO, XS, XF, And2, eqE, eqT, eqA, eqI, eqO, eqF, eqS, Z.OkE, Z.OkT, Z.OkA, Z.OkI, Z.OkO, Z.OkS, Opt, FrD, GG, Br]
  simp only [fSl, wp_bind_iff, wp_of_iff, wp_ite_iff, fGive]
  first | done | exact Iff.rfl
theorem O_no : @XO fNoPart env QO ↔ QO none env := ⟨fun h => h.w, fun h => ⟨h⟩⟩
theorem O_part {F : FE} : @XO (fPart F) env QO ↔ @XE F env fun d e => @Opt _ d.isI fun i => QO (some i) e := by
  simp only [XE, XT, XA, XI, XO, XS, XF, And2, eqE, eqT, eqA, eqI, eqO, eqF, eqS, Z.OkE, Z.OkT, Z.OkA, Z.OkI, Z.OkO, Z.OkS, Opt, FrD, GG, Br]
  simp only [fPart, wp_bind_iff, wp_of_iff, wp_ite_iff, fGive]
  first | done | exact Iff.rfl
theorem S_skip : @XS fSkip env N Rt B C ↔ N env := ⟨fun h => h.w, fun h => ⟨h⟩⟩
theorem S_break : @XS fBreak env N Rt B C ↔ B env := ⟨fun h => h.w, fun h => ⟨h⟩⟩
theorem S_cont : @XS fCont env N Rt B C ↔ C env := ⟨fun h => h.w, fun h => ⟨h⟩⟩
theorem S_retN : @XS fRetN env N Rt B C ↔ Rt .non env := ⟨fun h => h.w, fun h => ⟨h⟩⟩
theorem S_seq {F G : FS} : @XS (fSeq F G) env N Rt B C ↔ @XS F env (fun e => @XS G e N Rt B C) Rt B C := by
  simp only [XE, XT, XA, XI, XO, XS, XF, And2, eqE, eqT, eqA, eqI, eqO, eqF, eqS, Z.OkE, Z.OkT, Z.OkA, Z.OkI, Z.OkO, Z.OkS, Opt, FrD, GG, Br]
  simp only [fSeq, wp_bind_iff]
  apply Iff.of_eq
  congr 1
  funext c
  cases c <;> rfl
theorem S_drop {F : FE} : @XS (fDrop F) env N Rt B C ↔ @XE F env fun _ e => N e := by
  simp only [XE, XT, XA, XI, XO, XS, XF, And2, eqE, eqT, eqA, eqI, eqO, eqF, eqS, Z.OkE, Z.OkT, Z.OkA, Z.OkI, Z.OkO, Z.OkS, Opt, FrD, GG, Br]
  simp only [fDrop, wp_bind_iff, wp_of_iff, wp_ite_iff, fGive]
  first | done | exact Iff.rfl
theorem S_ret {F : FE} : @XS (fRet F) env N Rt B C ↔ @XE F env Rt := by
  simp only [XE, XT, XA, XI, XO, XS, XF, And2, eqE, eqT, eqA, eqI, eqO, eqF, eqS, Z.OkE, Z.OkT, Z.OkA, Z.OkI, Z.OkO, Z.OkS, Opt, FrD, GG, Br]
  simp only [fRet, wp_bind_iff, wp_of_iff, wp_ite_iff, fGive]
  first | done | exact Iff.rfl
theorem S_asg {F : FE} {Fg : FG} : @XS (fAsg F Fg) env N Rt B C ↔ @XE F env fun d e => @GG Fg d e N := by
  simp only [XE, XT, XA, XI, XO, XS, XF, And2, eqE, eqT, eqA, eqI, eqO, eqF, eqS, Z.OkE, Z.OkT, Z.OkA, Z.OkI, Z.OkO, Z.OkS, Opt, FrD, GG, Br]
  simp only [fAsg, wp_bind_iff, wp_of_iff, wp_ite_iff, fGive]
  first | done | exact Iff.rfl
theorem E_mut {i : Nat} {g : List D → List D → Option (D × List D)} {Fa : FA} : @XE (fMut i g Fa) env Q ↔ @IsLs i env (@XA Fa env fun as e => @Own i e fun xs => @Opt _ (g xs as) fun q => @Put i (some (.lst true q.2)) e (Q q.1)) := by
  simp only [XE, XA, eqE, eqA, Z.OkE, Z.OkA, Opt, Put, Own, IsLs]
  unfold fMut
  simp only [wp_ite_iff, wp_bind_iff, wp_of_iff]
  exact Iff.rfl
theorem S_setS {i : Nat} {F Fi : FE} : @XS (fSetS i F Fi) env N Rt B C ↔ @XE F env fun d e => @Own i e fun xs => @XE Fi e fun k _ => @Opt _ k.isI fun n => @Opt _ (ixN xs.length n) fun j => @Put i (some (.lst true (xs.set j d))) e N := by
  simp only [XE, XS, eqE, eqS, Z.OkE, Z.OkS, Opt, Put, Own]
  unfold fSetS
  simp only [wp_ite_iff, wp_bind_iff, wp_of_iff]
  first | done | exact Iff.rfl
theorem E_call {ks : List (Option Nat)} {F : Fn} {Fa : FA} : @XE (fCall ks [] F Fa) env Q ↔ @XA Fa env fun ds e => @CallP ks ds e F Q := by
  simp only [XE, XA, eqE, eqA, eqF, Z.OkE, Z.OkA, Z.OkF, CallP]
  unfold fCall
  simp only [wp_bind_iff, wp_of_iff]
  exact Iff.rfl
theorem I_seq {F : FE} : @XI (fSeqI F) env QI ↔ @XE F env fun d e => @FrD d fun d => @Opt _ d.items fun ds => QI ds e := by
  simp only [XE, XI, eqE, eqI, Z.OkE, Z.OkI, FrD, Opt]
  simp only [fSeqI, fGive, wp_bind_iff, wp_of_iff]
  exact Iff.rfl
theorem I_enum {F : FE} : @XI (fEnum F) env QI ↔ @XE F env fun d e => @FrD d fun d => @Opt _ d.seqs fun ds => QI (enumD ds) e := by
  simp only [XE, XI, eqE, eqI, Z.OkE, Z.OkI, FrD, Opt]
  simp only [fEnum, fGive, wp_bind_iff, wp_of_iff]
  exact Iff.rfl
theorem I_rng1 {F : FE} : @XI (fRng1 F) env QI ↔ @XE F env fun d e => @Opt _ d.isI fun n => @And2 (small62 n = true) (QI (rangeD 0 n.toNat) e) := by
  simp only [XE, XI, And2, eqE, eqI, Z.OkE, Z.OkI, Opt]
  simp only [fRng1, wp_bind_iff, wp_of_iff, wp_ite_iff]
  exact Iff.rfl
theorem I_rng2 {Fa Fb : FE} : @XI (fRng2 Fa Fb) env QI ↔ @XE Fa env fun d e => @Opt _ d.isI fun i => @XE Fb e fun d2 e2 => @Opt _ d2.isI fun j => @And2 (small62 i = true ∧ small62 j = true) (QI (rangeD i (j - i).toNat) e2) := by
  simp only [XE, XI, And2, eqE, eqI, Z.OkE, Z.OkI, Opt]
  simp only [fRng2, wp_bind_iff, wp_of_iff, wp_ite_iff]
  first | done | exact Iff.rfl
theorem E_lstRg {F : FE} : @XE (fLstRg F) env Q ↔ @XE F env fun d e => @Opt _ d.isI fun n => @And2 (small62 n = true ∧ n.toNat ≤ big) (Q (.lst true (rangeD 0 n.toNat)) e) := by
  simp only [XE, And2, eqE, Z.OkE, Opt]
  simp only [fLstRg, wp_bind_iff, wp_of_iff, wp_ite_iff]
  exact Iff.rfl
/-! loops -/
def LoopS (ds : List D) (Fg : FG) (Fb : FS) (e : Env) (N : Env → Prop) (Rt : D → Env → Prop) (B C : Env → Prop) : Prop := ∃ I : List D → Env → Prop, I ds e ∧ (∀ d rest e, I (d :: rest) e → @GG Fg d e fun e2 => @XS Fb e2 (I rest) Rt N (I rest)) ∧ ∀ e, I [] e → N e
theorem S_for {Fi : FI} {Fg : FG} {Fb : FS} (h : @XI Fi env fun ds e => @LoopS ds Fg Fb e N Rt B C) : @XS (fFor Fi Fg Fb) env N Rt B C := okS_for h
theorem loopS_of {ds : List D} {Fg : FG} {Fb : FS} {e : Env} (I : List D → Env → Prop) (h : I ds e) (k : ∀ d rest e, I (d :: rest) e → @GG Fg d e fun e2 => @XS Fb e2 (I rest) Rt N (I rest)) (f : ∀ e, I [] e → N e) : @LoopS ds Fg Fb e N Rt B C := ⟨I, h, k, f⟩
def LoopE (ds : List D) (p : Bool) (vs : List Nat) (Fg : FG) (Ft : FT) (Fe : FE) (e : Env) (Q : D → Env → Prop) : Prop := ∃ I : List D → List D → Env → Prop, I ds [] (wipeE e vs) ∧
    (∀ d rest acc e, I (d :: rest) acc e → @GG Fg d e fun e2 => @XT Ft e2 fun b e3 => @Br b (@XE Fe e3 fun x e4 => @And2 (acc.length < big) (@Wip e4 vs fun e5 => I rest (acc ++ [x]) e5)) (@Wip e3 vs fun e5 => I rest acc e5)) ∧
    ∀ acc e2, I [] acc e2 → Q (.lst true acc) (if p = true then env else e2)

end
theorem at_0 {d : D} {e : Env} {K : D → Env → Prop} : @At 0 (some d :: e) K ↔ K d (some d :: e) := ⟨fun ⟨_, q, h⟩ => by cases q; exact h, fun h => ⟨d, rfl, h⟩⟩
theorem tak_0 {d : D} {e : Env} {K : D → Env → Prop} : @Tak 0 (some d :: e) K ↔ K d (none :: e) := ⟨fun ⟨_, q, h⟩ => by cases q; exact h, fun h => ⟨d, rfl, h⟩⟩
theorem put_0 {y v : Option D} {e : Env} {K : Env → Prop} : @Put 0 v (y :: e) K ↔ K (v :: e) := Iff.rfl
theorem own_0 {ys : List D} {e : Env} {K : List D → Prop} : @Own 0 (some (.lst true ys) :: e) K ↔ K ys := ⟨fun ⟨_, q, h⟩ => by cases q; exact h, fun h => ⟨ys, rfl, h⟩⟩
theorem isl_0 {o : Bool} {ys : List D} {e : Env} {K : Prop} : @IsLs 0 (some (.lst o ys) :: e) K ↔ K := ⟨fun h => h.2, fun h => ⟨rfl, h⟩⟩
theorem gg_0 {y : Option D} {d : D} {e : Env} {K : Env → Prop} : @GG (gSet 0) d (y :: e) K ↔ K (some d :: e) := by
  have h : gSet 0 d (y :: e) = some (some d :: e) := if_pos (by simp only [List.length_cons]; omega)
  exact ⟨fun ⟨_, q, k⟩ => by rw [h] at q; cases q; exact k, fun k => ⟨_, h, k⟩⟩
theorem po_0 {d : D} {e : Env} {K : Env → Prop} : @PutO 0 [d] (none :: e) K ↔ K (some d :: e) := ⟨fun ⟨_, q, h⟩ => by cases q; exact h, fun h => ⟨_, rfl, h⟩⟩
theorem at_1 {x0 : Option D} {d : D} {e : Env} {K : D → Env → Prop} : @At 1 (x0 :: some d :: e) K ↔ K d (x0 :: some d :: e) := ⟨fun ⟨_, q, h⟩ => by cases q; exact h, fun h => ⟨d, rfl, h⟩⟩
theorem tak_1 {x0 : Option D} {d : D} {e : Env} {K : D → Env → Prop} : @Tak 1 (x0 :: some d :: e) K ↔ K d (x0 :: none :: e) := ⟨fun ⟨_, q, h⟩ => by cases q; exact h, fun h => ⟨d, rfl, h⟩⟩
theorem put_1 {x0 : Option D} {y v : Option D} {e : Env} {K : Env → Prop} : @Put 1 v (x0 :: y :: e) K ↔ K (x0 :: v :: e) := Iff.rfl
theorem own_1 {x0 : Option D} {ys : List D} {e : Env} {K : List D → Prop} : @Own 1 (x0 :: some (.lst true ys) :: e) K ↔ K ys := ⟨fun ⟨_, q, h⟩ => by cases q; exact h, fun h => ⟨ys, rfl, h⟩⟩
theorem isl_1 {x0 : Option D} {o : Bool} {ys : List D} {e : Env} {K : Prop} : @IsLs 1 (x0 :: some (.lst o ys) :: e) K ↔ K := ⟨fun h => h.2, fun h => ⟨rfl, h⟩⟩
theorem gg_1 {x0 : Option D} {y : Option D} {d : D} {e : Env} {K : Env → Prop} : @GG (gSet 1) d (x0 :: y :: e) K ↔ K (x0 :: some d :: e) := by
  have h : gSet 1 d (x0 :: y :: e) = some (x0 :: some d :: e) := if_pos (by simp only [List.length_cons]; omega)
  exact ⟨fun ⟨_, q, k⟩ => by rw [h] at q; cases q; exact k, fun k => ⟨_, h, k⟩⟩
theorem po_1 {x0 : Option D} {d : D} {e : Env} {K : Env → Prop} : @PutO 1 [d] (x0 :: none :: e) K ↔ K (x0 :: some d :: e) := ⟨fun ⟨_, q, h⟩ => by cases q; exact h, fun h => ⟨_, rfl, h⟩⟩
theorem at_2 {x0 x1 : Option D} {d : D} {e : Env} {K : D → Env → Prop} : @At 2 (x0 :: x1 :: some d :: e) K ↔ K d (x0 :: x1 :: some d :: e) := ⟨fun ⟨_, q, h⟩ => by cases q; exact h, fun h => ⟨d, rfl, h⟩⟩
theorem tak_2 {x0 x1 : Option D} {d : D} {e : Env} {K : D → Env → Prop} : @Tak 2 (x0 :: x1 :: some d :: e) K ↔ K d (x0 :: x1 :: none :: e) := ⟨fun ⟨_, q, h⟩ => by cases q; exact h, fun h => ⟨d, rfl, h⟩⟩
theorem put_2 {x0 x1 : Option D} {y v : Option D} {e : Env} {K : Env → Prop} : @Put 2 v (x0 :: x1 :: y :: e) K ↔ K (x0 :: x1 :: v :: e) := Iff.rfl
theorem own_2 {x0 x1 : Option D} {ys : List D} {e : Env} {K : List D → Prop} : @Own 2 (x0 :: x1 :: some (.lst true ys) :: e) K ↔ K ys := ⟨fun ⟨_, q, h⟩ => by cases q; exact h, fun h => ⟨ys, rfl, h⟩⟩
theorem isl_2 {x0 x1 : Option D} {o : Bool} {ys : List D} {e : Env} {K : Prop} : @IsLs 2 (x0 :: x1 :: some (.lst o ys) :: e) K ↔ K := ⟨fun h => h.2, fun h => ⟨rfl, h⟩⟩
theorem gg_2 {x0 x1 : Option D} {y : Option D} {d : D} {e : Env} {K : Env → Prop} : @GG (gSet 2) d (x0 :: x1 :: y :: e) K ↔ K (x0 :: x1 :: some d :: e) := by
  have h : gSet 2 d (x0 :: x1 :: y :: e) = some (x0 :: x1 :: some d :: e) := if_pos (by simp only [List.length_cons]; omega)
  exact ⟨fun ⟨_, q, k⟩ => by rw [h] at q; cases q; exact k, fun k => ⟨_, h, k⟩⟩
theorem po_2 {x0 x1 : Option D} {d : D} {e : Env} {K : Env → Prop} : @PutO 2 [d] (x0 :: x1 :: none :: e) K ↔ K (x0 :: x1 :: some d :: e) := ⟨fun ⟨_, q, h⟩ => by cases q; exact h, fun h => ⟨_, rfl, h⟩⟩
theorem at_3 {x0 x1 x2 : Option D} {d : D} {e : Env} {K : D → Env → Prop} : @At 3 (x0 :: x1 :: x2 :: some d :: e) K ↔ K d (x0 :: x1 :: x2 :: some d :: e) := ⟨fun ⟨_, q, h⟩ => by cases q; exact h, fun h => ⟨d, rfl, h⟩⟩
theorem tak_3 {x0 x1 x2 : Option D} {d : D} {e : Env} {K : D → Env → Prop} : @Tak 3 (x0 :: x1 :: x2 :: some d :: e) K ↔ K d (x0 :: x1 :: x2 :: none :: e) := ⟨fun ⟨_, q, h⟩ => by cases q; exact h, fun h => ⟨d, rfl, h⟩⟩
theorem put_3 {x0 x1 x2 : Option D} {y v : Option D} {e : Env} {K : Env → Prop} : @Put 3 v (x0 :: x1 :: x2 :: y :: e) K ↔ K (x0 :: x1 :: x2 :: v :: e) := Iff.rfl
theorem own_3 {x0 x1 x2 : Option D} {ys : List D} {e : Env} {K : List D → Prop} : @Own 3 (x0 :: x1 :: x2 :: some (.lst true ys) :: e) K ↔ K ys := ⟨fun ⟨_, q, h⟩ => by cases q; exact h, fun h => ⟨ys, rfl, h⟩⟩
theorem isl_3 {x0 x1 x2 : Option D} {o : Bool} {ys : List D} {e : Env} {K : Prop} : @IsLs 3 (x0 :: x1 :: x2 :: some (.lst o ys) :: e) K ↔ K := ⟨fun h => h.2, fun h => ⟨rfl, h⟩⟩
theorem gg_3 {x0 x1 x2 : Option D} {y : Option D} {d : D} {e : Env} {K : Env → Prop} : @GG (gSet 3) d (x0 :: x1 :: x2 :: y :: e) K ↔ K (x0 :: x1 :: x2 :: some d :: e) := by
  have h : gSet 3 d (x0 :: x1 :: x2 :: y :: e) = some (x0 :: x1 :: x2 :: some d :: e) := if_pos (by simp only [List.length_cons]; omega)
  exact ⟨fun ⟨_, q, k⟩ => by rw [h] at q; cases q; exact k, fun k => ⟨_, h, k⟩⟩
theorem po_3 {x0 x1 x2 : Option D} {d : D} {e : Env} {K : Env → Prop} : @PutO 3 [d] (x0 :: x1 :: x2 :: none :: e) K ↔ K (x0 :: x1 :: x2 :: some d :: e) := ⟨fun ⟨_, q, h⟩ => by cases q; exact h, fun h => ⟨_, rfl, h⟩⟩
theorem at_4 {x0 x1 x2 x3 : Option D} {d : D} {e : Env} {K : D → Env → Prop} : @At 4 (x0 :: x1 :: x2 :: x3 :: some d :: e) K ↔ K d (x0 :: x1 :: x2 :: x3 :: some d :: e) := ⟨fun ⟨_, q, h⟩ => by cases q; exact h, fun h => ⟨d, rfl, h⟩⟩
theorem tak_4 {x0 x1 x2 x3 : Option D} {d : D} {e : Env} {K : D → Env → Prop} : @Tak 4 (x0 :: x1 :: x2 :: x3 :: some d :: e) K ↔ K d (x0 :: x1 :: x2 :: x3 :: none :: e) := ⟨fun ⟨_, q, h⟩ => by cases q; exact h, fun h => ⟨d, rfl, h⟩⟩
theorem put_4 {x0 x1 x2 x3 : Option D} {y v : Option D} {e : Env} {K : Env → Prop} : @Put 4 v (x0 :: x1 :: x2 :: x3 :: y :: e) K ↔ K (x0 :: x1 :: x2 :: x3 :: v :: e) := Iff.rfl
theorem own_4 {x0 x1 x2 x3 : Option D} {ys : List D} {e : Env} {K : List D → Prop} : @Own 4 (x0 :: x1 :: x2 :: x3 :: some (.lst true ys) :: e) K ↔ K ys := ⟨fun ⟨_, q, h⟩ => by cases q; exact h, fun h => ⟨ys, rfl, h⟩⟩
theorem isl_4 {x0 x1 x2 x3 : Option D} {o : Bool} {ys : List D} {e : Env} {K : Prop} : @IsLs 4 (x0 :: x1 :: x2 :: x3 :: some (.lst o ys) :: e) K ↔ K := ⟨fun h => h.2, fun h => ⟨rfl, h⟩⟩
theorem gg_4 {x0 x1 x2 x3 : Option D} {y : Option D} {d : D} {e : Env} {K : Env → Prop} : @GG (gSet 4) d (x0 :: x1 :: x2 :: x3 :: y :: e) K ↔ K (x0 :: x1 :: x2 :: x3 :: some d :: e) := by
  have h : gSet 4 d (x0 :: x1 :: x2 :: x3 :: y :: e) = some (x0 :: x1 :: x2 :: x3 :: some d :: e) := if_pos (by simp only [List.length_cons]; omega)
  exact ⟨fun ⟨_, q, k⟩ => by rw [h] at q; cases q; exact k, fun k => ⟨_, h, k⟩⟩
theorem po_4 {x0 x1 x2 x3 : Option D} {d : D} {e : Env} {K : Env → Prop} : @PutO 4 [d] (x0 :: x1 :: x2 :: x3 :: none :: e) K ↔ K (x0 :: x1 :: x2 :: x3 :: some d :: e) := ⟨fun ⟨_, q, h⟩ => by cases q; exact h, fun h => ⟨_, rfl, h⟩⟩
theorem at_5 {x0 x1 x2 x3 x4 : Option D} {d : D} {e : Env} {K : D → Env → Prop} : @At 5 (x0 :: x1 :: x2 :: x3 :: x4 :: some d :: e) K ↔ K d (x0 :: x1 :: x2 :: x3 :: x4 :: some d :: e) := ⟨fun ⟨_, q, h⟩ => by cases q; exact h, fun h => ⟨d, rfl, h⟩⟩
theorem tak_5 {x0 x1 x2 x3 x4 : Option D} {d : D} {e : Env} {K : D → Env → Prop} : @Tak 5 (x0 :: x1 :: x2 :: x3 :: x4 :: some d :: e) K ↔ K d (x0 :: x1 :: x2 :: x3 :: x4 :: none :: e) := ⟨fun ⟨_, q, h⟩ => by cases q; exact h, fun h => ⟨d, rfl, h⟩⟩
theorem put_5 {x0 x1 x2 x3 x4 : Option D} {y v : Option D} {e : Env} {K : Env → Prop} : @Put 5 v (x0 :: x1 :: x2 :: x3 :: x4 :: y :: e) K ↔ K (x0 :: x1 :: x2 :: x3 :: x4 :: v :: e) := Iff.rfl
theorem own_5 {x0 x1 x2 x3 x4 : Option D} {ys : List D} {e : Env} {K : List D → Prop} : @Own 5 (x0 :: x1 :: x2 :: x3 :: x4 :: some (.lst true ys) :: e) K ↔ K ys := ⟨fun ⟨_, q, h⟩ => by cases q; exact h, fun h => ⟨ys, rfl, h⟩⟩
theorem isl_5 {x0 x1 x2 x3 x4 : Option D} {o : Bool} {ys : List D} {e : Env} {K : Prop} : @IsLs 5 (x0 :: x1 :: x2 :: x3 :: x4 :: some (.lst o ys) :: e) K ↔ K := ⟨fun h => h.2, fun h => ⟨rfl, h⟩⟩
theorem gg_5 {x0 x1 x2 x3 x4 : Option D} {y : Option D} {d : D} {e : Env} {K : Env → Prop} : @GG (gSet 5) d (x0 :: x1 :: x2 :: x3 :: x4 :: y :: e) K ↔ K (x0 :: x1 :: x2 :: x3 :: x4 :: some d :: e) := by
  have h : gSet 5 d (x0 :: x1 :: x2 :: x3 :: x4 :: y :: e) = some (x0 :: x1 :: x2 :: x3 :: x4 :: some d :: e) := if_pos (by simp only [List.length_cons]; omega)
  exact ⟨fun ⟨_, q, k⟩ => by rw [h] at q; cases q; exact k, fun k => ⟨_, h, k⟩⟩
theorem po_5 {x0 x1 x2 x3 x4 : Option D} {d : D} {e : Env} {K : Env → Prop} : @PutO 5 [d] (x0 :: x1 :: x2 :: x3 :: x4 :: none :: e) K ↔ K (x0 :: x1 :: x2 :: x3 :: x4 :: some d :: e) := ⟨fun ⟨_, q, h⟩ => by cases q; exact h, fun h => ⟨_, rfl, h⟩⟩
theorem at_6 {x0 x1 x2 x3 x4 x5 : Option D} {d : D} {e : Env} {K : D → Env → Prop} : @At 6 (x0 :: x1 :: x2 :: x3 :: x4 :: x5 :: some d :: e) K ↔ K d (x0 :: x1 :: x2 :: x3 :: x4 :: x5 :: some d :: e) := ⟨fun ⟨_, q, h⟩ => by cases q; exact h, fun h => ⟨d, rfl, h⟩⟩
theorem tak_6 {x0 x1 x2 x3 x4 x5 : Option D} {d : D} {e : Env} {K : D → Env → Prop} : @Tak 6 (x0 :: x1 :: x2 :: x3 :: x4 :: x5 :: some d :: e) K ↔ K d (x0 :: x1 :: x2 :: x3 :: x4 :: x5 :: none :: e) := ⟨fun ⟨_, q, h⟩ => by cases q; exact h, fun h => ⟨d, rfl, h⟩⟩
theorem put_6 {x0 x1 x2 x3 x4 x5 : Option D} {y v : Option D} {e : Env} {K : Env → Prop} : @Put 6 v (x0 :: x1 :: x2 :: x3 :: x4 :: x5 :: y :: e) K ↔ K (x0 :: x1 :: x2 :: x3 :: x4 :: x5 :: v :: e) := Iff.rfl
theorem own_6 {x0 x1 x2 x3 x4 x5 : Option D} {ys : List D} {e : Env} {K : List D → Prop} : @Own 6 (x0 :: x1 :: x2 :: x3 :: x4 :: x5 :: some (.lst true ys) :: e) K ↔ K ys := ⟨fun ⟨_, q, h⟩ => by cases q; exact h, fun h => ⟨ys, rfl, h⟩⟩
theorem isl_6 {x0 x1 x2 x3 x4 x5 : Option D} {o : Bool} {ys : List D} {e : Env} {K : Prop} : @IsLs 6 (x0 :: x1 :: x2 :: x3 :: x4 :: x5 :: some (.lst o ys) :: e) K ↔ K := ⟨fun h => h.2, fun h => ⟨rfl, h⟩⟩
theorem gg_6 {x0 x1 x2 x3 x4 x5 : Option D} {y : Option D} {d : D} {e : Env} {K : Env → Prop} : @GG (gSet 6) d (x0 :: x1 :: x2 :: x3 :: x4 :: x5 :: y :: e) K ↔ K (x0 :: x1 :: x2 :: x3 :: x4 :: x5 :: some d :: e) := by
  have h : gSet 6 d (x0 :: x1 :: x2 :: x3 :: x4 :: x5 :: y :: e) = some (x0 :: x1 :: x2 :: x3 :: x4 :: x5 :: some d :: e) := if_pos (by simp only [List.length_cons]; omega)
  exact ⟨fun ⟨_, q, k⟩ => by rw [h] at q; cases q; exact k, fun k => ⟨_, h, k⟩⟩
theorem po_6 {x0 x1 x2 x3 x4 x5 : Option D} {d : D} {e : Env} {K : Env → Prop} : @PutO 6 [d] (x0 :: x1 :: x2 :: x3 :: x4 :: x5 :: none :: e) K ↔ K (x0 :: x1 :: x2 :: x3 :: x4 :: x5 :: some d :: e) := ⟨fun ⟨_, q, h⟩ => by cases q; exact h, fun h => ⟨_, rfl, h⟩⟩
theorem at_7 {x0 x1 x2 x3 x4 x5 x6 : Option D} {d : D} {e : Env} {K : D → Env → Prop} : @At 7 (x0 :: x1 :: x2 :: x3 :: x4 :: x5 :: x6 :: some d :: e) K ↔ K d (x0 :: x1 :: x2 :: x3 :: x4 :: x5 :: x6 :: some d :: e) := ⟨fun ⟨_, q, h⟩ => by cases q; exact h, fun h => ⟨d, rfl, h⟩⟩
theorem tak_7 {x0 x1 x2 x3 x4 x5 x6 : Option D} {d : D} {e : Env} {K : D → Env → Prop} : @Tak 7 (x0 :: x1 :: x2 :: x3 :: x4 :: x5 :: x6 :: some d :: e) K ↔ K d (x0 :: x1 :: x2 :: x3 :: x4 :: x5 :: x6 :: none :: e) := ⟨fun ⟨_, q, h⟩ => by cases q; exact h, fun h => ⟨d, rfl, h⟩⟩
theorem put_7 {x0 x1 x2 x3 x4 x5 x6 : Option D} {y v : Option D} {e : Env} {K : Env → Prop} : @Put 7 v (x0 :: x1 :: x2 :: x3 :: x4 :: x5 :: x6 :: y :: e) K ↔ K (x0 :: x1 :: x2 :: x3 :: x4 :: x5 :: x6 :: v :: e) := Iff.rfl
theorem own_7 {x0 x1 x2 x3 x4 x5 x6 : Option D} {ys : List D} {e : Env} {K : List D → Prop} : @Own 7 (x0 :: x1 :: x2 :: x3 :: x4 :: x5 :: x6 :: some (.lst true ys) :: e) K ↔ K ys := ⟨fun ⟨_, q, h⟩ => by cases q; exact h, fun h => ⟨ys, rfl, h⟩⟩
theorem isl_7 {x0 x1 x2 x3 x4 x5 x6 : Option D} {o : Bool} {ys : List D} {e : Env} {K : Prop} : @IsLs 7 (x0 :: x1 :: x2 :: x3 :: x4 :: x5 :: x6 :: some (.lst o ys) :: e) K ↔ K := ⟨fun h => h.2, fun h => ⟨rfl, h⟩⟩
theorem gg_7 {x0 x1 x2 x3 x4 x5 x6 : Option D} {y : Option D} {d : D} {e : Env} {K : Env → Prop} : @GG (gSet 7) d (x0 :: x1 :: x2 :: x3 :: x4 :: x5 :: x6 :: y :: e) K ↔ K (x0 :: x1 :: x2 :: x3 :: x4 :: x5 :: x6 :: some d :: e) := by
  have h : gSet 7 d (x0 :: x1 :: x2 :: x3 :: x4 :: x5 :: x6 :: y :: e) = some (x0 :: x1 :: x2 :: x3 :: x4 :: x5 :: x6 :: some d :: e) := if_pos (by simp only [List.length_cons]; omega)
  exact ⟨fun ⟨_, q, k⟩ => by rw [h] at q; cases q; exact k, fun k => ⟨_, h, k⟩⟩
theorem po_7 {x0 x1 x2 x3 x4 x5 x6 : Option D} {d : D} {e : Env} {K : Env → Prop} : @PutO 7 [d] (x0 :: x1 :: x2 :: x3 :: x4 :: x5 :: x6 :: none :: e) K ↔ K (x0 :: x1 :: x2 :: x3 :: x4 :: x5 :: x6 :: some d :: e) := ⟨fun ⟨_, q, h⟩ => by cases q; exact h, fun h => ⟨_, rfl, h⟩⟩
theorem at_8 {x0 x1 x2 x3 x4 x5 x6 x7 : Option D} {d : D} {e : Env} {K : D → Env → Prop} : @At 8 (x0 :: x1 :: x2 :: x3 :: x4 :: x5 :: x6 :: x7 :: some d :: e) K ↔ K d (x0 :: x1 :: x2 :: x3 :: x4 :: x5 :: x6 :: x7 :: some d :: e) := ⟨fun ⟨_, q, h⟩ => by cases q; exact h, fun h => ⟨d, rfl, h⟩⟩
theorem tak_8 {x0 x1 x2 x3 x4 x5 x6 x7 : Option D} {d : D} {e : Env} {K : D → Env → Prop} : @Tak 8 (x0 :: x1 :: x2 :: x3 :: x4 :: x5 :: x6 :: x7 :: some d :: e) K ↔ K d (x0 :: x1 :: x2 :: x3 :: x4 :: x5 :: x6 :: x7 :: none :: e) := ⟨fun ⟨_, q, h⟩ => by cases q; exact h, fun h => ⟨d, rfl, h⟩⟩
theorem put_8 {x0 x1 x2 x3 x4 x5 x6 x7 : Option D} {y v : Option D} {e : Env} {K : Env → Prop} : @Put 8 v (x0 :: x1 :: x2 :: x3 :: x4 :: x5 :: x6 :: x7 :: y :: e) K ↔ K (x0 :: x1 :: x2 :: x3 :: x4 :: x5 :: x6 :: x7 :: v :: e) := Iff.rfl
theorem own_8 {x0 x1 x2 x3 x4 x5 x6 x7 : Option D} {ys : List D} {e : Env} {K : List D → Prop} : @Own 8 (x0 :: x1 :: x2 :: x3 :: x4 :: x5 :: x6 :: x7 :: some (.lst true ys) :: e) K ↔ K ys := ⟨fun ⟨_, q, h⟩ => by cases q; exact h, fun h => ⟨ys, rfl, h⟩⟩
theorem isl_8 {x0 x1 x2 x3 x4 x5 x6 x7 : Option D} {o : Bool} {ys : List D} {e : Env} {K : Prop} : @IsLs 8 (x0 :: x1 :: x2 :: x3 :: x4 :: x5 :: x6 :: x7 :: some (.lst o ys) :: e) K ↔ K := ⟨fun h => h.2, fun h => ⟨rfl, h⟩⟩
theorem gg_8 {x0 x1 x2 x3 x4 x5 x6 x7 : Option D} {y : Option D} {d : D} {e : Env} {K : Env → Prop} : @GG (gSet 8) d (x0 :: x1 :: x2 :: x3 :: x4 :: x5 :: x6 :: x7 :: y :: e) K ↔ K (x0 :: x1 :: x2 :: x3 :: x4 :: x5 :: x6 :: x7 :: some d :: e) := by
  have h : gSet 8 d (x0 :: x1 :: x2 :: x3 :: x4 :: x5 :: x6 :: x7 :: y :: e) = some (x0 :: x1 :: x2 :: x3 :: x4 :: x5 :: x6 :: x7 :: some d :: e) := if_pos (by simp only [List.length_cons]; omega)
  exact ⟨fun ⟨_, q, k⟩ => by rw [h] at q; cases q; exact k, fun k => ⟨_, h, k⟩⟩
theorem po_8 {x0 x1 x2 x3 x4 x5 x6 x7 : Option D} {d : D} {e : Env} {K : Env → Prop} : @PutO 8 [d] (x0 :: x1 :: x2 :: x3 :: x4 :: x5 :: x6 :: x7 :: none :: e) K ↔ K (x0 :: x1 :: x2 :: x3 :: x4 :: x5 :: x6 :: x7 :: some d :: e) := ⟨fun ⟨_, q, h⟩ => by cases q; exact h, fun h => ⟨_, rfl, h⟩⟩
theorem at_9 {x0 x1 x2 x3 x4 x5 x6 x7 x8 : Option D} {d : D} {e : Env} {K : D → Env → Prop} : @At 9 (x0 :: x1 :: x2 :: x3 :: x4 :: x5 :: x6 :: x7 :: x8 :: some d :: e) K ↔ K d (x0 :: x1 :: x2 :: x3 :: x4 :: x5 :: x6 :: x7 :: x8 :: some d :: e) := ⟨fun ⟨_, q, h⟩ => by cases q; exact h, fun h => ⟨d, rfl, h⟩⟩
theorem tak_9 {x0 x1 x2 x3 x4 x5 x6 x7 x8 : Option D} {d : D} {e : Env} {K : D → Env → Prop} : @Tak 9 (x0 :: x1 :: x2 :: x3 :: x4 :: x5 :: x6 :: x7 :: x8 :: some d :: e) K ↔ K d (x0 :: x1 :: x2 :: x3 :: x4 :: x5 :: x6 :: x7 :: x8 :: none :: e) := ⟨fun ⟨_, q, h⟩ => by cases q; exact h, fun h => ⟨d, rfl, h⟩⟩
theorem put_9 {x0 x1 x2 x3 x4 x5 x6 x7 x8 : Option D} {y v : Option D} {e : Env} {K : Env → Prop} : @Put 9 v (x0 :: x1 :: x2 :: x3 :: x4 :: x5 :: x6 :: x7 :: x8 :: y :: e) K ↔ K (x0 :: x1 :: x2 :: x3 :: x4 :: x5 :: x6 :: x7 :: x8 :: v :: e) := Iff.rfl
theorem own_9 {x0 x1 x2 x3 x4 x5 x6 x7 x8 : Option D} {ys : List D} {e : Env} {K : List D → Prop} : @Own 9 (x0 :: x1 :: x2 :: x3 :: x4 :: x5 :: x6 :: x7 :: x8 :: some (.lst true ys) :: e) K ↔ K ys := ⟨fun ⟨_, q, h⟩ => by cases q; exact h, fun h => ⟨ys, rfl, h⟩⟩
theorem isl_9 {x0 x1 x2 x3 x4 x5 x6 x7 x8 : Option D} {o : Bool} {ys : List D} {e : Env} {K : Prop} : @IsLs 9 (x0 :: x1 :: x2 :: x3 :: x4 :: x5 :: x6 :: x7 :: x8 :: some (.lst o ys) :: e) K ↔ K := ⟨fun h => h.2, fun h => ⟨rfl, h⟩⟩
theorem gg_9 {x0 x1 x2 x3 x4 x5 x6 x7 x8 : Option D} {y : Option D} {d : D} {e : Env} {K : Env → Prop} : @GG (gSet 9) d (x0 :: x1 :: x2 :: x3 :: x4 :: x5 :: x6 :: x7 :: x8 :: y :: e) K ↔ K (x0 :: x1 :: x2 :: x3 :: x4 :: x5 :: x6 :: x7 :: x8 :: some d :: e) := by
  have h : gSet 9 d (x0 :: x1 :: x2 :: x3 :: x4 :: x5 :: x6 :: x7 :: x8 :: y :: e) = some (x0 :: x1 :: x2 :: x3 :: x4 :: x5 :: x6 :: x7 :: x8 :: some d :: e) := if_pos (by simp only [List.length_cons]; omega)
  exact ⟨fun ⟨_, q, k⟩ => by rw [h] at q; cases q; exact k, fun k => ⟨_, h, k⟩⟩
theorem po_9 {x0 x1 x2 x3 x4 x5 x6 x7 x8 : Option D} {d : D} {e : Env} {K : Env → Prop} : @PutO 9 [d] (x0 :: x1 :: x2 :: x3 :: x4 :: x5 :: x6 :: x7 :: x8 :: none :: e) K ↔ K (x0 :: x1 :: x2 :: x3 :: x4 :: x5 :: x6 :: x7 :: x8 :: some d :: e) := ⟨fun ⟨_, q, h⟩ => by cases q; exact h, fun h => ⟨_, rfl, h⟩⟩
theorem at_10 {x0 x1 x2 x3 x4 x5 x6 x7 x8 x9 : Option D} {d : D} {e : Env} {K : D → Env → Prop} : @At 10 (x0 :: x1 :: x2 :: x3 :: x4 :: x5 :: x6 :: x7 :: x8 :: x9 :: some d :: e) K ↔ K d (x0 :: x1 :: x2 :: x3 :: x4 :: x5 :: x6 :: x7 :: x8 :: x9 :: some d :: e) := ⟨fun ⟨_, q, h⟩ => by cases q; exact h, fun h => ⟨d, rfl, h⟩⟩
theorem tak_10 {x0 x1 x2 x3 x4 x5 x6 x7 x8 x9 : Option D} {d : D} {e : Env} {K : D → Env → Prop} : @Tak 10 (x0 :: x1 :: x2 :: x3 :: x4 :: x5 :: x6 :: x7 :: x8 :: x9 :: some d :: e) K ↔ K d (x0 :: x1 :: x2 :: x3 :: x4 :: x5 :: x6 :: x7 :: x8 :: x9 :: none :: e) := ⟨fun ⟨_, q, h⟩ => by cases q; exact h, fun h => ⟨d, rfl, h⟩⟩
theorem put_10 {x0 x1 x2 x3 x4 x5 x6 x7 x8 x9 : Option D} {y v : Option D} {e : Env} {K : Env → Prop} : @Put 10 v (x0 :: x1 :: x2 :: x3 :: x4 :: x5 :: x6 :: x7 :: x8 :: x9 :: y :: e) K ↔ K (x0 :: x1 :: x2 :: x3 :: x4 :: x5 :: x6 :: x7 :: x8 :: x9 :: v :: e) := Iff.rfl
theorem own_10 {x0 x1 x2 x3 x4 x5 x6 x7 x8 x9 : Option D} {ys : List D} {e : Env} {K : List D → Prop} : @Own 10 (x0 :: x1 :: x2 :: x3 :: x4 :: x5 :: x6 :: x7 :: x8 :: x9 :: some (.lst true ys) :: e) K ↔ K ys := ⟨fun ⟨_, q, h⟩ => by cases q; exact h, fun h => ⟨ys, rfl, h⟩⟩
theorem isl_10 {x0 x1 x2 x3 x4 x5 x6 x7 x8 x9 : Option D} {o : Bool} {ys : List D} {e : Env} {K : Prop} : @IsLs 10 (x0 :: x1 :: x2 :: x3 :: x4 :: x5 :: x6 :: x7 :: x8 :: x9 :: some (.lst o ys) :: e) K ↔ K := ⟨fun h => h.2, fun h => ⟨rfl, h⟩⟩
theorem gg_10 {x0 x1 x2 x3 x4 x5 x6 x7 x8 x9 : Option D} {y : Option D} {d : D} {e : Env} {K : Env → Prop} : @GG (gSet 10) d (x0 :: x1 :: x2 :: x3 :: x4 :: x5 :: x6 :: x7 :: x8 :: x9 :: y :: e) K ↔ K (x0 :: x1 :: x2 :: x3 :: x4 :: x5 :: x6 :: x7 :: x8 :: x9 :: some d :: e) := by
  have h : gSet 10 d (x0 :: x1 :: x2 :: x3 :: x4 :: x5 :: x6 :: x7 :: x8 :: x9 :: y :: e) = some (x0 :: x1 :: x2 :: x3 :: x4 :: x5 :: x6 :: x7 :: x8 :: x9 :: some d :: e) := if_pos (by simp only [List.length_cons]; omega)
  exact ⟨fun ⟨_, q, k⟩ => by rw [h] at q; cases q; exact k, fun k => ⟨_, h, k⟩⟩
theorem po_10 {x0 x1 x2 x3 x4 x5 x6 x7 x8 x9 : Option D} {d : D} {e : Env} {K : Env → Prop} : @PutO 10 [d] (x0 :: x1 :: x2 :: x3 :: x4 :: x5 :: x6 :: x7 :: x8 :: x9 :: none :: e) K ↔ K (x0 :: x1 :: x2 :: x3 :: x4 :: x5 :: x6 :: x7 :: x8 :: x9 :: some d :: e) := ⟨fun ⟨_, q, h⟩ => by cases q; exact h, fun h => ⟨_, rfl, h⟩⟩
theorem at_11 {x0 x1 x2 x3 x4 x5 x6 x7 x8 x9 x10 : Option D} {d : D} {e : Env} {K : D → Env → Prop} : @At 11 (x0 :: x1 :: x2 :: x3 :: x4 :: x5 :: x6 :: x7 :: x8 :: x9 :: x10 :: some d :: e) K ↔ K d (x0 :: x1 :: x2 :: x3 :: x4 :: x5 :: x6 :: x7 :: x8 :: x9 :: x10 :: some d :: e) := ⟨fun ⟨_, q, h⟩ => by cases q; exact h, fun h => ⟨d, rfl, h⟩⟩
theorem tak_11 {x0 x1 x2 x3 x4 x5 x6 x7 x8 x9 x10 : Option D} {d : D} {e : Env} {K : D → Env → Prop} : @Tak 11 (x0 :: x1 :: x2 :: x3 :: x4 :: x5 :: x6 :: x7 :: x8 :: x9 :: x10 :: some d :: e) K ↔ K d (x0 :: x1 :: x2 :: x3 :: x4 :: x5 :: x6 :: x7 :: x8 :: x9 :: x10 :: none :: e) := ⟨fun ⟨_, q, h⟩ => by cases q; exact h, fun h => ⟨d, rfl, h⟩⟩
theorem put_11 {x0 x1 x2 x3 x4 x5 x6 x7 x8 x9 x10 : Option D} {y v : Option D} {e : Env} {K : Env → Prop} : @Put 11 v (x0 :: x1 :: x2 :: x3 :: x4 :: x5 :: x6 :: x7 :: x8 :: x9 :: x10 :: y :: e) K ↔ K (x0 :: x1 :: x2 :: x3 :: x4 :: x5 :: x6 :: x7 :: x8 :: x9 :: x10 :: v :: e) := Iff.rfl
theorem own_11 {x0 x1 x2 x3 x4 x5 x6 x7 x8 x9 x10 : Option D} {ys : List D} {e : Env} {K : List D → Prop} : @Own 11 (x0 :: x1 :: x2 :: x3 :: x4 :: x5 :: x6 :: x7 :: x8 :: x9 :: x10 :: some (.lst true ys) :: e) K ↔ K ys := ⟨fun ⟨_, q, h⟩ => by cases q; exact h, fun h => ⟨ys, rfl, h⟩⟩
theorem isl_11 {x0 x1 x2 x3 x4 x5 x6 x7 x8 x9 x10 : Option D} {o : Bool} {ys : List D} {e : Env} {K : Prop} : @IsLs 11 (x0 :: x1 :: x2 :: x3 :: x4 :: x5 :: x6 :: x7 :: x8 :: x9 :: x10 :: some (.lst o ys) :: e) K ↔ K := ⟨fun h => h.2, fun h => ⟨rfl, h⟩⟩
theorem gg_11 {x0 x1 x2 x3 x4 x5 x6 x7 x8 x9 x10 : Option D} {y : Option D} {d : D} {e : Env} {K : Env → Prop} : @GG (gSet 11) d (x0 :: x1 :: x2 :: x3 :: x4 :: x5 :: x6 :: x7 :: x8 :: x9 :: x10 :: y :: e) K ↔ K (x0 :: x1 :: x2 :: x3 :: x4 :: x5 :: x6 :: x7 :: x8 :: x9 :: x10 :: some d :: e) := by
  have h : gSet 11 d (x0 :: x1 :: x2 :: x3 :: x4 :: x5 :: x6 :: x7 :: x8 :: x9 :: x10 :: y :: e) = some (x0 :: x1 :: x2 :: x3 :: x4 :: x5 :: x6 :: x7 :: x8 :: x9 :: x10 :: some d :: e) := if_pos (by simp only [List.length_cons]; omega)
  exact ⟨fun ⟨_, q, k⟩ => by rw [h] at q; cases q; exact k, fun k => ⟨_, h, k⟩⟩
theorem po_11 {x0 x1 x2 x3 x4 x5 x6 x7 x8 x9 x10 : Option D} {d : D} {e : Env} {K : Env → Prop} : @PutO 11 [d] (x0 :: x1 :: x2 :: x3 :: x4 :: x5 :: x6 :: x7 :: x8 :: x9 :: x10 :: none :: e) K ↔ K (x0 :: x1 :: x2 :: x3 :: x4 :: x5 :: x6 :: x7 :: x8 :: x9 :: x10 :: some d :: e) := ⟨fun ⟨_, q, h⟩ => by cases q; exact h, fun h => ⟨_, rfl, h⟩⟩
theorem at_12 {x0 x1 x2 x3 x4 x5 x6 x7 x8 x9 x10 x11 : Option D} {d : D} {e : Env} {K : D → Env → Prop} : @At 12 (x0 :: x1 :: x2 :: x3 :: x4 :: x5 :: x6 :: x7 :: x8 :: x9 :: x10 :: x11 :: some d :: e) K ↔ K d (x0 :: x1 :: x2 :: x3 :: x4 :: x5 :: x6 :: x7 :: x8 :: x9 :: x10 :: x11 :: some d :: e) := ⟨fun ⟨_, q, h⟩ => by cases q; exact h, fun h => ⟨d, rfl, h⟩⟩
theorem tak_12 {x0 x1 x2 x3 x4 x5 x6 x7 x8 x9 x10 x11 : Option D} {d : D} {e : Env} {K : D → Env → Prop} : @Tak 12 (x0 :: x1 :: x2 :: x3 :: x4 :: x5 :: x6 :: x7 :: x8 :: x9 :: x10 :: x11 :: some d :: e) K ↔ K d (x0 :: x1 :: x2 :: x3 :: x4 :: x5 :: x6 :: x7 :: x8 :: x9 :: x10 :: x11 :: none :: e) := ⟨fun ⟨_, q, h⟩ => by cases q; exact h, fun h => ⟨d, rfl, h⟩⟩
theorem put_12 {x0 x1 x2 x3 x4 x5 x6 x7 x8 x9 x10 x11 : Option D} {y v : Option D} {e : Env} {K : Env → Prop} : @Put 12 v (x0 :: x1 :: x2 :: x3 :: x4 :: x5 :: x6 :: x7 :: x8 :: x9 :: x10 :: x11 :: y :: e) K ↔ K (x0 :: x1 :: x2 :: x3 :: x4 :: x5 :: x6 :: x7 :: x8 :: x9 :: x10 :: x11 :: v :: e) := Iff.rfl
theorem own_12 {x0 x1 x2 x3 x4 x5 x6 x7 x8 x9 x10 x11 : Option D} {ys : List D} {e : Env} {K : List D → Prop} : @Own 12 (x0 :: x1 :: x2 :: x3 :: x4 :: x5 :: x6 :: x7 :: x8 :: x9 :: x10 :: x11 :: some (.lst true ys) :: e) K ↔ K ys := ⟨fun ⟨_, q, h⟩ => by cases q; exact h, fun h => ⟨ys, rfl, h⟩⟩
theorem isl_12 {x0 x1 x2 x3 x4 x5 x6 x7 x8 x9 x10 x11 : Option D} {o : Bool} {ys : List D} {e : Env} {K : Prop} : @IsLs 12 (x0 :: x1 :: x2 :: x3 :: x4 :: x5 :: x6 :: x7 :: x8 :: x9 :: x10 :: x11 :: some (.lst o ys) :: e) K ↔ K := ⟨fun h => h.2, fun h => ⟨rfl, h⟩⟩
theorem gg_12 {x0 x1 x2 x3 x4 x5 x6 x7 x8 x9 x10 x11 : Option D} {y : Option D} {d : D} {e : Env} {K : Env → Prop} : @GG (gSet 12) d (x0 :: x1 :: x2 :: x3 :: x4 :: x5 :: x6 :: x7 :: x8 :: x9 :: x10 :: x11 :: y :: e) K ↔ K (x0 :: x1 :: x2 :: x3 :: x4 :: x5 :: x6 :: x7 :: x8 :: x9 :: x10 :: x11 :: some d :: e) := by
  have h : gSet 12 d (x0 :: x1 :: x2 :: x3 :: x4 :: x5 :: x6 :: x7 :: x8 :: x9 :: x10 :: x11 :: y :: e) = some (x0 :: x1 :: x2 :: x3 :: x4 :: x5 :: x6 :: x7 :: x8 :: x9 :: x10 :: x11 :: some d :: e) := if_pos (by simp only [List.length_cons]; omega)
  exact ⟨fun ⟨_, q, k⟩ => by rw [h] at q; cases q; exact k, fun k => ⟨_, h, k⟩⟩
theorem po_12 {x0 x1 x2 x3 x4 x5 x6 x7 x8 x9 x10 x11 : Option D} {d : D} {e : Env} {K : Env → Prop} : @PutO 12 [d] (x0 :: x1 :: x2 :: x3 :: x4 :: x5 :: x6 :: x7 :: x8 :: x9 :: x10 :: x11 :: none :: e) K ↔ K (x0 :: x1 :: x2 :: x3 :: x4 :: x5 :: x6 :: x7 :: x8 :: x9 :: x10 :: x11 :: some d :: e) := ⟨fun ⟨_, q, h⟩ => by cases q; exact h, fun h => ⟨_, rfl, h⟩⟩
theorem at_13 {x0 x1 x2 x3 x4 x5 x6 x7 x8 x9 x10 x11 x12 : Option D} {d : D} {e : Env} {K : D → Env → Prop} : @At 13 (x0 :: x1 :: x2 :: x3 :: x4 :: x5 :: x6 :: x7 :: x8 :: x9 :: x10 :: x11 :: x12 :: some d :: e) K ↔ K d (x0 :: x1 :: x2 :: x3 :: x4 :: x5 :: x6 :: x7 :: x8 :: x9 :: x10 :: x11 :: x12 :: some d :: e) := ⟨fun ⟨_, q, h⟩ => by cases q; exact h, fun h => ⟨d, rfl, h⟩⟩
theorem tak_13 {x0 x1 x2 x3 x4 x5 x6 x7 x8 x9 x10 x11 x12 : Option D} {d : D} {e : Env} {K : D → Env → Prop} : @Tak 13 (x0 :: x1 :: x2 :: x3 :: x4 :: x5 :: x6 :: x7 :: x8 :: x9 :: x10 :: x11 :: x12 :: some d :: e) K ↔ K d (x0 :: x1 :: x2 :: x3 :: x4 :: x5 :: x6 :: x7 :: x8 :: x9 :: x10 :: x11 :: x12 :: none :: e) := ⟨fun ⟨_, q, h⟩ => by cases q; exact h, fun h => ⟨d, rfl, h⟩⟩
theorem put_13 {x0 x1 x2 x3 x4 x5 x6 x7 x8 x9 x10 x11 x12 : Option D} {y v : Option D} {e : Env} {K : Env → Prop} : @Put 13 v (x0 :: x1 :: x2 :: x3 :: x4 :: x5 :: x6 :: x7 :: x8 :: x9 :: x10 :: x11 :: x12 :: y :: e) K ↔ K (x0 :: x1 :: x2 :: x3 :: x4 :: x5 :: x6 :: x7 :: x8 :: x9 :: x10 :: x11 :: x12 :: v :: e) := Iff.rfl
theorem own_13 {x0 x1 x2 x3 x4 x5 x6 x7 x8 x9 x10 x11 x12 : Option D} {ys : List D} {e : Env} {K : List D → Prop} : @Own 13 (x0 :: x1 :: x2 :: x3 :: x4 :: x5 :: x6 :: x7 :: x8 :: x9 :: x10 :: x11 :: x12 :: some (.lst true ys) :: e) K ↔ K ys := ⟨fun ⟨_, q, h⟩ => by cases q; exact h, fun h => ⟨ys, rfl, h⟩⟩
theorem isl_13 {x0 x1 x2 x3 x4 x5 x6 x7 x8 x9 x10 x11 x12 : Option D} {o : Bool} {ys : List D} {e : Env} {K : Prop} : @IsLs 13 (x0 :: x1 :: x2 :: x3 :: x4 :: x5 :: x6 :: x7 :: x8 :: x9 :: x10 :: x11 :: x12 :: some (.lst o ys) :: e) K ↔ K := ⟨fun h => h.2, fun h => ⟨rfl, h⟩⟩
theorem gg_13 {x0 x1 x2 x3 x4 x5 x6 x7 x8 x9 x10 x11 x12 : Option D} {y : Option D} {d : D} {e : Env} {K : Env → Prop} : @GG (gSet 13) d (x0 :: x1 :: x2 :: x3 :: x4 :: x5 :: x6 :: x7 :: x8 :: x9 :: x10 :: x11 :: x12 :: y :: e) K ↔ K (x0 :: x1 :: x2 :: x3 :: x4 :: x5 :: x6 :: x7 :: x8 :: x9 :: x10 :: x11 :: x12 :: some d :: e) := by
  have h : gSet 13 d (x0 :: x1 :: x2 :: x3 :: x4 :: x5 :: x6 :: x7 :: x8 :: x9 :: x10 :: x11 :: x12 :: y :: e) = some (x0 :: x1 :: x2 :: x3 :: x4 :: x5 :: x6 :: x7 :: x8 :: x9 :: x10 :: x11 :: x12 :: some d :: e) := if_pos (by simp only [List.length_cons]; omega)
  exact ⟨fun ⟨_, q, k⟩ => by rw [h] at q; cases q; exact k, fun k => ⟨_, h, k⟩⟩
theorem po_13 {x0 x1 x2 x3 x4 x5 x6 x7 x8 x9 x10 x11 x12 : Option D} {d : D} {e : Env} {K : Env → Prop} : @PutO 13 [d] (x0 :: x1 :: x2 :: x3 :: x4 :: x5 :: x6 :: x7 :: x8 :: x9 :: x10 :: x11 :: x12 :: none :: e) K ↔ K (x0 :: x1 :: x2 :: x3 :: x4 :: x5 :: x6 :: x7 :: x8 :: x9 :: x10 :: x11 :: x12 :: some d :: e) := ⟨fun ⟨_, q, h⟩ => by cases q; exact h, fun h => ⟨_, rfl, h⟩⟩
theorem at_14 {x0 x1 x2 x3 x4 x5 x6 x7 x8 x9 x10 x11 x12 x13 : Option D} {d : D} {e : Env} {K : D → Env → Prop} : @At 14 (x0 :: x1 :: x2 :: x3 :: x4 :: x5 :: x6 :: x7 :: x8 :: x9 :: x10 :: x11 :: x12 :: x13 :: some d :: e) K ↔ K d (x0 :: x1 :: x2 :: x3 :: x4 :: x5 :: x6 :: x7 :: x8 :: x9 :: x10 :: x11 :: x12 :: x13 :: some d :: e) := ⟨fun ⟨_, q, h⟩ => by cases q; exact h, fun h => ⟨d, rfl, h⟩⟩
theorem tak_14 {x0 x1 x2 x3 x4 x5 x6 x7 x8 x9 x10 x11 x12 x13 : Option D} {d : D} {e : Env} {K : D → Env → Prop} : @Tak 14 (x0 :: x1 :: x2 :: x3 :: x4 :: x5 :: x6 :: x7 :: x8 :: x9 :: x10 :: x11 :: x12 :: x13 :: some d :: e) K ↔ K d (x0 :: x1 :: x2 :: x3 :: x4 :: x5 :: x6 :: x7 :: x8 :: x9 :: x10 :: x11 :: x12 :: x13 :: none :: e) := ⟨fun ⟨_, q, h⟩ => by cases q; exact h, fun h => ⟨d, rfl, h⟩⟩
theorem put_14 {x0 x1 x2 x3 x4 x5 x6 x7 x8 x9 x10 x11 x12 x13 : Option D} {y v : Option D} {e : Env} {K : Env → Prop} : @Put 14 v (x0 :: x1 :: x2 :: x3 :: x4 :: x5 :: x6 :: x7 :: x8 :: x9 :: x10 :: x11 :: x12 :: x13 :: y :: e) K ↔ K (x0 :: x1 :: x2 :: x3 :: x4 :: x5 :: x6 :: x7 :: x8 :: x9 :: x10 :: x11 :: x12 :: x13 :: v :: e) := Iff.rfl
theorem own_14 {x0 x1 x2 x3 x4 x5 x6 x7 x8 x9 x10 x11 x12 x13 : Option D} {ys : List D} {e : Env} {K : List D → Prop} : @Own 14 (x0 :: x1 :: x2 :: x3 :: x4 :: x5 :: x6 :: x7 :: x8 :: x9 :: x10 :: x11 :: x12 :: x13 :: some (.lst true ys) :: e) K ↔ K ys := ⟨fun ⟨_, q, h⟩ => by cases q; exact h, fun h => ⟨ys, rfl, h⟩⟩
theorem isl_14 {x0 x1 x2 x3 x4 x5 x6 x7 x8 x9 x10 x11 x12 x13 : Option D} {o : Bool} {ys : List D} {e : Env} {K : Prop} : @IsLs 14 (x0 :: x1 :: x2 :: x3 :: x4 :: x5 :: x6 :: x7 :: x8 :: x9 :: x10 :: x11 :: x12 :: x13 :: some (.lst o ys) :: e) K ↔ K := ⟨fun h => h.2, fun h => ⟨rfl, h⟩⟩
theorem gg_14 {x0 x1 x2 x3 x4 x5 x6 x7 x8 x9 x10 x11 x12 x13 : Option D} {y : Option D} {d : D} {e : Env} {K : Env → Prop} : @GG (gSet 14) d (x0 :: x1 :: x2 :: x3 :: x4 :: x5 :: x6 :: x7 :: x8 :: x9 :: x10 :: x11 :: x12 :: x13 :: y :: e) K ↔ K (x0 :: x1 :: x2 :: x3 :: x4 :: x5 :: x6 :: x7 :: x8 :: x9 :: x10 :: x11 :: x12 :: x13 :: some d :: e) := by
  have h : gSet 14 d (x0 :: x1 :: x2 :: x3 :: x4 :: x5 :: x6 :: x7 :: x8 :: x9 :: x10 :: x11 :: x12 :: x13 :: y :: e) = some (x0 :: x1 :: x2 :: x3 :: x4 :: x5 :: x6 :: x7 :: x8 :: x9 :: x10 :: x11 :: x12 :: x13 :: some d :: e) := if_pos (by simp only [List.length_cons]; omega)
  exact ⟨fun ⟨_, q, k⟩ => by rw [h] at q; cases q; exact k, fun k => ⟨_, h, k⟩⟩
theorem po_14 {x0 x1 x2 x3 x4 x5 x6 x7 x8 x9 x10 x11 x12 x13 : Option D} {d : D} {e : Env} {K : Env → Prop} : @PutO 14 [d] (x0 :: x1 :: x2 :: x3 :: x4 :: x5 :: x6 :: x7 :: x8 :: x9 :: x10 :: x11 :: x12 :: x13 :: none :: e) K ↔ K (x0 :: x1 :: x2 :: x3 :: x4 :: x5 :: x6 :: x7 :: x8 :: x9 :: x10 :: x11 :: x12 :: x13 :: some d :: e) := ⟨fun ⟨_, q, h⟩ => by cases q; exact h, fun h => ⟨_, rfl, h⟩⟩
theorem at_15 {x0 x1 x2 x3 x4 x5 x6 x7 x8 x9 x10 x11 x12 x13 x14 : Option D} {d : D} {e : Env} {K : D → Env → Prop} : @At 15 (x0 :: x1 :: x2 :: x3 :: x4 :: x5 :: x6 :: x7 :: x8 :: x9 :: x10 :: x11 :: x12 :: x13 :: x14 :: some d :: e) K ↔ K d (x0 :: x1 :: x2 :: x3 :: x4 :: x5 :: x6 :: x7 :: x8 :: x9 :: x10 :: x11 :: x12 :: x13 :: x14 :: some d :: e) := ⟨fun ⟨_, q, h⟩ => by cases q; exact h, fun h => ⟨d, rfl, h⟩⟩
theorem tak_15 {x0 x1 x2 x3 x4 x5 x6 x7 x8 x9 x10 x11 x12 x13 x14 : Option D} {d : D} {e : Env} {K : D → Env → Prop} : @Tak 15 (x0 :: x1 :: x2 :: x3 :: x4 :: x5 :: x6 :: x7 :: x8 :: x9 :: x10 :: x11 :: x12 :: x13 :: x14 :: some d :: e) K ↔ K d (x0 :: x1 :: x2 :: x3 :: x4 :: x5 :: x6 :: x7 :: x8 :: x9 :: x10 :: x11 :: x12 :: x13 :: x14 :: none :: e) := ⟨fun ⟨_, q, h⟩ => by cases q; exact h, fun h => ⟨d, rfl, h⟩⟩
theorem put_15 {x0 x1 x2 x3 x4 x5 x6 x7 x8 x9 x10 x11 x12 x13 x14 : Option D} {y v : Option D} {e : Env} {K : Env → Prop} : @Put 15 v (x0 :: x1 :: x2 :: x3 :: x4 :: x5 :: x6 :: x7 :: x8 :: x9 :: x10 :: x11 :: x12 :: x13 :: x14 :: y :: e) K ↔ K (x0 :: x1 :: x2 :: x3 :: x4 :: x5 :: x6 :: x7 :: x8 :: x9 :: x10 :: x11 :: x12 :: x13 :: x14 :: v :: e) := Iff.rfl
theorem own_15 {x0 x1 x2 x3 x4 x5 x6 x7 x8 x9 x10 x11 x12 x13 x14 : Option D} {ys : List D} {e : Env} {K : List D → Prop} : @Own 15 (x0 :: x1 :: x2 :: x3 :: x4 :: x5 :: x6 :: x7 :: x8 :: x9 :: x10 :: x11 :: x12 :: x13 :: x14 :: some (.lst true ys) :: e) K ↔ K ys := ⟨fun ⟨_, q, h⟩ => by cases q; exact h, fun h => ⟨ys, rfl, h⟩⟩
theorem isl_15 {x0 x1 x2 x3 x4 x5 x6 x7 x8 x9 x10 x11 x12 x13 x14 : Option D} {o : Bool} {ys : List D} {e : Env} {K : Prop} : @IsLs 15 (x0 :: x1 :: x2 :: x3 :: x4 :: x5 :: x6 :: x7 :: x8 :: x9 :: x10 :: x11 :: x12 :: x13 :: x14 :: some (.lst o ys) :: e) K ↔ K := ⟨fun h => h.2, fun h => ⟨rfl, h⟩⟩
theorem gg_15 {x0 x1 x2 x3 x4 x5 x6 x7 x8 x9 x10 x11 x12 x13 x14 : Option D} {y : Option D} {d : D} {e : Env} {K : Env → Prop} : @GG (gSet 15) d (x0 :: x1 :: x2 :: x3 :: x4 :: x5 :: x6 :: x7 :: x8 :: x9 :: x10 :: x11 :: x12 :: x13 :: x14 :: y :: e) K ↔ K (x0 :: x1 :: x2 :: x3 :: x4 :: x5 :: x6 :: x7 :: x8 :: x9 :: x10 :: x11 :: x12 :: x13 :: x14 :: some d :: e) := by
  have h : gSet 15 d (x0 :: x1 :: x2 :: x3 :: x4 :: x5 :: x6 :: x7 :: x8 :: x9 :: x10 :: x11 :: x12 :: x13 :: x14 :: y :: e) = some (x0 :: x1 :: x2 :: x3 :: x4 :: x5 :: x6 :: x7 :: x8 :: x9 :: x10 :: x11 :: x12 :: x13 :: x14 :: some d :: e) := if_pos (by simp only [List.length_cons]; omega)
  exact ⟨fun ⟨_, q, k⟩ => by rw [h] at q; cases q; exact k, fun k => ⟨_, h, k⟩⟩
theorem po_15 {x0 x1 x2 x3 x4 x5 x6 x7 x8 x9 x10 x11 x12 x13 x14 : Option D} {d : D} {e : Env} {K : Env → Prop} : @PutO 15 [d] (x0 :: x1 :: x2 :: x3 :: x4 :: x5 :: x6 :: x7 :: x8 :: x9 :: x10 :: x11 :: x12 :: x13 :: x14 :: none :: e) K ↔ K (x0 :: x1 :: x2 :: x3 :: x4 :: x5 :: x6 :: x7 :: x8 :: x9 :: x10 :: x11 :: x12 :: x13 :: x14 :: some d :: e) := ⟨fun ⟨_, q, h⟩ => by cases q; exact h, fun h => ⟨_, rfl, h⟩⟩
theorem at_16 {x0 x1 x2 x3 x4 x5 x6 x7 x8 x9 x10 x11 x12 x13 x14 x15 : Option D} {d : D} {e : Env} {K : D → Env → Prop} : @At 16 (x0 :: x1 :: x2 :: x3 :: x4 :: x5 :: x6 :: x7 :: x8 :: x9 :: x10 :: x11 :: x12 :: x13 :: x14 :: x15 :: some d :: e) K ↔ K d (x0 :: x1 :: x2 :: x3 :: x4 :: x5 :: x6 :: x7 :: x8 :: x9 :: x10 :: x11 :: x12 :: x13 :: x14 :: x15 :: some d :: e) := ⟨fun ⟨_, q, h⟩ => by cases q; exact h, fun h => ⟨d, rfl, h⟩⟩
theorem tak_16 {x0 x1 x2 x3 x4 x5 x6 x7 x8 x9 x10 x11 x12 x13 x14 x15 : Option D} {d : D} {e : Env} {K : D → Env → Prop} : @Tak 16 (x0 :: x1 :: x2 :: x3 :: x4 :: x5 :: x6 :: x7 :: x8 :: x9 :: x10 :: x11 :: x12 :: x13 :: x14 :: x15 :: some d :: e) K ↔ K d (x0 :: x1 :: x2 :: x3 :: x4 :: x5 :: x6 :: x7 :: x8 :: x9 :: x10 :: x11 :: x12 :: x13 :: x14 :: x15 :: none :: e) := ⟨fun ⟨_, q, h⟩ => by cases q; exact h, fun h => ⟨d, rfl, h⟩⟩
theorem put_16 {x0 x1 x2 x3 x4 x5 x6 x7 x8 x9 x10 x11 x12 x13 x14 x15 : Option D} {y v : Option D} {e : Env} {K : Env → Prop} : @Put 16 v (x0 :: x1 :: x2 :: x3 :: x4 :: x5 :: x6 :: x7 :: x8 :: x9 :: x10 :: x11 :: x12 :: x13 :: x14 :: x15 :: y :: e) K ↔ K (x0 :: x1 :: x2 :: x3 :: x4 :: x5 :: x6 :: x7 :: x8 :: x9 :: x10 :: x11 :: x12 :: x13 :: x14 :: x15 :: v :: e) := Iff.rfl
theorem own_16 {x0 x1 x2 x3 x4 x5 x6 x7 x8 x9 x10 x11 x12 x13 x14 x15 : Option D} {ys : List D} {e : Env} {K : List D → Prop} : @Own 16 (x0 :: x1 :: x2 :: x3 :: x4 :: x5 :: x6 :: x7 :: x8 :: x9 :: x10 :: x11 :: x12 :: x13 :: x14 :: x15 :: some (.lst true ys) :: e) K ↔ K ys := ⟨fun ⟨_, q, h⟩ => by cases q; exact h, fun h => ⟨ys, rfl, h⟩⟩
theorem isl_16 {x0 x1 x2 x3 x4 x5 x6 x7 x8 x9 x10 x11 x12 x13 x14 x15 : Option D} {o : Bool} {ys : List D} {e : Env} {K : Prop} : @IsLs 16 (x0 :: x1 :: x2 :: x3 :: x4 :: x5 :: x6 :: x7 :: x8 :: x9 :: x10 :: x11 :: x12 :: x13 :: x14 :: x15 :: some (.lst o ys) :: e) K ↔ K := ⟨fun h => h.2, fun h => ⟨rfl, h⟩⟩
theorem gg_16 {x0 x1 x2 x3 x4 x5 x6 x7 x8 x9 x10 x11 x12 x13 x14 x15 : Option D} {y : Option D} {d : D} {e : Env} {K : Env → Prop} : @GG (gSet 16) d (x0 :: x1 :: x2 :: x3 :: x4 :: x5 :: x6 :: x7 :: x8 :: x9 :: x10 :: x11 :: x12 :: x13 :: x14 :: x15 :: y :: e) K ↔ K (x0 :: x1 :: x2 :: x3 :: x4 :: x5 :: x6 :: x7 :: x8 :: x9 :: x10 :: x11 :: x12 :: x13 :: x14 :: x15 :: some d :: e) := by
  have h : gSet 16 d (x0 :: x1 :: x2 :: x3 :: x4 :: x5 :: x6 :: x7 :: x8 :: x9 :: x10 :: x11 :: x12 :: x13 :: x14 :: x15 :: y :: e) = some (x0 :: x1 :: x2 :: x3 :: x4 :: x5 :: x6 :: x7 :: x8 :: x9 :: x10 :: x11 :: x12 :: x13 :: x14 :: x15 :: some d :: e) := if_pos (by simp only [List.length_cons]; omega)
  exact ⟨fun ⟨_, q, k⟩ => by rw [h] at q; cases q; exact k, fun k => ⟨_, h, k⟩⟩
theorem po_16 {x0 x1 x2 x3 x4 x5 x6 x7 x8 x9 x10 x11 x12 x13 x14 x15 : Option D} {d : D} {e : Env} {K : Env → Prop} : @PutO 16 [d] (x0 :: x1 :: x2 :: x3 :: x4 :: x5 :: x6 :: x7 :: x8 :: x9 :: x10 :: x11 :: x12 :: x13 :: x14 :: x15 :: none :: e) K ↔ K (x0 :: x1 :: x2 :: x3 :: x4 :: x5 :: x6 :: x7 :: x8 :: x9 :: x10 :: x11 :: x12 :: x13 :: x14 :: x15 :: some d :: e) := ⟨fun ⟨_, q, h⟩ => by cases q; exact h, fun h => ⟨_, rfl, h⟩⟩
theorem at_17 {x0 x1 x2 x3 x4 x5 x6 x7 x8 x9 x10 x11 x12 x13 x14 x15 x16 : Option D} {d : D} {e : Env} {K : D → Env → Prop} : @At 17 (x0 :: x1 :: x2 :: x3 :: x4 :: x5 :: x6 :: x7 :: x8 :: x9 :: x10 :: x11 :: x12 :: x13 :: x14 :: x15 :: x16 :: some d :: e) K ↔ K d (x0 :: x1 :: x2 :: x3 :: x4 :: x5 :: x6 :: x7 :: x8 :: x9 :: x10 :: x11 :: x12 :: x13 :: x14 :: x15 :: x16 :: some d :: e) := ⟨fun ⟨_, q, h⟩ => by cases q; exact h, fun h => ⟨d, rfl, h⟩⟩
theorem tak_17 {x0 x1 x2 x3 x4 x5 x6 x7 x8 x9 x10 x11 x12 x13 x14 x15 x16 : Option D} {d : D} {e : Env} {K : D → Env → Prop} : @Tak 17 (x0 :: x1 :: x2 :: x3 :: x4 :: x5 :: x6 :: x7 :: x8 :: x9 :: x10 :: x11 :: x12 :: x13 :: x14 :: x15 :: x16 :: some d :: e) K ↔ K d (x0 :: x1 :: x2 :: x3 :: x4 :: x5 :: x6 :: x7 :: x8 :: x9 :: x10 :: x11 :: x12 :: x13 :: x14 :: x15 :: x16 :: none :: e) := ⟨fun ⟨_, q, h⟩ => by cases q; exact h, fun h => ⟨d, rfl, h⟩⟩
theorem put_17 {x0 x1 x2 x3 x4 x5 x6 x7 x8 x9 x10 x11 x12 x13 x14 x15 x16 : Option D} {y v : Option D} {e : Env} {K : Env → Prop} : @Put 17 v (x0 :: x1 :: x2 :: x3 :: x4 :: x5 :: x6 :: x7 :: x8 :: x9 :: x10 :: x11 :: x12 :: x13 :: x14 :: x15 :: x16 :: y :: e) K ↔ K (x0 :: x1 :: x2 :: x3 :: x4 :: x5 :: x6 :: x7 :: x8 :: x9 :: x10 :: x11 :: x12 :: x13 :: x14 :: x15 :: x16 :: v :: e) := Iff.rfl
theorem own_17 {x0 x1 x2 x3 x4 x5 x6 x7 x8 x9 x10 x11 x12 x13 x14 x15 x16 : Option D} {ys : List D} {e : Env} {K : List D → Prop} : @Own 17 (x0 :: x1 :: x2 :: x3 :: x4 :: x5 :: x6 :: x7 :: x8 :: x9 :: x10 :: x11 :: x12 :: x13 :: x14 :: x15 :: x16 :: some (.lst true ys) :: e) K ↔ K ys := ⟨fun ⟨_, q, h⟩ => by cases q; exact h, fun h => ⟨ys, rfl, h⟩⟩
theorem isl_17 {x0 x1 x2 x3 x4 x5 x6 x7 x8 x9 x10 x11 x12 x13 x14 x15 x16 : Option D} {o : Bool} {ys : List D} {e : Env} {K : Prop} : @IsLs 17 (x0 :: x1 :: x2 :: x3 :: x4 :: x5 :: x6 :: x7 :: x8 :: x9 :: x10 :: x11 :: x12 :: x13 :: x14 :: x15 :: x16 :: some (.lst o ys) :: e) K ↔ K := ⟨fun h => h.2, fun h => ⟨rfl, h⟩⟩
theorem gg_17 {x0 x1 x2 x3 x4 x5 x6 x7 x8 x9 x10 x11 x12 x13 x14 x15 x16 : Option D} {y : Option D} {d : D} {e : Env} {K : Env → Prop} : @GG (gSet 17) d (x0 :: x1 :: x2 :: x3 :: x4 :: x5 :: x6 :: x7 :: x8 :: x9 :: x10 :: x11 :: x12 :: x13 :: x14 :: x15 :: x16 :: y :: e) K ↔ K (x0 :: x1 :: x2 :: x3 :: x4 :: x5 :: x6 :: x7 :: x8 :: x9 :: x10 :: x11 :: x12 :: x13 :: x14 :: x15 :: x16 :: some d :: e) := by
  have h : gSet 17 d (x0 :: x1 :: x2 :: x3 :: x4 :: x5 :: x6 :: x7 :: x8 :: x9 :: x10 :: x11 :: x12 :: x13 :: x14 :: x15 :: x16 :: y :: e) = some (x0 :: x1 :: x2 :: x3 :: x4 :: x5 :: x6 :: x7 :: x8 :: x9 :: x10 :: x11 :: x12 :: x13 :: x14 :: x15 :: x16 :: some d :: e) := if_pos (by simp only [List.length_cons]; omega)
  exact ⟨fun ⟨_, q, k⟩ => by rw [h] at q; cases q; exact k, fun k => ⟨_, h, k⟩⟩
theorem po_17 {x0 x1 x2 x3 x4 x5 x6 x7 x8 x9 x10 x11 x12 x13 x14 x15 x16 : Option D} {d : D} {e : Env} {K : Env → Prop} : @PutO 17 [d] (x0 :: x1 :: x2 :: x3 :: x4 :: x5 :: x6 :: x7 :: x8 :: x9 :: x10 :: x11 :: x12 :: x13 :: x14 :: x15 :: x16 :: none :: e) K ↔ K (x0 :: x1 :: x2 :: x3 :: x4 :: x5 :: x6 :: x7 :: x8 :: x9 :: x10 :: x11 :: x12 :: x13 :: x14 :: x15 :: x16 :: some d :: e) := ⟨fun ⟨_, q, h⟩ => by cases q; exact h, fun h => ⟨_, rfl, h⟩⟩
theorem at_18 {x0 x1 x2 x3 x4 x5 x6 x7 x8 x9 x10 x11 x12 x13 x14 x15 x16 x17 : Option D} {d : D} {e : Env} {K : D → Env → Prop} : @At 18 (x0 :: x1 :: x2 :: x3 :: x4 :: x5 :: x6 :: x7 :: x8 :: x9 :: x10 :: x11 :: x12 :: x13 :: x14 :: x15 :: x16 :: x17 :: some d :: e) K ↔ K d (x0 :: x1 :: x2 :: x3 :: x4 :: x5 :: x6 :: x7 :: x8 :: x9 :: x10 :: x11 :: x12 :: x13 :: x14 :: x15 :: x16 :: x17 :: some d :: e) := ⟨fun ⟨_, q, h⟩ => by cases q; exact h, fun h => ⟨d, rfl, h⟩⟩
theorem tak_18 {x0 x1 x2 x3 x4 x5 x6 x7 x8 x9 x10 x11 x12 x13 x14 x15 x16 x17 : Option D} {d : D} {e : Env} {K : D → Env → Prop} : @Tak 18 (x0 :: x1 :: x2 :: x3 :: x4 :: x5 :: x6 :: x7 :: x8 :: x9 :: x10 :: x11 :: x12 :: x13 :: x14 :: x15 :: x16 :: x17 :: some d :: e) K ↔ K d (x0 :: x1 :: x2 :: x3 :: x4 :: x5 :: x6 :: x7 :: x8 :: x9 :: x10 :: x11 :: x12 :: x13 :: x14 :: x15 :: x16 :: x17 :: none :: e) := ⟨fun ⟨_, q, h⟩ => by cases q; exact h, fun h => ⟨d, rfl, h⟩⟩
theorem put_18 {x0 x1 x2 x3 x4 x5 x6 x7 x8 x9 x10 x11 x12 x13 x14 x15 x16 x17 : Option D} {y v : Option D} {e : Env} {K : Env → Prop} : @Put 18 v (x0 :: x1 :: x2 :: x3 :: x4 :: x5 :: x6 :: x7 :: x8 :: x9 :: x10 :: x11 :: x12 :: x13 :: x14 :: x15 :: x16 :: x17 :: y :: e) K ↔ K (x0 :: x1 :: x2 :: x3 :: x4 :: x5 :: x6 :: x7 :: x8 :: x9 :: x10 :: x11 :: x12 :: x13 :: x14 :: x15 :: x16 :: x17 :: v :: e) := Iff.rfl
theorem own_18 {x0 x1 x2 x3 x4 x5 x6 x7 x8 x9 x10 x11 x12 x13 x14 x15 x16 x17 : Option D} {ys : List D} {e : Env} {K : List D → Prop} : @Own 18 (x0 :: x1 :: x2 :: x3 :: x4 :: x5 :: x6 :: x7 :: x8 :: x9 :: x10 :: x11 :: x12 :: x13 :: x14 :: x15 :: x16 :: x17 :: some (.lst true ys) :: e) K ↔ K ys := ⟨fun ⟨_, q, h⟩ => by cases q; exact h, fun h => ⟨ys, rfl, h⟩⟩
theorem isl_18 {x0 x1 x2 x3 x4 x5 x6 x7 x8 x9 x10 x11 x12 x13 x14 x15 x16 x17 : Option D} {o : Bool} {ys : List D} {e : Env} {K : Prop} : @IsLs 18 (x0 :: x1 :: x2 :: x3 :: x4 :: x5 :: x6 :: x7 :: x8 :: x9 :: x10 :: x11 :: x12 :: x13 :: x14 :: x15 :: x16 :: x17 :: some (.lst o ys) :: e) K ↔ K := ⟨fun h => h.2, fun h => ⟨rfl, h⟩⟩
theorem gg_18 {x0 x1 x2 x3 x4 x5 x6 x7 x8 x9 x10 x11 x12 x13 x14 x15 x16 x17 : Option D} {y : Option D} {d : D} {e : Env} {K : Env → Prop} : @GG (gSet 18) d (x0 :: x1 :: x2 :: x3 :: x4 :: x5 :: x6 :: x7 :: x8 :: x9 :: x10 :: x11 :: x12 :: x13 :: x14 :: x15 :: x16 :: x17 :: y :: e) K ↔ K (x0 :: x1 :: x2 :: x3 :: x4 :: x5 :: x6 :: x7 :: x8 :: x9 :: x10 :: x11 :: x12 :: x13 :: x14 :: x15 :: x16 :: x17 :: some d :: e) := by
  have h : gSet 18 d (x0 :: x1 :: x2 :: x3 :: x4 :: x5 :: x6 :: x7 :: x8 :: x9 :: x10 :: x11 :: x12 :: x13 :: x14 :: x15 :: x16 :: x17 :: y :: e) = some (x0 :: x1 :: x2 :: x3 :: x4 :: x5 :: x6 :: x7 :: x8 :: x9 :: x10 :: x11 :: x12 :: x13 :: x14 :: x15 :: x16 :: x17 :: some d :: e) := if_pos (by simp only [List.length_cons]; omega)
  exact ⟨fun ⟨_, q, k⟩ => by rw [h] at q; cases q; exact k, fun k => ⟨_, h, k⟩⟩
theorem po_18 {x0 x1 x2 x3 x4 x5 x6 x7 x8 x9 x10 x11 x12 x13 x14 x15 x16 x17 : Option D} {d : D} {e : Env} {K : Env → Prop} : @PutO 18 [d] (x0 :: x1 :: x2 :: x3 :: x4 :: x5 :: x6 :: x7 :: x8 :: x9 :: x10 :: x11 :: x12 :: x13 :: x14 :: x15 :: x16 :: x17 :: none :: e) K ↔ K (x0 :: x1 :: x2 :: x3 :: x4 :: x5 :: x6 :: x7 :: x8 :: x9 :: x10 :: x11 :: x12 :: x13 :: x14 :: x15 :: x16 :: x17 :: some d :: e) := ⟨fun ⟨_, q, h⟩ => by cases q; exact h, fun h => ⟨_, rfl, h⟩⟩
theorem at_19 {x0 x1 x2 x3 x4 x5 x6 x7 x8 x9 x10 x11 x12 x13 x14 x15 x16 x17 x18 : Option D} {d : D} {e : Env} {K : D → Env → Prop} : @At 19 (x0 :: x1 :: x2 :: x3 :: x4 :: x5 :: x6 :: x7 :: x8 :: x9 :: x10 :: x11 :: x12 :: x13 :: x14 :: x15 :: x16 :: x17 :: x18 :: some d :: e) K ↔ K d (x0 :: x1 :: x2 :: x3 :: x4 :: x5 :: x6 :: x7 :: x8 :: x9 :: x10 :: x11 :: x12 :: x13 :: x14 :: x15 :: x16 :: x17 :: x18 :: some d :: e) := ⟨fun ⟨_, q, h⟩ => by cases q; exact h, fun h => ⟨d, rfl, h⟩⟩
theorem tak_19 {x0 x1 x2 x3 x4 x5 x6 x7 x8 x9 x10 x11 x12 x13 x14 x15 x16 x17 x18 : Option D} {d : D} {e : Env} {K : D → Env → Prop} : @Tak 19 (x0 :: x1 :: x2 :: x3 :: x4 :: x5 :: x6 :: x7 :: x8 :: x9 :: x10 :: x11 :: x12 :: x13 :: x14 :: x15 :: x16 :: x17 :: x18 :: some d :: e) K ↔ K d (x0 :: x1 :: x2 :: x3 :: x4 :: x5 :: x6 :: x7 :: x8 :: x9 :: x10 :: x11 :: x12 :: x13 :: x14 :: x15 :: x16 :: x17 :: x18 :: none :: e) := ⟨fun ⟨_, q, h⟩ => by cases q; exact h, fun h => ⟨d, rfl, h⟩⟩
theorem put_19 {x0 x1 x2 x3 x4 x5 x6 x7 x8 x9 x10 x11 x12 x13 x14 x15 x16 x17 x18 : Option D} {y v : Option D} {e : Env} {K : Env → Prop} : @Put 19 v (x0 :: x1 :: x2 :: x3 :: x4 :: x5 :: x6 :: x7 :: x8 :: x9 :: x10 :: x11 :: x12 :: x13 :: x14 :: x15 :: x16 :: x17 :: x18 :: y :: e) K ↔ K (x0 :: x1 :: x2 :: x3 :: x4 :: x5 :: x6 :: x7 :: x8 :: x9 :: x10 :: x11 :: x12 :: x13 :: x14 :: x15 :: x16 :: x17 :: x18 :: v :: e) := Iff.rfl
theorem own_19 {x0 x1 x2 x3 x4 x5 x6 x7 x8 x9 x10 x11 x12 x13 x14 x15 x16 x17 x18 : Option D} {ys : List D} {e : Env} {K : List D → Prop} : @Own 19 (x0 :: x1 :: x2 :: x3 :: x4 :: x5 :: x6 :: x7 :: x8 :: x9 :: x10 :: x11 :: x12 :: x13 :: x14 :: x15 :: x16 :: x17 :: x18 :: some (.lst true ys) :: e) K ↔ K ys := ⟨fun ⟨_, q, h⟩ => by cases q; exact h, fun h => ⟨ys, rfl, h⟩⟩
theorem isl_19 {x0 x1 x2 x3 x4 x5 x6 x7 x8 x9 x10 x11 x12 x13 x14 x15 x16 x17 x18 : Option D} {o : Bool} {ys : List D} {e : Env} {K : Prop} : @IsLs 19 (x0 :: x1 :: x2 :: x3 :: x4 :: x5 :: x6 :: x7 :: x8 :: x9 :: x10 :: x11 :: x12 :: x13 :: x14 :: x15 :: x16 :: x17 :: x18 :: some (.lst o ys) :: e) K ↔ K := ⟨fun h => h.2, fun h => ⟨rfl, h⟩⟩
theorem gg_19 {x0 x1 x2 x3 x4 x5 x6 x7 x8 x9 x10 x11 x12 x13 x14 x15 x16 x17 x18 : Option D} {y : Option D} {d : D} {e : Env} {K : Env → Prop} : @GG (gSet 19) d (x0 :: x1 :: x2 :: x3 :: x4 :: x5 :: x6 :: x7 :: x8 :: x9 :: x10 :: x11 :: x12 :: x13 :: x14 :: x15 :: x16 :: x17 :: x18 :: y :: e) K ↔ K (x0 :: x1 :: x2 :: x3 :: x4 :: x5 :: x6 :: x7 :: x8 :: x9 :: x10 :: x11 :: x12 :: x13 :: x14 :: x15 :: x16 :: x17 :: x18 :: some d :: e) := by
  have h : gSet 19 d (x0 :: x1 :: x2 :: x3 :: x4 :: x5 :: x6 :: x7 :: x8 :: x9 :: x10 :: x11 :: x12 :: x13 :: x14 :: x15 :: x16 :: x17 :: x18 :: y :: e) = some (x0 :: x1 :: x2 :: x3 :: x4 :: x5 :: x6 :: x7 :: x8 :: x9 :: x10 :: x11 :: x12 :: x13 :: x14 :: x15 :: x16 :: x17 :: x18 :: some d :: e) := if_pos (by simp only [List.length_cons]; omega)
  exact ⟨fun ⟨_, q, k⟩ => by rw [h] at q; cases q; exact k, fun k => ⟨_, h, k⟩⟩
theorem po_19 {x0 x1 x2 x3 x4 x5 x6 x7 x8 x9 x10 x11 x12 x13 x14 x15 x16 x17 x18 : Option D} {d : D} {e : Env} {K : Env → Prop} : @PutO 19 [d] (x0 :: x1 :: x2 :: x3 :: x4 :: x5 :: x6 :: x7 :: x8 :: x9 :: x10 :: x11 :: x12 :: x13 :: x14 :: x15 :: x16 :: x17 :: x18 :: none :: e) K ↔ K (x0 :: x1 :: x2 :: x3 :: x4 :: x5 :: x6 :: x7 :: x8 :: x9 :: x10 :: x11 :: x12 :: x13 :: x14 :: x15 :: x16 :: x17 :: x18 :: some d :: e) := ⟨fun ⟨_, q, h⟩ => by cases q; exact h, fun h => ⟨_, rfl, h⟩⟩
theorem at_20 {x0 x1 x2 x3 x4 x5 x6 x7 x8 x9 x10 x11 x12 x13 x14 x15 x16 x17 x18 x19 : Option D} {d : D} {e : Env} {K : D → Env → Prop} : @At 20 (x0 :: x1 :: x2 :: x3 :: x4 :: x5 :: x6 :: x7 :: x8 :: x9 :: x10 :: x11 :: x12 :: x13 :: x14 :: x15 :: x16 :: x17 :: x18 :: x19 :: some d :: e) K ↔ K d (x0 :: x1 :: x2 :: x3 :: x4 :: x5 :: x6 :: x7 :: x8 :: x9 :: x10 :: x11 :: x12 :: x13 :: x14 :: x15 :: x16 :: x17 :: x18 :: x19 :: some d :: e) := ⟨fun ⟨_, q, h⟩ => by cases q; exact h, fun h => ⟨d, rfl, h⟩⟩
theorem tak_20 {x0 x1 x2 x3 x4 x5 x6 x7 x8 x9 x10 x11 x12 x13 x14 x15 x16 x17 x18 x19 : Option D} {d : D} {e : Env} {K : D → Env → Prop} : @Tak 20 (x0 :: x1 :: x2 :: x3 :: x4 :: x5 :: x6 :: x7 :: x8 :: x9 :: x10 :: x11 :: x12 :: x13 :: x14 :: x15 :: x16 :: x17 :: x18 :: x19 :: some d :: e) K ↔ K d (x0 :: x1 :: x2 :: x3 :: x4 :: x5 :: x6 :: x7 :: x8 :: x9 :: x10 :: x11 :: x12 :: x13 :: x14 :: x15 :: x16 :: x17 :: x18 :: x19 :: none :: e) := ⟨fun ⟨_, q, h⟩ => by cases q; exact h, fun h => ⟨d, rfl, h⟩⟩
theorem put_20 {x0 x1 x2 x3 x4 x5 x6 x7 x8 x9 x10 x11 x12 x13 x14 x15 x16 x17 x18 x19 : Option D} {y v : Option D} {e : Env} {K : Env → Prop} : @Put 20 v (x0 :: x1 :: x2 :: x3 :: x4 :: x5 :: x6 :: x7 :: x8 :: x9 :: x10 :: x11 :: x12 :: x13 :: x14 :: x15 :: x16 :: x17 :: x18 :: x19 :: y :: e) K ↔ K (x0 :: x1 :: x2 :: x3 :: x4 :: x5 :: x6 :: x7 :: x8 :: x9 :: x10 :: x11 :: x12 :: x13 :: x14 :: x15 :: x16 :: x17 :: x18 :: x19 :: v :: e) := Iff.rfl
theorem own_20 {x0 x1 x2 x3 x4 x5 x6 x7 x8 x9 x10 x11 x12 x13 x14 x15 x16 x17 x18 x19 : Option D} {ys : List D} {e : Env} {K : List D → Prop} : @Own 20 (x0 :: x1 :: x2 :: x3 :: x4 :: x5 :: x6 :: x7 :: x8 :: x9 :: x10 :: x11 :: x12 :: x13 :: x14 :: x15 :: x16 :: x17 :: x18 :: x19 :: some (.lst true ys) :: e) K ↔ K ys := ⟨fun ⟨_, q, h⟩ => by cases q; exact h, fun h => ⟨ys, rfl, h⟩⟩
theorem isl_20 {x0 x1 x2 x3 x4 x5 x6 x7 x8 x9 x10 x11 x12 x13 x14 x15 x16 x17 x18 x19 : Option D} {o : Bool} {ys : List D} {e : Env} {K : Prop} : @IsLs 20 (x0 :: x1 :: x2 :: x3 :: x4 :: x5 :: x6 :: x7 :: x8 :: x9 :: x10 :: x11 :: x12 :: x13 :: x14 :: x15 :: x16 :: x17 :: x18 :: x19 :: some (.lst o ys) :: e) K ↔ K := ⟨fun h => h.2, fun h => ⟨rfl, h⟩⟩
theorem gg_20 {x0 x1 x2 x3 x4 x5 x6 x7 x8 x9 x10 x11 x12 x13 x14 x15 x16 x17 x18 x19 : Option D} {y : Option D} {d : D} {e : Env} {K : Env → Prop} : @GG (gSet 20) d (x0 :: x1 :: x2 :: x3 :: x4 :: x5 :: x6 :: x7 :: x8 :: x9 :: x10 :: x11 :: x12 :: x13 :: x14 :: x15 :: x16 :: x17 :: x18 :: x19 :: y :: e) K ↔ K (x0 :: x1 :: x2 :: x3 :: x4 :: x5 :: x6 :: x7 :: x8 :: x9 :: x10 :: x11 :: x12 :: x13 :: x14 :: x15 :: x16 :: x17 :: x18 :: x19 :: some d :: e) := by
  have h : gSet 20 d (x0 :: x1 :: x2 :: x3 :: x4 :: x5 :: x6 :: x7 :: x8 :: x9 :: x10 :: x11 :: x12 :: x13 :: x14 :: x15 :: x16 :: x17 :: x18 :: x19 :: y :: e) = some (x0 :: x1 :: x2 :: x3 :: x4 :: x5 :: x6 :: x7 :: x8 :: x9 :: x10 :: x11 :: x12 :: x13 :: x14 :: x15 :: x16 :: x17 :: x18 :: x19 :: some d :: e) := if_pos (by simp only [List.length_cons]; omega)
  exact ⟨fun ⟨_, q, k⟩ => by rw [h] at q; cases q; exact k, fun k => ⟨_, h, k⟩⟩
theorem po_20 {x0 x1 x2 x3 x4 x5 x6 x7 x8 x9 x10 x11 x12 x13 x14 x15 x16 x17 x18 x19 : Option D} {d : D} {e : Env} {K : Env → Prop} : @PutO 20 [d] (x0 :: x1 :: x2 :: x3 :: x4 :: x5 :: x6 :: x7 :: x8 :: x9 :: x10 :: x11 :: x12 :: x13 :: x14 :: x15 :: x16 :: x17 :: x18 :: x19 :: none :: e) K ↔ K (x0 :: x1 :: x2 :: x3 :: x4 :: x5 :: x6 :: x7 :: x8 :: x9 :: x10 :: x11 :: x12 :: x13 :: x14 :: x15 :: x16 :: x17 :: x18 :: x19 :: some d :: e) := ⟨fun ⟨_, q, h⟩ => by cases q; exact h, fun h => ⟨_, rfl, h⟩⟩
theorem at_21 {x0 x1 x2 x3 x4 x5 x6 x7 x8 x9 x10 x11 x12 x13 x14 x15 x16 x17 x18 x19 x20 : Option D} {d : D} {e : Env} {K : D → Env → Prop} : @At 21 (x0 :: x1 :: x2 :: x3 :: x4 :: x5 :: x6 :: x7 :: x8 :: x9 :: x10 :: x11 :: x12 :: x13 :: x14 :: x15 :: x16 :: x17 :: x18 :: x19 :: x20 :: some d :: e) K ↔ K d (x0 :: x1 :: x2 :: x3 :: x4 :: x5 :: x6 :: x7 :: x8 :: x9 :: x10 :: x11 :: x12 :: x13 :: x14 :: x15 :: x16 :: x17 :: x18 :: x19 :: x20 :: some d :: e) := ⟨fun ⟨_, q, h⟩ => by cases q; exact h, fun h => ⟨d, rfl, h⟩⟩
theorem tak_21 {x0 x1 x2 x3 x4 x5 x6 x7 x8 x9 x10 x11 x12 x13 x14 x15 x16 x17 x18 x19 x20 : Option D} {d : D} {e : Env} {K : D → Env → Prop} : @Tak 21 (x0 :: x1 :: x2 :: x3 :: x4 :: x5 :: x6 :: x7 :: x8 :: x9 :: x10 :: x11 :: x12 :: x13 :: x14 :: x15 :: x16 :: x17 :: x18 :: x19 :: x20 :: some d :: e) K ↔ K d (x0 :: x1 :: x2 :: x3 :: x4 :: x5 :: x6 :: x7 :: x8 :: x9 :: x10 :: x11 :: x12 :: x13 :: x14 :: x15 :: x16 :: x17 :: x18 :: x19 :: x20 :: none :: e) := ⟨fun ⟨_, q, h⟩ => by cases q; exact h, fun h => ⟨d, rfl, h⟩⟩
theorem put_21 {x0 x1 x2 x3 x4 x5 x6 x7 x8 x9 x10 x11 x12 x13 x14 x15 x16 x17 x18 x19 x20 : Option D} {y v : Option D} {e : Env} {K : Env → Prop} : @Put 21 v (x0 :: x1 :: x2 :: x3 :: x4 :: x5 :: x6 :: x7 :: x8 :: x9 :: x10 :: x11 :: x12 :: x13 :: x14 :: x15 :: x16 :: x17 :: x18 :: x19 :: x20 :: y :: e) K ↔ K (x0 :: x1 :: x2 :: x3 :: x4 :: x5 :: x6 :: x7 :: x8 :: x9 :: x10 :: x11 :: x12 :: x13 :: x14 :: x15 :: x16 :: x17 :: x18 :: x19 :: x20 :: v :: e) := Iff.rfl
theorem own_21 {x0 x1 x2 x3 x4 x5 x6 x7 x8 x9 x10 x11 x12 x13 x14 x15 x16 x17 x18 x19 x20 : Option D} {ys : List D} {e : Env} {K : List D → Prop} : @Own 21 (x0 :: x1 :: x2 :: x3 :: x4 :: x5 :: x6 :: x7 :: x8 :: x9 :: x10 :: x11 :: x12 :: x13 :: x14 :: x15 :: x16 :: x17 :: x18 :: x19 :: x20 :: some (.lst true ys) :: e) K ↔ K ys := ⟨fun ⟨_, q, h⟩ => by cases q; exact h, fun h => ⟨ys, rfl, h⟩⟩
theorem isl_21 {x0 x1 x2 x3 x4 x5 x6 x7 x8 x9 x10 x11 x12 x13 x14 x15 x16 x17 x18 x19 x20 : Option D} {o : Bool} {ys : List D} {e : Env} {K : Prop} : @IsLs 21 (x0 :: x1 :: x2 :: x3 :: x4 :: x5 :: x6 :: x7 :: x8 :: x9 :: x10 :: x11 :: x12 :: x13 :: x14 :: x15 :: x16 :: x17 :: x18 :: x19 :: x20 :: some (.lst o ys) :: e) K ↔ K := ⟨fun h => h.2, fun h => ⟨rfl, h⟩⟩
theorem gg_21 {x0 x1 x2 x3 x4 x5 x6 x7 x8 x9 x10 x11 x12 x13 x14 x15 x16 x17 x18 x19 x20 : Option D} {y : Option D} {d : D} {e : Env} {K : Env → Prop} : @GG (gSet 21) d (x0 :: x1 :: x2 :: x3 :: x4 :: x5 :: x6 :: x7 :: x8 :: x9 :: x10 :: x11 :: x12 :: x13 :: x14 :: x15 :: x16 :: x17 :: x18 :: x19 :: x20 :: y :: e) K ↔ K (x0 :: x1 :: x2 :: x3 :: x4 :: x5 :: x6 :: x7 :: x8 :: x9 :: x10 :: x11 :: x12 :: x13 :: x14 :: x15 :: x16 :: x17 :: x18 :: x19 :: x20 :: some d :: e) := by
  have h : gSet 21 d (x0 :: x1 :: x2 :: x3 :: x4 :: x5 :: x6 :: x7 :: x8 :: x9 :: x10 :: x11 :: x12 :: x13 :: x14 :: x15 :: x16 :: x17 :: x18 :: x19 :: x20 :: y :: e) = some (x0 :: x1 :: x2 :: x3 :: x4 :: x5 :: x6 :: x7 :: x8 :: x9 :: x10 :: x11 :: x12 :: x13 :: x14 :: x15 :: x16 :: x17 :: x18 :: x19 :: x20 :: some d :: e) := if_pos (by simp only [List.length_cons]; omega)
  exact ⟨fun ⟨_, q, k⟩ => by rw [h] at q; cases q; exact k, fun k => ⟨_, h, k⟩⟩
theorem po_21 {x0 x1 x2 x3 x4 x5 x6 x7 x8 x9 x10 x11 x12 x13 x14 x15 x16 x17 x18 x19 x20 : Option D} {d : D} {e : Env} {K : Env → Prop} : @PutO 21 [d] (x0 :: x1 :: x2 :: x3 :: x4 :: x5 :: x6 :: x7 :: x8 :: x9 :: x10 :: x11 :: x12 :: x13 :: x14 :: x15 :: x16 :: x17 :: x18 :: x19 :: x20 :: none :: e) K ↔ K (x0 :: x1 :: x2 :: x3 :: x4 :: x5 :: x6 :: x7 :: x8 :: x9 :: x10 :: x11 :: x12 :: x13 :: x14 :: x15 :: x16 :: x17 :: x18 :: x19 :: x20 :: some d :: e) := ⟨fun ⟨_, q, h⟩ => by cases q; exact h, fun h => ⟨_, rfl, h⟩⟩
theorem gg_tup {n : Nat} {g : FGs} {xs : List D} {e : Env} {K : Env → Prop} : @GG (gTupD n g) (.tup xs) e K ↔ @And2 (xs.length = n ∧ frzs xs = true) (@GGs g xs e K) := by
  unfold GG GGs And2
  have h : gTupD n g (.tup xs) e = if xs.length = n ∧ frzs xs = true then g xs e else none := rfl
  rw [h]
  by_cases c : xs.length = n ∧ frzs xs = true
  · rw [if_pos c]; exact ⟨fun k => ⟨c, k⟩, fun k => k.2⟩
  · rw [if_neg c]; exact ⟨fun ⟨_, q, _⟩ => (by cases q), fun k => absurd k.1 c⟩
theorem ggs_cons {g : FG} {r : FGs} {x : D} {xs : List D} {e : Env} {K : Env → Prop} : @GGs (gsCons g r) (x :: xs) e K ↔ @GG g x e fun e => @GGs r xs e K := by
  unfold GG GGs
  have h : gsCons g r (x :: xs) e = (g x e).bind fun e => r xs e := rfl
  rw [h]
  cases g x e with
  | none => exact ⟨fun ⟨_, q, _⟩ => (by cases q), fun ⟨_, q, _⟩ => (by cases q)⟩
  | some e1 => exact ⟨fun k => ⟨e1, rfl, k⟩, fun ⟨_, q, k⟩ => by cases q; exact k⟩
theorem ggs_nil {e : Env} {K : Env → Prop} : @GGs gsNil [] e K ↔ K e := ⟨fun ⟨_, q, h⟩ => by cases q; exact h, fun h => ⟨e, rfl, h⟩⟩
theorem puts_nil {os : List D} {e e2 : Env} : putS [] os e = some e2 ↔ os = [] ∧ e = e2 := by
  cases os with
  | nil => exact ⟨fun h => ⟨rfl, Option.some.inj h⟩, fun h => congrArg some h.2⟩
  | cons d ds => exact ⟨fun h => (by cases h), fun h => (by cases h.1)⟩
theorem cp_0 {e : Env} {F : Fn} {Q : D → Env → Prop} : @CallP [] [] e F Q ↔ @XF F [] fun d os => os = [] ∧ Q d e := by
  unfold CallP
  constructor
  · rintro ⟨t, e1, as, e2, h⟩
    cases e1; cases e2
    exact OkF.mono h fun d os ⟨e3, q, k⟩ => by obtain ⟨rfl, rfl⟩ := puts_nil.mp q; exact ⟨rfl, k⟩
  · intro h
    exact ⟨_, rfl, _, rfl, OkF.mono h fun d os ⟨q, k⟩ => ⟨e, puts_nil.mpr ⟨q, rfl⟩, k⟩⟩
theorem cq_0 {i : Nat} {d : D} {e : Env} {F : Fn} {Q : D → Env → Prop} : @CallP [some i] [d] e F Q ↔ @Tak i e fun t e => @XF F [t] fun d os => @PutO i os e (Q d) := by
  unfold CallP
  constructor
  · rintro ⟨t, e1, as, e2, h⟩
    have e1' : takeS [i] e = some t := e1
    unfold takeS at e1'
    split at e1'
    · rename_i d e0
      cases e1'
      cases e2
      exact ⟨d, e0, h⟩
    · cases e1'
  · rintro ⟨t, e0, h⟩
    refine ⟨([t], e.set i none), ?_, _, rfl, h⟩
    show takeS [i] e = _
    unfold takeS
    rw [e0]
    rfl
theorem cp_1 {d0 : D} {e : Env} {F : Fn} {Q : D → Env → Prop} : @CallP [none] [d0] e F Q ↔ @XF F [d0] fun d os => os = [] ∧ Q d e := by
  unfold CallP
  constructor
  · rintro ⟨t, e1, as, e2, h⟩
    cases e1; cases e2
    exact OkF.mono h fun d os ⟨e3, q, k⟩ => by obtain ⟨rfl, rfl⟩ := puts_nil.mp q; exact ⟨rfl, k⟩
  · intro h
    exact ⟨_, rfl, _, rfl, OkF.mono h fun d os ⟨q, k⟩ => ⟨e, puts_nil.mpr ⟨q, rfl⟩, k⟩⟩
theorem cq_1 {i : Nat} {d : D} {d0 : D} {e : Env} {F : Fn} {Q : D → Env → Prop} : @CallP [some i, none] [d, d0] e F Q ↔ @Tak i e fun t e => @XF F [t, d0] fun d os => @PutO i os e (Q d) := by
  unfold CallP
  constructor
  · rintro ⟨t, e1, as, e2, h⟩
    have e1' : takeS [i] e = some t := e1
    unfold takeS at e1'
    split at e1'
    · rename_i d e0
      cases e1'
      cases e2
      exact ⟨d, e0, h⟩
    · cases e1'
  · rintro ⟨t, e0, h⟩
    refine ⟨([t], e.set i none), ?_, _, rfl, h⟩
    show takeS [i] e = _
    unfold takeS
    rw [e0]
    rfl
theorem cp_2 {d0 d1 : D} {e : Env} {F : Fn} {Q : D → Env → Prop} : @CallP [none, none] [d0, d1] e F Q ↔ @XF F [d0, d1] fun d os => os = [] ∧ Q d e := by
  unfold CallP
  constructor
  · rintro ⟨t, e1, as, e2, h⟩
    cases e1; cases e2
    exact OkF.mono h fun d os ⟨e3, q, k⟩ => by obtain ⟨rfl, rfl⟩ := puts_nil.mp q; exact ⟨rfl, k⟩
  · intro h
    exact ⟨_, rfl, _, rfl, OkF.mono h fun d os ⟨q, k⟩ => ⟨e, puts_nil.mpr ⟨q, rfl⟩, k⟩⟩
theorem cq_2 {i : Nat} {d : D} {d0 d1 : D} {e : Env} {F : Fn} {Q : D → Env → Prop} : @CallP [some i, none, none] [d, d0, d1] e F Q ↔ @Tak i e fun t e => @XF F [t, d0, d1] fun d os => @PutO i os e (Q d) := by
  unfold CallP
  constructor
  · rintro ⟨t, e1, as, e2, h⟩
    have e1' : takeS [i] e = some t := e1
    unfold takeS at e1'
    split at e1'
    · rename_i d e0
      cases e1'
      cases e2
      exact ⟨d, e0, h⟩
    · cases e1'
  · rintro ⟨t, e0, h⟩
    refine ⟨([t], e.set i none), ?_, _, rfl, h⟩
    show takeS [i] e = _
    unfold takeS
    rw [e0]
    rfl
theorem cp_3 {d0 d1 d2 : D} {e : Env} {F : Fn} {Q : D → Env → Prop} : @CallP [none, none, none] [d0, d1, d2] e F Q ↔ @XF F [d0, d1, d2] fun d os => os = [] ∧ Q d e := by
  unfold CallP
  constructor
  · rintro ⟨t, e1, as, e2, h⟩
    cases e1; cases e2
    exact OkF.mono h fun d os ⟨e3, q, k⟩ => by obtain ⟨rfl, rfl⟩ := puts_nil.mp q; exact ⟨rfl, k⟩
  · intro h
    exact ⟨_, rfl, _, rfl, OkF.mono h fun d os ⟨q, k⟩ => ⟨e, puts_nil.mpr ⟨q, rfl⟩, k⟩⟩
theorem cq_3 {i : Nat} {d : D} {d0 d1 d2 : D} {e : Env} {F : Fn} {Q : D → Env → Prop} : @CallP [some i, none, none, none] [d, d0, d1, d2] e F Q ↔ @Tak i e fun t e => @XF F [t, d0, d1, d2] fun d os => @PutO i os e (Q d) := by
  unfold CallP
  constructor
  · rintro ⟨t, e1, as, e2, h⟩
    have e1' : takeS [i] e = some t := e1
    unfold takeS at e1'
    split at e1'
    · rename_i d e0
      cases e1'
      cases e2
      exact ⟨d, e0, h⟩
    · cases e1'
  · rintro ⟨t, e0, h⟩
    refine ⟨([t], e.set i none), ?_, _, rfl, h⟩
    show takeS [i] e = _
    unfold takeS
    rw [e0]
    rfl
theorem cp_4 {d0 d1 d2 d3 : D} {e : Env} {F : Fn} {Q : D → Env → Prop} : @CallP [none, none, none, none] [d0, d1, d2, d3] e F Q ↔ @XF F [d0, d1, d2, d3] fun d os => os = [] ∧ Q d e := by
  unfold CallP
  constructor
  · rintro ⟨t, e1, as, e2, h⟩
    cases e1; cases e2
    exact OkF.mono h fun d os ⟨e3, q, k⟩ => by obtain ⟨rfl, rfl⟩ := puts_nil.mp q; exact ⟨rfl, k⟩
  · intro h
    exact ⟨_, rfl, _, rfl, OkF.mono h fun d os ⟨q, k⟩ => ⟨e, puts_nil.mpr ⟨q, rfl⟩, k⟩⟩
theorem cq_4 {i : Nat} {d : D} {d0 d1 d2 d3 : D} {e : Env} {F : Fn} {Q : D → Env → Prop} : @CallP [some i, none, none, none, none] [d, d0, d1, d2, d3] e F Q ↔ @Tak i e fun t e => @XF F [t, d0, d1, d2, d3] fun d os => @PutO i os e (Q d) := by
  unfold CallP
  constructor
  · rintro ⟨t, e1, as, e2, h⟩
    have e1' : takeS [i] e = some t := e1
    unfold takeS at e1'
    split at e1'
    · rename_i d e0
      cases e1'
      cases e2
      exact ⟨d, e0, h⟩
    · cases e1'
  · rintro ⟨t, e0, h⟩
    refine ⟨([t], e.set i none), ?_, _, rfl, h⟩
    show takeS [i] e = _
    unfold takeS
    rw [e0]
    rfl
theorem cp_5 {d0 d1 d2 d3 d4 : D} {e : Env} {F : Fn} {Q : D → Env → Prop} : @CallP [none, none, none, none, none] [d0, d1, d2, d3, d4] e F Q ↔ @XF F [d0, d1, d2, d3, d4] fun d os => os = [] ∧ Q d e := by
  unfold CallP
  constructor
  · rintro ⟨t, e1, as, e2, h⟩
    cases e1; cases e2
    exact OkF.mono h fun d os ⟨e3, q, k⟩ => by obtain ⟨rfl, rfl⟩ := puts_nil.mp q; exact ⟨rfl, k⟩
  · intro h
    exact ⟨_, rfl, _, rfl, OkF.mono h fun d os ⟨q, k⟩ => ⟨e, puts_nil.mpr ⟨q, rfl⟩, k⟩⟩
theorem cq_5 {i : Nat} {d : D} {d0 d1 d2 d3 d4 : D} {e : Env} {F : Fn} {Q : D → Env → Prop} : @CallP [some i, none, none, none, none, none] [d, d0, d1, d2, d3, d4] e F Q ↔ @Tak i e fun t e => @XF F [t, d0, d1, d2, d3, d4] fun d os => @PutO i os e (Q d) := by
  unfold CallP
  constructor
  · rintro ⟨t, e1, as, e2, h⟩
    have e1' : takeS [i] e = some t := e1
    unfold takeS at e1'
    split at e1'
    · rename_i d e0
      cases e1'
      cases e2
      exact ⟨d, e0, h⟩
    · cases e1'
  · rintro ⟨t, e0, h⟩
    refine ⟨([t], e.set i none), ?_, _, rfl, h⟩
    show takeS [i] e = _
    unfold takeS
    rw [e0]
    rfl
theorem cp_6 {d0 d1 d2 d3 d4 d5 : D} {e : Env} {F : Fn} {Q : D → Env → Prop} : @CallP [none, none, none, none, none, none] [d0, d1, d2, d3, d4, d5] e F Q ↔ @XF F [d0, d1, d2, d3, d4, d5] fun d os => os = [] ∧ Q d e := by
  unfold CallP
  constructor
  · rintro ⟨t, e1, as, e2, h⟩
    cases e1; cases e2
    exact OkF.mono h fun d os ⟨e3, q, k⟩ => by obtain ⟨rfl, rfl⟩ := puts_nil.mp q; exact ⟨rfl, k⟩
  · intro h
    exact ⟨_, rfl, _, rfl, OkF.mono h fun d os ⟨q, k⟩ => ⟨e, puts_nil.mpr ⟨q, rfl⟩, k⟩⟩
theorem cq_6 {i : Nat} {d : D} {d0 d1 d2 d3 d4 d5 : D} {e : Env} {F : Fn} {Q : D → Env → Prop} : @CallP [some i, none, none, none, none, none, none] [d, d0, d1, d2, d3, d4, d5] e F Q ↔ @Tak i e fun t e => @XF F [t, d0, d1, d2, d3, d4, d5] fun d os => @PutO i os e (Q d) := by
  unfold CallP
  constructor
  · rintro ⟨t, e1, as, e2, h⟩
    have e1' : takeS [i] e = some t := e1
    unfold takeS at e1'
    split at e1'
    · rename_i d e0
      cases e1'
      cases e2
      exact ⟨d, e0, h⟩
    · cases e1'
  · rintro ⟨t, e0, h⟩
    refine ⟨([t], e.set i none), ?_, _, rfl, h⟩
    show takeS [i] e = _
    unfold takeS
    rw [e0]
    rfl
theorem cp_7 {d0 d1 d2 d3 d4 d5 d6 : D} {e : Env} {F : Fn} {Q : D → Env → Prop} : @CallP [none, none, none, none, none, none, none] [d0, d1, d2, d3, d4, d5, d6] e F Q ↔ @XF F [d0, d1, d2, d3, d4, d5, d6] fun d os => os = [] ∧ Q d e := by
  unfold CallP
  constructor
  · rintro ⟨t, e1, as, e2, h⟩
    cases e1; cases e2
    exact OkF.mono h fun d os ⟨e3, q, k⟩ => by obtain ⟨rfl, rfl⟩ := puts_nil.mp q; exact ⟨rfl, k⟩
  · intro h
    exact ⟨_, rfl, _, rfl, OkF.mono h fun d os ⟨q, k⟩ => ⟨e, puts_nil.mpr ⟨q, rfl⟩, k⟩⟩
theorem cq_7 {i : Nat} {d : D} {d0 d1 d2 d3 d4 d5 d6 : D} {e : Env} {F : Fn} {Q : D → Env → Prop} : @CallP [some i, none, none, none, none, none, none, none] [d, d0, d1, d2, d3, d4, d5, d6] e F Q ↔ @Tak i e fun t e => @XF F [t, d0, d1, d2, d3, d4, d5, d6] fun d os => @PutO i os e (Q d) := by
  unfold CallP
  constructor
  · rintro ⟨t, e1, as, e2, h⟩
    have e1' : takeS [i] e = some t := e1
    unfold takeS at e1'
    split at e1'
    · rename_i d e0
      cases e1'
      cases e2
      exact ⟨d, e0, h⟩
    · cases e1'
  · rintro ⟨t, e0, h⟩
    refine ⟨([t], e.set i none), ?_, _, rfl, h⟩
    show takeS [i] e = _
    unfold takeS
    rw [e0]
    rfl
theorem cp_8 {d0 d1 d2 d3 d4 d5 d6 d7 : D} {e : Env} {F : Fn} {Q : D → Env → Prop} : @CallP [none, none, none, none, none, none, none, none] [d0, d1, d2, d3, d4, d5, d6, d7] e F Q ↔ @XF F [d0, d1, d2, d3, d4, d5, d6, d7] fun d os => os = [] ∧ Q d e := by
  unfold CallP
  constructor
  · rintro ⟨t, e1, as, e2, h⟩
    cases e1; cases e2
    exact OkF.mono h fun d os ⟨e3, q, k⟩ => by obtain ⟨rfl, rfl⟩ := puts_nil.mp q; exact ⟨rfl, k⟩
  · intro h
    exact ⟨_, rfl, _, rfl, OkF.mono h fun d os ⟨q, k⟩ => ⟨e, puts_nil.mpr ⟨q, rfl⟩, k⟩⟩
theorem cq_8 {i : Nat} {d : D} {d0 d1 d2 d3 d4 d5 d6 d7 : D} {e : Env} {F : Fn} {Q : D → Env → Prop} : @CallP [some i, none, none, none, none, none, none, none, none] [d, d0, d1, d2, d3, d4, d5, d6, d7] e F Q ↔ @Tak i e fun t e => @XF F [t, d0, d1, d2, d3, d4, d5, d6, d7] fun d os => @PutO i os e (Q d) := by
  unfold CallP
  constructor
  · rintro ⟨t, e1, as, e2, h⟩
    have e1' : takeS [i] e = some t := e1
    unfold takeS at e1'
    split at e1'
    · rename_i d e0
      cases e1'
      cases e2
      exact ⟨d, e0, h⟩
    · cases e1'
  · rintro ⟨t, e0, h⟩
    refine ⟨([t], e.set i none), ?_, _, rfl, h⟩
    show takeS [i] e = _
    unfold takeS
    rw [e0]
    rfl
theorem cp_9 {d0 d1 d2 d3 d4 d5 d6 d7 d8 : D} {e : Env} {F : Fn} {Q : D → Env → Prop} : @CallP [none, none, none, none, none, none, none, none, none] [d0, d1, d2, d3, d4, d5, d6, d7, d8] e F Q ↔ @XF F [d0, d1, d2, d3, d4, d5, d6, d7, d8] fun d os => os = [] ∧ Q d e := by
  unfold CallP
  constructor
  · rintro ⟨t, e1, as, e2, h⟩
    cases e1; cases e2
    exact OkF.mono h fun d os ⟨e3, q, k⟩ => by obtain ⟨rfl, rfl⟩ := puts_nil.mp q; exact ⟨rfl, k⟩
  · intro h
    exact ⟨_, rfl, _, rfl, OkF.mono h fun d os ⟨q, k⟩ => ⟨e, puts_nil.mpr ⟨q, rfl⟩, k⟩⟩
theorem cq_9 {i : Nat} {d : D} {d0 d1 d2 d3 d4 d5 d6 d7 d8 : D} {e : Env} {F : Fn} {Q : D → Env → Prop} : @CallP [some i, none, none, none, none, none, none, none, none, none] [d, d0, d1, d2, d3, d4, d5, d6, d7, d8] e F Q ↔ @Tak i e fun t e => @XF F [t, d0, d1, d2, d3, d4, d5, d6, d7, d8] fun d os => @PutO i os e (Q d) := by
  unfold CallP
  constructor
  · rintro ⟨t, e1, as, e2, h⟩
    have e1' : takeS [i] e = some t := e1
    unfold takeS at e1'
    split at e1'
    · rename_i d e0
      cases e1'
      cases e2
      exact ⟨d, e0, h⟩
    · cases e1'
  · rintro ⟨t, e0, h⟩
    refine ⟨([t], e.set i none), ?_, _, rfl, h⟩
    show takeS [i] e = _
    unfold takeS
    rw [e0]
    rfl
theorem and2_true {B : Prop} : @And2 True B ↔ B := and2_t trivial
theorem F_env {ps : List Nat} {n : Nat} {F : FS} {args : List D} {env : Env} {Q : D → List D → Prop} (he : EnvIs args n env) (h : @XS F env (fun e => Out ps e (Q .non)) (fun d e => Out ps e (Q d)) (fun _ => False) (fun _ => False)) : Fw.OkF (fnF ps n F) args Q := okF_env he h
theorem O_0 {e : Env} {P : List D → Prop} : Out [] e P ↔ P [] := ⟨fun ⟨_, q, h⟩ => by cases q; exact h, fun h => out_0 h⟩
theorem O_1 {d : D} {e : Env} {P : List D → Prop} : Out [0] (some d :: e) P ↔ P [d] := ⟨fun ⟨_, q, h⟩ => by cases q; exact h, fun h => out_1 h⟩
def MkE (as : List D) (n : Nat) [K : Env → Prop] : Prop := K (as.map some ++ List.replicate (n - as.length) none)
theorem mk_cons {a : D} {as : List D} {n : Nat} {K : Env → Prop} : @MkE (a :: as) (n + 1) K ↔ @MkE as n fun e => K (some a :: e) := by
  unfold MkE
  rw [List.map_cons, List.length_cons, Nat.add_sub_add_right]
  exact Iff.rfl
theorem mk_nil {n : Nat} {K : Env → Prop} : @MkE [] (n + 1) K ↔ @MkE [] n fun e => K (none :: e) := by
  unfold MkE
  rw [List.length_nil, Nat.sub_zero, Nat.sub_zero, List.replicate_succ]
  exact Iff.rfl
theorem mk_0 {K : Env → Prop} : @MkE [] 0 K ↔ K [] := Iff.rfl
theorem X_fn {ps : List Nat} {n : Nat} {F : FS} {as : List D} {Q : D → List D → Prop} : @XF (fnF ps n F) as Q ↔ @MkE as n fun e => @XS F e (fun e => Fw.Out ps e (Q .non)) (fun d e => Fw.Out ps e (Q d)) (fun _ => False) (fun _ => False) := by
  simp only [XF, XS, MkE, eqF, eqS, Z.OkF, Z.OkS]
  simp only [fnF, wp_bind_iff]
  apply Iff.of_eq
  congr 1
  funext c
  cases c with
  | nx e => exact propext (by simp only [outF, wp_bind_iff, wp_of_iff]; exact Iff.rfl)
  | rt d e => exact propext (by simp only [outF, wp_bind_iff, wp_of_iff]; exact Iff.rfl)
  | bk e => rfl
  | ct e => rfl
theorem X_F {F : Fn} {as : List D} {Q : D → List D → Prop} (h : Fw.OkF F as Q) : @XF F as Q := h
theorem X_eq {F : Fn} {as : List D} {d : D} {os : List D} {Q : D → List D → Prop} (e : F as = .ok (d, os)) : @XF F as Q ↔ Q d os := by
  show OkF F as Q ↔ _
  simp only [eqF, Z.OkF]
  rw [e]
  exact Iff.rfl
theorem S_cut {F G : FS} {env : Env} (I : Env → Prop) {N : Env → Prop} {Rt : D → Env → Prop} {B C : Env → Prop} (h : @XS F env I Rt B C) (k : ∀ e, I e → @XS G e N Rt B C) : @XS (fSeq F G) env N Rt B C := okS_seqI I h k
theorem lp_S {ds : List D} {Fg : FG} {Fb : FS} {env : Env} {N : Env → Prop} {Rt : D → Env → Prop} {B C : Env → Prop} : @LoopS ds Fg Fb env N Rt B C → @LoopS ds Fg Fb env N Rt B C := id
end Fw
end

section
set_option linter.all false
set_option maxRecDepth 100000
namespace Fw
open PySem L2
/-! ### the operations spelt out, as rules of rewriting -/
theorem v_add {a b : Int} : addD (.int a) (.int b) = some (.int (a + b)) := rfl
theorem v_sub {a b : Int} : subD (.int a) (.int b) = some (.int (a - b)) := rfl
theorem v_mulr {a b : Int} (h1 : -1000000000000000000 < b) (h2 : b < 1000000000000000000) : mulD (.int a) (.int b) = some (.int (a * b)) := mul_ii (.inr ⟨by omega, by omega⟩)
theorem v_mull {a b : Int} (h1 : -1000000000000000000 < a) (h2 : a < 1000000000000000000) : mulD (.int a) (.int b) = some (.int (a * b)) := mul_ii (.inl ⟨by omega, by omega⟩)
theorem v_div {a b : Int} (h1 : 0 < b) (h2 : b ≤ 1000000000) : divD (.int a) (.int b) = some (.int (a / b)) := div_ii ⟨by omega, by omega⟩
theorem v_neg {a : Int} : negD (.int a) = some (.int (-a)) := rfl
theorem v_int {a : Int} : intD (.int a) = some (.int a) := rfl
theorem v_intb {a : Bool} : intD (.bl a) = some (.int (if a then 1 else 0)) := rfl
theorem v_abs {a : Int} : absD (.int a) = some (.int (max a (-a))) := by
  rw [abs_i]
  congr 2
  by_cases c : a < 0
  · rw [if_pos c]; omega
  · rw [if_neg c]; omega
theorem v_isB {b : Bool} : D.isB (.bl b) = some b := rfl
theorem v_isI {i : Int} : D.isI (.int i) = some i := rfl
theorem v_truB {b : Bool} : D.tru (.bl b) = some b := rfl
theorem v_isn {x : D} : isnD x .non = some (.bl x.isN) := rfl
theorem v_notn {x : D} : notnD x .non = some (.bl (!x.isN)) := rfl
theorem v_len_t {xs : List D} : lenD (.tup xs) = some (.int (xs.length : Nat)) := rfl
theorem v_len_l {o : Bool} {xs : List D} : lenD (.lst o xs) = some (.int (xs.length : Nat)) := rfl
theorem v_len_s {s : Str} (h : s.length ≤ 1000000) : lenD (.str s) = some (.int (s.length : Nat)) := by
  show (if s.length ≤ 16777216 then some s.length else none).map _ = _
  rw [if_pos (by omega)]
  rfl
theorem al_int {a b : Int} : okAl (.int a) (.int b) = true := by
  unfold okAl
  simp [D.nd, D.isN, D.py, D.frz, PySem.W.alike, PyData.depth]
theorem v_max {a b : Int} : maxA (.int a) (.int b) = some (.int (max a b)) := by
  unfold maxA
  rw [if_pos al_int]
  unfold ltB
  rw [show PySem.W.dataLt (D.int a).py (D.int b).py = decide (a < b) from dlt_ii]
  by_cases c : a < b
  · rw [if_pos (decide_eq_true c)]; congr 2; omega
  · rw [if_neg (by simpa using c)]; congr 2; omega
theorem v_min {a b : Int} : minA (.int a) (.int b) = some (.int (min a b)) := by
  unfold minA
  rw [if_pos al_int]
  unfold ltB
  rw [show PySem.W.dataLt (D.int b).py (D.int a).py = decide (b < a) from dlt_ii]
  by_cases c : b < a
  · rw [if_pos (decide_eq_true c)]; congr 2; omega
  · rw [if_neg (by simpa using c)]; congr 2; omega
theorem v_app {xs : List D} {d : D} (h : xs.length < 1000000) : gAppend xs [d] = some (.non, xs ++ [d]) := if_pos (show xs.length < 16777216 by omega)
theorem v_tup_t {xs : List D} (h : frzs xs = true) : tupleD (.tup xs) = some (.tup xs) := by
  show (if frzs xs = true then some xs else none).map _ = _
  rw [if_pos h]
  rfl
theorem v_tup_l {o : Bool} {xs : List D} (h : frzs xs = true) : tupleD (.lst o xs) = some (.tup xs) := by
  show (if frzs xs = true then some xs else none).map _ = _
  rw [if_pos h]
  rfl
theorem v_tup_n {o : Bool} : tupleD (.lst o []) = some (.tup []) := rfl
theorem v_lst_n {o : Bool} : listD (.lst o []) = some (.lst true []) := rfl
theorem fr_l0 {o : Bool} {Q : D → Prop} : @FrD (.lst o []) Q ↔ Q (.lst false []) := Iff.rfl
theorem v_lst_t {xs : List D} (h : frzs xs = true) : listD (.tup xs) = some (.lst true xs) := by
  show (if frzs xs = true then some xs else none).map _ = _
  rw [if_pos h]
  rfl
theorem v_lst_l {o : Bool} {xs : List D} (h : frzs xs = true) : listD (.lst o xs) = some (.lst true xs) := by
  show (if frzs xs = true then some xs else none).map _ = _
  rw [if_pos h]
  rfl
theorem v_sl_t {xs : List D} {lo hi : Option Int} (h : frzs xs = true) : slD (.tup xs) lo hi = some (.tup (cutA xs lo hi)) := if_pos h
theorem v_sl_l {o : Bool} {xs : List D} {lo hi : Option Int} (h : frzs xs = true) : slD (.lst o xs) lo hi = some (.lst true (cutA xs lo hi)) := if_pos h
theorem v_sl_s {s : Str} {lo hi : Option Int} (h : s.length ≤ 1000000) : slD (.str s) lo hi = some (.str (cutS s lo hi)) := if_pos (show s.length ≤ 16777216 by omega)
theorem v_cat_s {a b : Str} (h : a.length + b.length ≤ 1000000) : addD (.str a) (.str b) = some (.str (a ++ b)) := if_pos (show a.length + b.length ≤ 16777216 by omega)
theorem v_cat_t {xs ys : List D} (h : xs.length + ys.length ≤ 1000000) (h1 : frzs xs = true) (h2 : frzs ys = true) : addD (.tup xs) (.tup ys) = some (.tup (xs ++ ys)) := if_pos ⟨show _ ≤ 16777216 by omega, h1, h2⟩
theorem v_cat_l {o o2 : Bool} {xs ys : List D} (h : xs.length + ys.length ≤ 1000000) (h1 : frzs xs = true) (h2 : frzs ys = true) : addD (.lst o xs) (.lst o2 ys) = some (.lst true (xs ++ ys)) := if_pos ⟨show _ ≤ 16777216 by omega, h1, h2⟩
theorem v_it_t {xs : List D} (h : frzs xs = true) : D.items (.tup xs) = some xs := if_pos h
theorem v_it_l {xs : List D} (h : frzs xs = true) : D.items (.lst false xs) = some xs := if_pos h
theorem v_sq_t {xs : List D} (h : frzs xs = true) : D.seqs (.tup xs) = some xs := if_pos h
theorem v_sq_l {xs : List D} (h : frzs xs = true) : D.seqs (.lst false xs) = some xs := if_pos h
theorem v_okl {o : Bool} {xs : List D} : okT "list" (.lst o xs) = true := rfl
theorem v_oks {s : Str} : okT "str" (.str s) = true := rfl
theorem v_ixN {n : Nat} {k : Int} (h0 : 0 ≤ k) (h1 : k.toNat < n) : ixN n k = some k.toNat := by
  unfold ixN
  rw [if_pos h0, if_pos (by omega)]
theorem v_ss {n : Int} (h1 : -1000000000 ≤ n) (h2 : n ≤ 1000000000) : small62 n = true := small_i ⟨by omega, by omega⟩
theorem v_big {n : Nat} (h : n ≤ 1000000) : (n ≤ big) = True := eq_true (show n ≤ 16777216 by omega)
theorem v_big2 {n : Nat} (h : n < 1000000) : (n < big) = True := eq_true (show n < 16777216 by omega)
theorem okP_int {a : Int} : (D.int a).okP = true := by simp [D.okP, D.nd, D.py, PyData.depth]
theorem okP_str {a : Str} : (D.str a).okP = true := by simp [D.okP, D.nd, D.py, PyData.depth]
theorem okP_bl {a : Bool} : (D.bl a).okP = true := by simp [D.okP, D.nd, D.py, PyData.depth]
theorem okP_non : D.non.okP = true := by simp [D.okP, D.nd, D.py, PyData.depth]
theorem v_eqA {x y : D} (h : x.okP = true) (k : y.nd = true) : eqP x y = some (.bl (x.eqv y)) := if_pos ⟨h, k⟩
theorem v_neA {x y : D} (h : x.okP = true) (k : y.nd = true) : neP x y = some (.bl (!x.eqv y)) := if_pos ⟨h, k⟩
theorem v_eq_ii {a b : Int} : eqP (.int a) (.int b) = some (.bl (decide (a = b))) := v_eqA okP_int rfl
theorem v_ne_ii {a b : Int} : neP (.int a) (.int b) = some (.bl (!decide (a = b))) := v_neA okP_int rfl
theorem v_eq_iS {a : Int} : eqP (.int a) (.int a) = some (.bl true) := by rw [v_eq_ii, decide_eq_true rfl]
theorem v_ne_iS {a : Int} : neP (.int a) (.int a) = some (.bl false) := by rw [v_ne_ii, decide_eq_true rfl]; rfl
theorem v_eq_ss {a b : Str} : eqP (.str a) (.str b) = some (.bl (decide (a = b))) := v_eqA okP_str rfl
theorem v_ne_ss {a b : Str} : neP (.str a) (.str b) = some (.bl (!decide (a = b))) := v_neA okP_str rfl
theorem v_eq_sS {a : Str} : eqP (.str a) (.str a) = some (.bl true) := by rw [v_eq_ss, decide_eq_true rfl]
theorem v_eq_bb {a b : Bool} : eqP (.bl a) (.bl b) = some (.bl (a == b)) := by rw [v_eqA okP_bl rfl]; cases a <;> cases b <;> rfl
theorem v_ne_bb {a b : Bool} : neP (.bl a) (.bl b) = some (.bl (!(a == b))) := by rw [v_neA okP_bl rfl]; cases a <;> cases b <;> rfl
theorem v_in_l {x : D} {o neg : Bool} {xs : List D} (h : x.okP = true) (k : nds xs = true) : inP neg x (.lst o xs) = some (.bl (if neg = true then !xs.any fun z => z.eqv x else xs.any fun z => z.eqv x)) := if_pos ⟨h, k⟩
theorem v_in_t {x : D} {neg : Bool} {xs : List D} (h : x.okP = true) (k : nds xs = true) : inP neg x (.tup xs) = some (.bl (if neg = true then !xs.any fun z => z.eqv x else xs.any fun z => z.eqv x)) := if_pos ⟨h, k⟩
theorem n_int {a : Int} : (D.int a).nd = true := rfl
theorem n_str {a : Str} : (D.str a).nd = true := rfl
theorem n_bl {a : Bool} : (D.bl a).nd = true := rfl
theorem n_non : D.non.nd = true := rfl
theorem n_nil : nds [] = true := rfl
theorem n_cons {x : D} {xs : List D} : nds (x :: xs) = (x.nd && nds xs) := rfl
theorem q_ss {a b : Str} : (D.str a).eqv (.str b) = decide (a = b) := rfl
theorem q_ii {a b : Int} : (D.int a).eqv (.int b) = decide (a = b) := rfl
theorem O_X {F : Fn} {as : List D} {Q : D → List D → Prop} : OkF F as Q ↔ @XF F as Q := Iff.rfl
theorem v_if_t {A : Type} {a b : A} : (if true = true then a else b) = a := if_pos rfl
theorem v_if_f {A : Type} {a b : A} : (if false = true then a else b) = b := if_neg Bool.false_ne_true

theorem v_i_tuple_non : isiD .tuple (.non ) = some (.bl false) := by rfl
theorem v_i_tuple_bl {b : Bool} : isiD .tuple (.bl b) = some (.bl false) := by rfl
theorem v_i_tuple_int {i : Int} : isiD .tuple (.int i) = some (.bl false) := by rfl
theorem v_i_tuple_str {s : Str} : isiD .tuple (.str s) = some (.bl false) := by rfl
theorem v_i_tuple_tup {xs : List D} : isiD .tuple (.tup xs) = some (.bl true) := by rfl
theorem v_i_tuple_lst {o : Bool} {xs : List D} : isiD .tuple (.lst o xs) = some (.bl false) := by rfl
theorem v_i_list_non : isiD .list (.non ) = some (.bl false) := by rfl
theorem v_i_list_bl {b : Bool} : isiD .list (.bl b) = some (.bl false) := by rfl
theorem v_i_list_int {i : Int} : isiD .list (.int i) = some (.bl false) := by rfl
theorem v_i_list_str {s : Str} : isiD .list (.str s) = some (.bl false) := by rfl
theorem v_i_list_tup {xs : List D} : isiD .list (.tup xs) = some (.bl false) := by rfl
theorem v_i_list_lst {o : Bool} {xs : List D} : isiD .list (.lst o xs) = some (.bl true) := by rfl
theorem v_i_str_non : isiD .str (.non ) = some (.bl false) := by rfl
theorem v_i_str_bl {b : Bool} : isiD .str (.bl b) = some (.bl false) := by rfl
theorem v_i_str_int {i : Int} : isiD .str (.int i) = some (.bl false) := by rfl
theorem v_i_str_str {s : Str} : isiD .str (.str s) = some (.bl true) := by rfl
theorem v_i_str_tup {xs : List D} : isiD .str (.tup xs) = some (.bl false) := by rfl
theorem v_i_str_lst {o : Bool} {xs : List D} : isiD .str (.lst o xs) = some (.bl false) := by rfl
theorem v_i_int_non : isiD .int (.non ) = some (.bl false) := by rfl
theorem v_i_int_bl {b : Bool} : isiD .int (.bl b) = some (.bl true) := by rfl
theorem v_i_int_int {i : Int} : isiD .int (.int i) = some (.bl true) := by rfl
theorem v_i_int_str {s : Str} : isiD .int (.str s) = some (.bl false) := by rfl
theorem v_i_int_tup {xs : List D} : isiD .int (.tup xs) = some (.bl false) := by rfl
theorem v_i_int_lst {o : Bool} {xs : List D} : isiD .int (.lst o xs) = some (.bl false) := by rfl
theorem v_i_bool_non : isiD .bool (.non ) = some (.bl false) := by rfl
theorem v_i_bool_bl {b : Bool} : isiD .bool (.bl b) = some (.bl true) := by rfl
theorem v_i_bool_int {i : Int} : isiD .bool (.int i) = some (.bl false) := by rfl
theorem v_i_bool_str {s : Str} : isiD .bool (.str s) = some (.bl false) := by rfl
theorem v_i_bool_tup {xs : List D} : isiD .bool (.tup xs) = some (.bl false) := by rfl
theorem v_i_bool_lst {o : Bool} {xs : List D} : isiD .bool (.lst o xs) = some (.bl false) := by rfl
theorem v_ixt_0 {x0 : D} {r : List D} : ixD (.tup (x0 :: r)) (.int 0) = some x0 := ix_t (by decide) rfl
theorem v_ixl_0 {x0 : D} {o : Bool} {r : List D} : ixD (.lst o (x0 :: r)) (.int 0) = some x0 := ix_l (by decide) rfl
theorem v_set_0 {x0 : D} {r : List D} {y : D} : (x0 :: r).set 0 y = y :: r := rfl
theorem v_ixN_0 {x0 : D} {r : List D} : ixN (x0 :: r).length 0 = some 0 := by
  unfold ixN
  rw [if_pos (by decide), if_pos (by simp only [List.length_cons]; omega)]
  rfl
theorem v_ixt_1 {x0 x1 : D} {r : List D} : ixD (.tup (x0 :: x1 :: r)) (.int 1) = some x1 := ix_t (by decide) rfl
theorem v_ixl_1 {x0 x1 : D} {o : Bool} {r : List D} : ixD (.lst o (x0 :: x1 :: r)) (.int 1) = some x1 := ix_l (by decide) rfl
theorem v_set_1 {x0 x1 : D} {r : List D} {y : D} : (x0 :: x1 :: r).set 1 y = x0 :: y :: r := rfl
theorem v_ixN_1 {x0 x1 : D} {r : List D} : ixN (x0 :: x1 :: r).length 1 = some 1 := by
  unfold ixN
  rw [if_pos (by decide), if_pos (by simp only [List.length_cons]; omega)]
  rfl
theorem v_ixt_2 {x0 x1 x2 : D} {r : List D} : ixD (.tup (x0 :: x1 :: x2 :: r)) (.int 2) = some x2 := ix_t (by decide) rfl
theorem v_ixl_2 {x0 x1 x2 : D} {o : Bool} {r : List D} : ixD (.lst o (x0 :: x1 :: x2 :: r)) (.int 2) = some x2 := ix_l (by decide) rfl
theorem v_set_2 {x0 x1 x2 : D} {r : List D} {y : D} : (x0 :: x1 :: x2 :: r).set 2 y = x0 :: x1 :: y :: r := rfl
theorem v_ixN_2 {x0 x1 x2 : D} {r : List D} : ixN (x0 :: x1 :: x2 :: r).length 2 = some 2 := by
  unfold ixN
  rw [if_pos (by decide), if_pos (by simp only [List.length_cons]; omega)]
  rfl
theorem v_ixt_3 {x0 x1 x2 x3 : D} {r : List D} : ixD (.tup (x0 :: x1 :: x2 :: x3 :: r)) (.int 3) = some x3 := ix_t (by decide) rfl
theorem v_ixl_3 {x0 x1 x2 x3 : D} {o : Bool} {r : List D} : ixD (.lst o (x0 :: x1 :: x2 :: x3 :: r)) (.int 3) = some x3 := ix_l (by decide) rfl
theorem v_set_3 {x0 x1 x2 x3 : D} {r : List D} {y : D} : (x0 :: x1 :: x2 :: x3 :: r).set 3 y = x0 :: x1 :: x2 :: y :: r := rfl
theorem v_ixN_3 {x0 x1 x2 x3 : D} {r : List D} : ixN (x0 :: x1 :: x2 :: x3 :: r).length 3 = some 3 := by
  unfold ixN
  rw [if_pos (by decide), if_pos (by simp only [List.length_cons]; omega)]
  rfl
theorem v_ixt_4 {x0 x1 x2 x3 x4 : D} {r : List D} : ixD (.tup (x0 :: x1 :: x2 :: x3 :: x4 :: r)) (.int 4) = some x4 := ix_t (by decide) rfl
theorem v_ixl_4 {x0 x1 x2 x3 x4 : D} {o : Bool} {r : List D} : ixD (.lst o (x0 :: x1 :: x2 :: x3 :: x4 :: r)) (.int 4) = some x4 := ix_l (by decide) rfl
theorem v_set_4 {x0 x1 x2 x3 x4 : D} {r : List D} {y : D} : (x0 :: x1 :: x2 :: x3 :: x4 :: r).set 4 y = x0 :: x1 :: x2 :: x3 :: y :: r := rfl
theorem v_ixN_4 {x0 x1 x2 x3 x4 : D} {r : List D} : ixN (x0 :: x1 :: x2 :: x3 :: x4 :: r).length 4 = some 4 := by
  unfold ixN
  rw [if_pos (by decide), if_pos (by simp only [List.length_cons]; omega)]
  rfl
theorem v_ixt_5 {x0 x1 x2 x3 x4 x5 : D} {r : List D} : ixD (.tup (x0 :: x1 :: x2 :: x3 :: x4 :: x5 :: r)) (.int 5) = some x5 := ix_t (by decide) rfl
theorem v_ixl_5 {x0 x1 x2 x3 x4 x5 : D} {o : Bool} {r : List D} : ixD (.lst o (x0 :: x1 :: x2 :: x3 :: x4 :: x5 :: r)) (.int 5) = some x5 := ix_l (by decide) rfl
theorem v_set_5 {x0 x1 x2 x3 x4 x5 : D} {r : List D} {y : D} : (x0 :: x1 :: x2 :: x3 :: x4 :: x5 :: r).set 5 y = x0 :: x1 :: x2 :: x3 :: x4 :: y :: r := rfl
theorem v_ixN_5 {x0 x1 x2 x3 x4 x5 : D} {r : List D} : ixN (x0 :: x1 :: x2 :: x3 :: x4 :: x5 :: r).length 5 = some 5 := by
  unfold ixN
  rw [if_pos (by decide), if_pos (by simp only [List.length_cons]; omega)]
  rfl
theorem v_ixt_6 {x0 x1 x2 x3 x4 x5 x6 : D} {r : List D} : ixD (.tup (x0 :: x1 :: x2 :: x3 :: x4 :: x5 :: x6 :: r)) (.int 6) = some x6 := ix_t (by decide) rfl
theorem v_ixl_6 {x0 x1 x2 x3 x4 x5 x6 : D} {o : Bool} {r : List D} : ixD (.lst o (x0 :: x1 :: x2 :: x3 :: x4 :: x5 :: x6 :: r)) (.int 6) = some x6 := ix_l (by decide) rfl
theorem v_set_6 {x0 x1 x2 x3 x4 x5 x6 : D} {r : List D} {y : D} : (x0 :: x1 :: x2 :: x3 :: x4 :: x5 :: x6 :: r).set 6 y = x0 :: x1 :: x2 :: x3 :: x4 :: x5 :: y :: r := rfl
theorem v_ixN_6 {x0 x1 x2 x3 x4 x5 x6 : D} {r : List D} : ixN (x0 :: x1 :: x2 :: x3 :: x4 :: x5 :: x6 :: r).length 6 = some 6 := by
  unfold ixN
  rw [if_pos (by decide), if_pos (by simp only [List.length_cons]; omega)]
  rfl
theorem v_ixt_7 {x0 x1 x2 x3 x4 x5 x6 x7 : D} {r : List D} : ixD (.tup (x0 :: x1 :: x2 :: x3 :: x4 :: x5 :: x6 :: x7 :: r)) (.int 7) = some x7 := ix_t (by decide) rfl
theorem v_ixl_7 {x0 x1 x2 x3 x4 x5 x6 x7 : D} {o : Bool} {r : List D} : ixD (.lst o (x0 :: x1 :: x2 :: x3 :: x4 :: x5 :: x6 :: x7 :: r)) (.int 7) = some x7 := ix_l (by decide) rfl
theorem v_set_7 {x0 x1 x2 x3 x4 x5 x6 x7 : D} {r : List D} {y : D} : (x0 :: x1 :: x2 :: x3 :: x4 :: x5 :: x6 :: x7 :: r).set 7 y = x0 :: x1 :: x2 :: x3 :: x4 :: x5 :: x6 :: y :: r := rfl
theorem v_ixN_7 {x0 x1 x2 x3 x4 x5 x6 x7 : D} {r : List D} : ixN (x0 :: x1 :: x2 :: x3 :: x4 :: x5 :: x6 :: x7 :: r).length 7 = some 7 := by
  unfold ixN
  rw [if_pos (by decide), if_pos (by simp only [List.length_cons]; omega)]
  rfl
theorem v_ixt_8 {x0 x1 x2 x3 x4 x5 x6 x7 x8 : D} {r : List D} : ixD (.tup (x0 :: x1 :: x2 :: x3 :: x4 :: x5 :: x6 :: x7 :: x8 :: r)) (.int 8) = some x8 := ix_t (by decide) rfl
theorem v_ixl_8 {x0 x1 x2 x3 x4 x5 x6 x7 x8 : D} {o : Bool} {r : List D} : ixD (.lst o (x0 :: x1 :: x2 :: x3 :: x4 :: x5 :: x6 :: x7 :: x8 :: r)) (.int 8) = some x8 := ix_l (by decide) rfl
theorem v_set_8 {x0 x1 x2 x3 x4 x5 x6 x7 x8 : D} {r : List D} {y : D} : (x0 :: x1 :: x2 :: x3 :: x4 :: x5 :: x6 :: x7 :: x8 :: r).set 8 y = x0 :: x1 :: x2 :: x3 :: x4 :: x5 :: x6 :: x7 :: y :: r := rfl
theorem v_ixN_8 {x0 x1 x2 x3 x4 x5 x6 x7 x8 : D} {r : List D} : ixN (x0 :: x1 :: x2 :: x3 :: x4 :: x5 :: x6 :: x7 :: x8 :: r).length 8 = some 8 := by
  unfold ixN
  rw [if_pos (by decide), if_pos (by simp only [List.length_cons]; omega)]
  rfl
theorem v_ixt_9 {x0 x1 x2 x3 x4 x5 x6 x7 x8 x9 : D} {r : List D} : ixD (.tup (x0 :: x1 :: x2 :: x3 :: x4 :: x5 :: x6 :: x7 :: x8 :: x9 :: r)) (.int 9) = some x9 := ix_t (by decide) rfl
theorem v_ixl_9 {x0 x1 x2 x3 x4 x5 x6 x7 x8 x9 : D} {o : Bool} {r : List D} : ixD (.lst o (x0 :: x1 :: x2 :: x3 :: x4 :: x5 :: x6 :: x7 :: x8 :: x9 :: r)) (.int 9) = some x9 := ix_l (by decide) rfl
theorem v_set_9 {x0 x1 x2 x3 x4 x5 x6 x7 x8 x9 : D} {r : List D} {y : D} : (x0 :: x1 :: x2 :: x3 :: x4 :: x5 :: x6 :: x7 :: x8 :: x9 :: r).set 9 y = x0 :: x1 :: x2 :: x3 :: x4 :: x5 :: x6 :: x7 :: x8 :: y :: r := rfl
theorem v_ixN_9 {x0 x1 x2 x3 x4 x5 x6 x7 x8 x9 : D} {r : List D} : ixN (x0 :: x1 :: x2 :: x3 :: x4 :: x5 :: x6 :: x7 :: x8 :: x9 :: r).length 9 = some 9 := by
  unfold ixN
  rw [if_pos (by decide), if_pos (by simp only [List.length_cons]; omega)]
  rfl
theorem v_ixt_10 {x0 x1 x2 x3 x4 x5 x6 x7 x8 x9 x10 : D} {r : List D} : ixD (.tup (x0 :: x1 :: x2 :: x3 :: x4 :: x5 :: x6 :: x7 :: x8 :: x9 :: x10 :: r)) (.int 10) = some x10 := ix_t (by decide) rfl
theorem v_ixl_10 {x0 x1 x2 x3 x4 x5 x6 x7 x8 x9 x10 : D} {o : Bool} {r : List D} : ixD (.lst o (x0 :: x1 :: x2 :: x3 :: x4 :: x5 :: x6 :: x7 :: x8 :: x9 :: x10 :: r)) (.int 10) = some x10 := ix_l (by decide) rfl
theorem v_set_10 {x0 x1 x2 x3 x4 x5 x6 x7 x8 x9 x10 : D} {r : List D} {y : D} : (x0 :: x1 :: x2 :: x3 :: x4 :: x5 :: x6 :: x7 :: x8 :: x9 :: x10 :: r).set 10 y = x0 :: x1 :: x2 :: x3 :: x4 :: x5 :: x6 :: x7 :: x8 :: x9 :: y :: r := rfl
theorem v_ixN_10 {x0 x1 x2 x3 x4 x5 x6 x7 x8 x9 x10 : D} {r : List D} : ixN (x0 :: x1 :: x2 :: x3 :: x4 :: x5 :: x6 :: x7 :: x8 :: x9 :: x10 :: r).length 10 = some 10 := by
  unfold ixN
  rw [if_pos (by decide), if_pos (by simp only [List.length_cons]; omega)]
  rfl
theorem v_ixt_11 {x0 x1 x2 x3 x4 x5 x6 x7 x8 x9 x10 x11 : D} {r : List D} : ixD (.tup (x0 :: x1 :: x2 :: x3 :: x4 :: x5 :: x6 :: x7 :: x8 :: x9 :: x10 :: x11 :: r)) (.int 11) = some x11 := ix_t (by decide) rfl
theorem v_ixl_11 {x0 x1 x2 x3 x4 x5 x6 x7 x8 x9 x10 x11 : D} {o : Bool} {r : List D} : ixD (.lst o (x0 :: x1 :: x2 :: x3 :: x4 :: x5 :: x6 :: x7 :: x8 :: x9 :: x10 :: x11 :: r)) (.int 11) = some x11 := ix_l (by decide) rfl
theorem v_set_11 {x0 x1 x2 x3 x4 x5 x6 x7 x8 x9 x10 x11 : D} {r : List D} {y : D} : (x0 :: x1 :: x2 :: x3 :: x4 :: x5 :: x6 :: x7 :: x8 :: x9 :: x10 :: x11 :: r).set 11 y = x0 :: x1 :: x2 :: x3 :: x4 :: x5 :: x6 :: x7 :: x8 :: x9 :: x10 :: y :: r := rfl
theorem v_ixN_11 {x0 x1 x2 x3 x4 x5 x6 x7 x8 x9 x10 x11 : D} {r : List D} : ixN (x0 :: x1 :: x2 :: x3 :: x4 :: x5 :: x6 :: x7 :: x8 :: x9 :: x10 :: x11 :: r).length 11 = some 11 := by
  unfold ixN
  rw [if_pos (by decide), if_pos (by simp only [List.length_cons]; omega)]
  rfl
theorem v_ixt_12 {x0 x1 x2 x3 x4 x5 x6 x7 x8 x9 x10 x11 x12 : D} {r : List D} : ixD (.tup (x0 :: x1 :: x2 :: x3 :: x4 :: x5 :: x6 :: x7 :: x8 :: x9 :: x10 :: x11 :: x12 :: r)) (.int 12) = some x12 := ix_t (by decide) rfl
theorem v_ixl_12 {x0 x1 x2 x3 x4 x5 x6 x7 x8 x9 x10 x11 x12 : D} {o : Bool} {r : List D} : ixD (.lst o (x0 :: x1 :: x2 :: x3 :: x4 :: x5 :: x6 :: x7 :: x8 :: x9 :: x10 :: x11 :: x12 :: r)) (.int 12) = some x12 := ix_l (by decide) rfl
theorem v_set_12 {x0 x1 x2 x3 x4 x5 x6 x7 x8 x9 x10 x11 x12 : D} {r : List D} {y : D} : (x0 :: x1 :: x2 :: x3 :: x4 :: x5 :: x6 :: x7 :: x8 :: x9 :: x10 :: x11 :: x12 :: r).set 12 y = x0 :: x1 :: x2 :: x3 :: x4 :: x5 :: x6 :: x7 :: x8 :: x9 :: x10 :: x11 :: y :: r := rfl
theorem v_ixN_12 {x0 x1 x2 x3 x4 x5 x6 x7 x8 x9 x10 x11 x12 : D} {r : List D} : ixN (x0 :: x1 :: x2 :: x3 :: x4 :: x5 :: x6 :: x7 :: x8 :: x9 :: x10 :: x11 :: x12 :: r).length 12 = some 12 := by
  unfold ixN
  rw [if_pos (by decide), if_pos (by simp only [List.length_cons]; omega)]
  rfl
end Fw
end

section
set_option linter.all false
set_option maxRecDepth 100000
namespace Fw
open PySem L2
/-! ### comprehensions, common facts -/
set_option checkBinderAnnotations false
theorem wip_nil {e : Env} {K : Env → Prop} : @Wip e [] K ↔ K e := Iff.rfl
theorem wip_cons {v : Nat} {vs : List Nat} {e : Env} {K : Env → Prop} : @Wip e (v :: vs) K ↔ @Wip e vs fun e => @Put v none e K := Iff.rfl
def LpE (ds : List D) (p : Bool) (vs : List Nat) (Fg : FG) (Ft : FT) (Fe : FE) (e0 e : Env) [Q : D → Env → Prop] : Prop := ∃ I : List D → List D → Env → Prop, @Wip e vs (I ds []) ∧
    (∀ d rest acc e, I (d :: rest) acc e → @GG Fg d e fun e2 => @XT Ft e2 fun b e3 => @Br b (@XE Fe e3 fun x e4 => @And2 (acc.length < big) (@Wip e4 vs fun e5 => I rest (acc ++ [x]) e5)) (@Wip e3 vs fun e5 => I rest acc e5)) ∧
    ∀ acc e2, I [] acc e2 → Q (.lst true acc) (if p = true then e0 else e2)
def LpS (ds : List D) (Fg : FG) (Fb : FS) (e : Env) [N : Env → Prop] [Rt : D → Env → Prop] [B : Env → Prop] [C : Env → Prop] : Prop := ∃ I : List D → Env → Prop, I ds e ∧ (∀ d rest e, I (d :: rest) e → @GG Fg d e fun e2 => @XS Fb e2 (I rest) Rt N (I rest)) ∧ ∀ e, I [] e → N e
section
variable {env : Env} {Q : D → Env → Prop} {N : Env → Prop} {Rt : D → Env → Prop} {B C : Env → Prop} {ds : List D} {Fg : FG} {Fb : FS} {e : Env} {p : Bool} {vs : List Nat} {Ft : FT} {Fe : FE} {Fi : FI}
theorem S_for2 (h : @XI Fi env fun ds e => @LpS ds Fg Fb e N Rt B C) : @XS (fFor Fi Fg Fb) env N Rt B C := okS_for h
theorem E_lc (h : @XI Fi env fun ds e => @LpE ds p vs Fg Ft Fe env e Q) : @XE (fLc p vs Fi Fg Ft Fe) env Q := by
  refine okE_lc ?_
  refine cast (congrArg _ ?_) h
  rfl
theorem lpS (I : List D → Env → Prop) (h : I ds e) (k : ∀ d rest e, I (d :: rest) e → @GG Fg d e fun e2 => @XS Fb e2 (I rest) Rt N (I rest)) (f : ∀ e, I [] e → N e) : @LpS ds Fg Fb e N Rt B C := ⟨I, h, k, f⟩
theorem lpE {e0 : Env} (I : List D → List D → Env → Prop) (h : @Wip e vs (I ds [])) (k : ∀ d rest acc e, I (d :: rest) acc e → @GG Fg d e fun e2 => @XT Ft e2 fun b e3 => @Br b (@XE Fe e3 fun x e4 => @And2 (acc.length < big) (@Wip e4 vs fun e5 => I rest (acc ++ [x]) e5)) (@Wip e3 vs fun e5 => I rest acc e5))
    (f : ∀ acc e2, I [] acc e2 → Q (.lst true acc) (if p = true then e0 else e2)) : @LpE ds p vs Fg Ft Fe e0 e Q := ⟨I, h, k, f⟩
end
theorem and2_i {A B : Prop} (a : A) (b : B) : @And2 A B := ⟨a, b⟩
theorem opt_i {A : Type} {o : Option A} {a : A} {Q : A → Prop} (e : o = some a) (h : Q a) : @Opt A o Q := ⟨a, e, h⟩
theorem rng_mem {lo : Int} {n : Nat} {d : D} (h : d ∈ rangeD lo n) : ∃ i : Int, d = .int i ∧ lo ≤ i ∧ i < lo + n := by
  obtain ⟨i, hi, rfl⟩ := List.mem_map.mp h
  have := List.mem_range.mp hi
  exact ⟨_, rfl, by omega, by omega⟩
theorem rng_len {lo : Int} {n : Nat} : (rangeD lo n).length = n := by simp [rangeD]
theorem frzs_snoc {xs : List D} {d : D} (h : frzs xs = true) (k : d.frz = true) : frzs (xs ++ [d]) = true := frzs_append h (by rw [frzs, k]; rfl)
theorem rows_turn {xs : List D} {p : D → Prop} {x : D} (h : ∀ c ∈ xs, p c) (k : p x) : ∀ c ∈ xs ++ [x], p c := fun c q => by
  rcases List.mem_append.mp q with q | q
  · exact h c q
  · rw [List.mem_singleton.mp q]; exact k
theorem fr_l {o : Bool} {xs : List D} (h : frzs xs = true) : (D.lst o xs).fr = .lst false xs := by
  show D.lst false (Fw.frs xs) = _
  rw [frzs_frs xs h]
theorem popAt_o {xs : List D} {i : Int} (h0 : 0 ≤ i) (h1 : i < xs.length) (h2 : xs.length < 1000000) : ∃ d, d ∈ xs ∧ gPopAt xs [.int i] = some (d, xs.eraseIdx i.toNat) := by
  have hi : i.toNat < xs.length := by omega
  refine ⟨xs[i.toNat], List.getElem_mem hi, ?_⟩
  have e : ixN xs.length i = some i.toNat := v_ixN h0 (by omega)
  show (if small62 i = true then (ixN xs.length i).bind fun k => xs[k]?.bind fun d => some (d, xs.eraseIdx k) else none) = _
  rw [if_pos (v_ss (by omega) (by omega)), e]
  show (xs[i.toNat]?.bind fun d => some (d, xs.eraseIdx i.toNat)) = _
  rw [List.getElem?_eq_getElem hi]
  rfl
theorem mem_cut {A : Type} {xs : List A} {lo hi : Option Int} {x : A} (h : x ∈ cutA xs lo hi) : x ∈ xs := List.mem_of_mem_drop (List.mem_of_mem_take h)
theorem len_cut {A : Type} {xs : List A} {lo hi : Option Int} : (cutA xs lo hi).length ≤ xs.length := by
  unfold cutA
  rw [List.length_take, List.length_drop]
  omega
theorem mod_lt {x m : Int} : x % max m 1 < m ∨ x % max m 1 = 0 := by
  have h1 : 0 < max m 1 := by omega
  have h2 := Int.emod_lt_of_pos x h1
  have h3 := Int.emod_nonneg x (Int.ne_of_gt h1)
  omega
theorem mod_nn {x m : Int} : 0 ≤ x % max m 1 := Int.emod_nonneg x (by omega)
theorem ok_eq2 {f : Fn} {as : List D} {d : D} {ds : List D} (h : OkF f as fun x y => x = d ∧ y = ds) : f as = .ok (d, ds) :=
  ok_eq (R.wp_mono h.w (fun r q => Prod.ext q.1 q.2) fun _ x => x)
theorem okF_eq {f : Fn} {as : List D} {d : D} {ds : List D} {P : D → List D → Prop} (e : f as = .ok (d, ds)) (h : P d ds) : OkF f as P := by
  refine ⟨?_⟩
  unfold Z.OkF
  rw [e]
  exact h
theorem v_p1018 : powD (.int 10) (.int 18) = some (.int 1000000000000000000) := by rfl
def IsI (d : D) : Prop := ∃ i : Int, d = .int i
theorem all_true {told : List D} (h : ∀ d ∈ told, d = .bl true) : inP true (.bl false) (.lst true told) = some (.bl true) := by
  have h1 : nds told = true := by
    induction told with
    | nil => rfl
    | cons x xs ih =>
      rw [nds, h x List.mem_cons_self, ih fun d hd => h d (List.mem_cons_of_mem _ hd)]
      rfl
  have h2 : (told.any fun z => z.eqv (.bl false)) = false := by
    rw [List.any_eq_false]
    intro d hd
    rw [h d hd]
    decide
  rw [v_in_l okP_bl h1, h2]
  rfl
end Fw
end

section
set_option linter.all false
set_option maxRecDepth 100000
namespace Fw
open PySem L2
/-! ### keys: texts, or pairs of texts; their order -/
def IsS (n : Nat) (x : D) : Prop := ∃ s : Str, x = .str s ∧ s.length ≤ n
def Kp (b : Bool) (n : Nat) (x : D) : Prop := (b = false ∧ ∃ s : Str, x = .str s ∧ s.length ≤ n) ∨ (b = true ∧ ∃ s t : Str, x = .tup [.str s, .str t] ∧ s.length ≤ n ∧ t.length ≤ n)
theorem Kp.mono {b : Bool} {n m : Nat} {x : D} (h : Kp b n x) (k : n ≤ m) : Kp b m x := by
  rcases h with ⟨h, s, e, l⟩ | ⟨h, s, t, e, l, l2⟩
  · exact .inl ⟨h, s, e, by omega⟩
  · exact .inr ⟨h, s, t, e, by omega, by omega⟩
theorem Kp.frz {b : Bool} {n : Nat} {x : D} (h : Kp b n x) : x.frz = true := by
  rcases h with ⟨h, s, rfl, l⟩ | ⟨h, s, t, rfl, l, l2⟩ <;> rfl
theorem Kp.nd {b : Bool} {n : Nat} {x : D} (h : Kp b n x) : x.nd = true := by
  rcases h with ⟨h, s, rfl, l⟩ | ⟨h, s, t, rfl, l, l2⟩ <;> rfl
theorem Kp.notN {b : Bool} {n : Nat} {x : D} (h : Kp b n x) : x.isN = false := by
  rcases h with ⟨h, s, rfl, l⟩ | ⟨h, s, t, rfl, l, l2⟩ <;> rfl
theorem Kp.alike {b : Bool} {n m : Nat} {x y : D} (h : Kp b n x) (k : Kp b m y) : PySem.W.alike x.py y.py = true := by
  rcases h with ⟨h, s, rfl, l⟩ | ⟨h, s, t, rfl, l, l2⟩ <;> rcases k with ⟨k, s, rfl, l⟩ | ⟨k, s, t, rfl, l, l2⟩
  · simp [D.py, PySem.W.alike]
  · rw [h] at k; cases k
  · rw [h] at k; cases k
  · simp [D.py, pys, PySem.W.alike, PySem.W.alikeAll]
theorem Kp.depth {b : Bool} {n : Nat} {x : D} (h : Kp b n x) : x.py.depth ≤ 64 := by
  rcases h with ⟨h, s, rfl, l⟩ | ⟨h, s, t, rfl, l, l2⟩
  · simp [D.py, PyData.depth]
  · simp [D.py, pys, PyData.depth, PyData.depthAll]
theorem Kp.okP {b : Bool} {n : Nat} {x : D} (h : Kp b n x) : x.okP = true := by
  unfold D.okP
  rw [h.nd, decide_eq_true h.depth]
  rfl
theorem ltB_irr {x : D} : ltB x x = false := (PyProof.Rows.listOrd PyProof.Rows.itemOrd).irrefl _
theorem ltB_trans {x y z : D} (h : ltB x y = true) (k : ltB y z = true) : ltB x z = true := (PyProof.Rows.listOrd PyProof.Rows.itemOrd).trans _ _ _ h k
theorem ltB_neg {x y z : D} (h : ltB x z = true) : ltB x y = true ∨ ltB y z = true := (PyProof.Rows.listOrd PyProof.Rows.itemOrd).negTrans _ _ _ h
theorem kp_eq {b : Bool} {n m : Nat} {x y : D} (h : Kp b n x) (k : Kp b m y) (h1 : ltB x y = false) (h2 : ltB y x = false) : x = y := by
  have t : PySem.W.keyToks x.py = PySem.W.keyToks y.py := (PyProof.Rows.listOrd PyProof.Rows.itemOrd).total _ _ h1 h2
  rcases h with ⟨h, s, rfl, l⟩ | ⟨h, s, u, rfl, l, l2⟩ <;> rcases k with ⟨k, s', rfl, l'⟩ | ⟨k, s', u', rfl, l', l2'⟩
  · simp only [D.py, PySem.W.keyToks, List.cons.injEq, Sum.inr.injEq, and_true] at t
    rw [PySem.W.str_of_cps t]
  · rw [h] at k; cases k
  · rw [h] at k; cases k
  · simp only [D.py, pys, PySem.W.keyToks, PySem.W.keyToksAll, List.cons_append, List.nil_append, List.cons.injEq, Sum.inr.injEq, and_true, true_and] at t
    rw [PySem.W.str_of_cps t.1, PySem.W.str_of_cps t.2]
theorem kp_ok {b : Bool} {n m : Nat} {x y : D} (h : Kp b n x) (k : Kp b m y) : okAl x y = true := by
  unfold okAl
  simp [h.nd, k.nd, h.notN, k.notN, h.alike k, k.alike h, h.alike h, k.alike k, h.depth, k.depth, h.frz, k.frz]
theorem kp_cmp {b : Bool} {n m : Nat} {x y : D} {f : PyData → PyData → Bool} (h : Kp b n x) (k : Kp b m y) : cmpD f x y = some (.bl (f x.py y.py)) := if_pos ⟨h.nd, k.nd, h.alike k, h.notN, h.depth⟩
theorem kp_max {b : Bool} {n m : Nat} {x y : D} (h : Kp b n x) (k : Kp b m y) : maxA x y = some (if ltB x y = true then y else x) := if_pos (kp_ok h k)
theorem kp_min {b : Bool} {n m : Nat} {x y : D} (h : Kp b n x) (k : Kp b m y) : minA x y = some (if ltB y x = true then y else x) := if_pos (kp_ok h k)
theorem nds_all {ds : List D} (h : ∀ d ∈ ds, d.nd = true) : nds ds = true := by
  induction ds with
  | nil => rfl
  | cons x xs ih =>
    rw [nds, h x List.mem_cons_self, ih fun d hd => h d (List.mem_cons_of_mem _ hd)]
    rfl
/-- is it among others -/
theorem kp_in {b : Bool} {n m : Nat} {x : D} {xs : List D} {neg o : Bool} (h : Kp b n x) (k : ∀ y ∈ xs, Kp b m y) : inP neg x (.lst o xs) = some (.bl (if neg = true then !xs.any fun z => z.eqv x else xs.any fun z => z.eqv x)) := v_in_l h.okP (nds_all fun y hy => (k y hy).nd)
theorem kp_sorted {b : Bool} {n : Nat} {o : Bool} {xs : List D} (k : ∀ y ∈ xs, Kp b n y) (hl : xs.length ≤ 1000000) : sortedD (.lst o xs) = some (.lst true (srtD xs)) := by
  refine if_pos ?_
  unfold okSrt
  simp only [Bool.and_eq_true, Bool.or_eq_true, decide_eq_true_eq]
  refine ⟨⟨⟨⟨⟨nds_all fun y hy => (k y hy).nd, frzs_all fun y hy => (k y hy).frz⟩, ?_⟩, ?_⟩, ?_⟩, show xs.length ≤ 16777216 by omega⟩
  · exact List.all_eq_true.mpr fun x hx => List.all_eq_true.mpr fun y hy => (k x hx).alike (k y hy)
  · cases b with
    | true =>
      refine .inl (List.all_eq_true.mpr fun x hx => ?_)
      rcases k x hx with ⟨h, _⟩ | ⟨_, s, t, rfl, _⟩
      · cases h
      · rfl
    | false =>
      refine .inr (List.all_eq_true.mpr fun x hx => ?_)
      rcases k x hx with ⟨_, s, rfl, _⟩ | ⟨h, _⟩
      · rfl
      · cases h
  · exact List.all_eq_true.mpr fun x hx => decide_eq_true (k x hx).depth
theorem mem_srt {xs : List D} {x : D} : x ∈ srtD xs ↔ x ∈ xs := (List.mergeSort_perm _ _).mem_iff
theorem len_srt {xs : List D} : (srtD xs).length = xs.length := (List.mergeSort_perm _ _).length_eq
/-! ranks of finitely many -/
def rk (L : List D) (x : D) : Int := (L.countP fun z => ltB z x : Nat)
theorem count_le {A : Type} {p q : A → Bool} {l : List A} (h : ∀ x ∈ l, p x = true → q x = true) : l.countP p ≤ l.countP q := List.countP_mono_left h
theorem count_lt {A : Type} {p q : A → Bool} : ∀ {l : List A}, (∀ x ∈ l, p x = true → q x = true) → (∃ x ∈ l, p x = false ∧ q x = true) → l.countP p < l.countP q
  | [], _, ⟨_, h, _⟩ => by cases h
  | y :: ys, h, ⟨x, hx, h1, h2⟩ => by
    rw [List.countP_cons, List.countP_cons]
    have hl := count_le fun z hz => h z (List.mem_cons_of_mem y hz)
    rcases List.mem_cons.mp hx with rfl | hx
    · rw [h1, h2]
      simp only [Bool.false_eq_true, if_false, if_true]
      omega
    · have ih := count_lt (fun z hz => h z (List.mem_cons_of_mem y hz)) ⟨x, hx, h1, h2⟩
      have hy := h y List.mem_cons_self
      cases hp : p y
      · simp only [Bool.false_eq_true, if_false]
        split <;> omega
      · rw [hy hp]
        simp only [if_true]
        omega
theorem rk_lt {L : List D} {x y : D} (hx : x ∈ L) : ltB x y = decide (rk L x < rk L y) := by
  cases c : ltB x y with
  | true =>
    have := count_lt (p := fun z => ltB z x) (q := fun z => ltB z y) (l := L) (fun z _ q => ltB_trans q c) ⟨x, hx, ltB_irr, c⟩
    exact (decide_eq_true (show rk L x < rk L y by unfold rk; omega)).symm
  | false =>
    have := count_le (p := fun z => ltB z y) (q := fun z => ltB z x) (l := L) (fun z _ q => by
      rcases ltB_neg (y := x) q with w | w
      · exact w
      · rw [c] at w; cases w)
    exact (decide_eq_false (show ¬ rk L x < rk L y by unfold rk; omega)).symm
theorem rk_eq {b : Bool} {n m : Nat} {L : List D} {x y : D} (h : Kp b n x) (k : Kp b m y) (hx : x ∈ L) (hy : y ∈ L) (e : rk L x = rk L y) : x = y :=
  kp_eq h k (by rw [rk_lt hx, decide_eq_false (by omega)]) (by rw [rk_lt hy, decide_eq_false (by omega)])
theorem rank_facts {b : Bool} {n : Nat} (L : List D) (h : ∀ x ∈ L, Kp b n x) : ∃ r : D → Int, (∀ x ∈ L, ∀ y ∈ L, ltD x y = some (.bl (decide (r x < r y)))) ∧ (∀ x ∈ L, ∀ y ∈ L, leD x y = some (.bl (!decide (r y < r x)))) ∧
    (∀ x ∈ L, ∀ y ∈ L, maxA x y = some (if r x < r y then y else x)) ∧ (∀ x ∈ L, ∀ y ∈ L, minA x y = some (if r y < r x then y else x)) ∧ (∀ x ∈ L, ∀ y ∈ L, (r x < r y ∧ ¬ r y < r x) ∨ (r x = r y ∧ x = y) ∨ (r y < r x ∧ ¬ r x < r y)) ∧
    (∀ x ∈ L, ∀ y ∈ L, ltB x y = true → r x < r y) := by
  refine ⟨rk L, fun x hx y hy => ?_, fun x hx y hy => ?_, fun x hx y hy => ?_, fun x hx y hy => ?_, fun x hx y hy => ?_, fun x hx y hy q => ?_⟩
  · rw [← rk_lt hx]; exact kp_cmp (h x hx) (h y hy)
  · rw [← rk_lt hy]; exact kp_cmp (h x hx) (h y hy)
  · rw [kp_max (h x hx) (h y hy), rk_lt hx]
    simp only [decide_eq_true_eq]
  · rw [kp_min (h x hx) (h y hy), rk_lt hy]
    simp only [decide_eq_true_eq]
  · rcases Int.lt_trichotomy (rk L x) (rk L y) with q | q | q
    · exact .inl ⟨q, by omega⟩
    · exact .inr (.inl ⟨q, rk_eq (h x hx) (h y hy) hx hy q⟩)
    · exact .inr (.inr ⟨q, by omega⟩)
  · rw [rk_lt hx] at q
    exact of_decide_eq_true q
/-! texts -/
theorem len_cat {a b : Str} : (a ++ b).length = a.length + b.length := by
  show (Str.mk (a.cps ++ b.cps)).cps.size = _
  rw [Array.size_append]
  rfl
theorem len_cutS {s : Str} {lo hi : Option Int} : (cutS s lo hi).length ≤ s.length := by
  unfold cutS
  show (List.toArray _).size ≤ _
  rw [List.size_toArray, List.length_take, List.length_drop]
  have : s.cps.toList.length = s.length := Array.length_toList
  omega
theorem allS_map {ys : List Str} : allS (ys.map D.str) = some ys := by
  induction ys with
  | nil => rfl
  | cons y ys ih =>
    show (allS (ys.map D.str)).map _ = _
    rw [ih]
    rfl
theorem strs_of {n : Nat} : ∀ {ds : List D}, (∀ d ∈ ds, IsS n d) → ∃ ys : List Str, ds = ys.map D.str ∧ ∀ y ∈ ys, y.length ≤ n
  | [], _ => ⟨[], rfl, fun y hy => by cases hy⟩
  | d :: ds, h => by
    obtain ⟨ys, rfl, h2⟩ := strs_of fun x hx => h x (List.mem_cons_of_mem d hx)
    obtain ⟨s, rfl, hs⟩ := h d List.mem_cons_self
    refine ⟨s :: ys, rfl, fun y hy => ?_⟩
    rcases List.mem_cons.mp hy with rfl | hy
    · exact hs
    · exact h2 y hy
theorem cut_take {A : Type} {xs : List A} {i : Int} (h : 0 ≤ i) : cutA xs none (some i) = xs.take i.toNat := by
  unfold cutA
  show (xs.drop 0).take ((if i < 0 then (i + (xs.length : Int)).toNat else min i.toNat xs.length) - 0) = _
  rw [if_neg (by omega), List.drop_zero, Nat.sub_zero]
  by_cases c : i.toNat ≤ xs.length
  · rw [Nat.min_eq_left c]
  · rw [Nat.min_eq_right (by omega), List.take_length, List.take_of_length_le (by omega)]
theorem cut_drop {A : Type} {xs : List A} {i : Int} (h : 0 ≤ i) : cutA xs (some i) none = xs.drop i.toNat := by
  have e : HT.sIx xs.length 0 (some i) = min i.toNat xs.length := if_neg (by omega)
  unfold cutA
  rw [e]
  show (xs.drop (min i.toNat xs.length)).take (xs.length - min i.toNat xs.length) = _
  rw [List.take_of_length_le (by rw [List.length_drop]; exact Nat.le_refl _)]
  by_cases c : i.toNat ≤ xs.length
  · rw [Nat.min_eq_left c]
  · rw [Nat.min_eq_right (by omega), List.drop_length, List.drop_of_length_le (by omega)]
theorem cut_ne {A : Type} {xs : List A} {i : Int} (h : 0 < i) (hn : xs ≠ []) : cutA xs none (some i) ≠ [] := by
  rw [cut_take (by omega)]
  intro q
  have := congrArg List.length q
  rw [List.length_take] at this
  have := List.length_pos_iff.mpr hn
  simp only [List.length_nil] at *
  omega
end Fw
end

section
set_option linter.all false
set_option maxRecDepth 100000
namespace Fw
open PySem L2
/-! ### loops over rows that are written out -/
set_option checkBinderAnnotations false
def LcR (p : Bool) (vs : List Nat) (Fg : FG) (Ft : FT) (Fe : FE) (env : Env) [Q : D → Env → Prop] : List D → List D → Env → Prop
  | [], acc, e => Q (.lst true acc) (if p = true then env else e)
  | d :: ds, acc, e => @GG Fg d e fun e2 => @XT Ft e2 fun b e3 => @Br b (@XE Fe e3 fun x e4 => @And2 (acc.length < big) (@Wip e4 vs fun e5 => @LcR p vs Fg Ft Fe env Q ds (acc ++ [x]) e5)) (@Wip e3 vs fun e5 => @LcR p vs Fg Ft Fe env Q ds acc e5)
section
variable {p : Bool} {vs : List Nat} {Fg : FG} {Ft : FT} {Fe : FE} {Fi : FI} {env e : Env} {Q : D → Env → Prop} {d : D} {ds acc : List D}
theorem lc_nil : @LcR p vs Fg Ft Fe env Q [] acc e ↔ Q (.lst true acc) (if p = true then env else e) := Iff.rfl
theorem lc_cons : @LcR p vs Fg Ft Fe env Q (d :: ds) acc e ↔ @GG Fg d e fun e2 => @XT Ft e2 fun b e3 => @Br b (@XE Fe e3 fun x e4 => @And2 (acc.length < big) (@Wip e4 vs fun e5 => @LcR p vs Fg Ft Fe env Q ds (acc ++ [x]) e5)) (@Wip e3 vs fun e5 => @LcR p vs Fg Ft Fe env Q ds acc e5) := Iff.rfl
theorem lcL_iff : ∀ (ds acc : List D) (e : Env), (lcL Fg Ft Fe vs ds acc e).wp (fun s => Q (.lst true s.1) (if p = true then env else s.2)) (fun _ => False) ↔ @LcR p vs Fg Ft Fe env Q ds acc e
  | [], acc, e => Iff.rfl
  | d :: ds, acc, e => by
    unfold lcL
    rw [lc_cons]
    simp only [wp_bind_iff, wp_of_iff, GG, XT, XE, eqT, eqE, Z.OkT, Z.OkE]
    apply Iff.of_eq
    congr 1
    funext e2
    congr 1
    apply propext
    apply Iff.of_eq
    congr 1
    funext r
    cases h : r.1 with
    | true =>
      rw [if_pos rfl]
      apply propext
      rw [br_t]
      simp only [wp_bind_iff, eqE, Z.OkE, And2]
      apply Iff.of_eq
      congr 1
      funext s
      apply propext
      by_cases c : acc.length < big
      · rw [if_pos c]
        exact (lcL_iff ds (acc ++ [s.1]) _).trans ⟨fun h => ⟨c, h⟩, fun h => h.2⟩
      · rw [if_neg c]
        exact ⟨fun h => h.elim, fun h => c h.1⟩
    | false =>
      rw [if_neg Bool.false_ne_true]
      apply propext
      rw [br_f]
      exact lcL_iff ds acc _
theorem E_lcR : @XE (fLc p vs Fi Fg Ft Fe) env Q ↔ @XI Fi env fun ds e => @Wip e vs fun e => @LcR p vs Fg Ft Fe env Q ds [] e := by
  simp only [XE, XI, eqE, eqI, Z.OkE, Z.OkI, Wip]
  unfold fLc
  simp only [wp_bind_iff]
  apply Iff.of_eq
  congr 1
  funext r
  exact propext (lcL_iff r.1 [] _)
end
end Fw
end

section
set_option linter.all false
set_option maxRecDepth 100000
namespace K00
open PySem PySem.Spec PyProof.Rows L2 Fw
def B__law_tape : FS := (fSeq (fAsg (fGive (fC (.int 7))) (gSet 1))
  (fSeq (fFor (fSeqI (chk (fVar 0))) (gSet 2)
  (fAsg (fGive (fBin modD (fUn intD (fBin addD (fBin mulD (fVar 1) (fC (.int 31))) (fUn absD (fUn intD (fVar 2))))) (fC (.int 2147483647)))) (gSet 1)))
  (fRet (fLst (fCons (fUn listD (fVar 0)) (fCons (fC (.int 0)) (fCons (fC (.int 0)) (fCons (chk (fVar 1)) fNil))))))))
def Fn__law_tape : Fn := fnF [] 3 B__law_tape
def B__law_draw : FS := (fSeq (fIfS (fTest (fBin eqP (fBin ixD (fVar 0) (fC (.int 2))) (fC (.int 0))))
  (fSeq (fAsg (fGive (chk (fBin ixD (fVar 0) (fC (.int 1))))) (gSet 3))
  (fSeq (fAsg (fGive (fC (.int 0))) (gSet 2))
  (fSeq (fIfS (fTest (fBin ltD (fVar 3) (fUn lenD (fBin ixD (fVar 0) (fC (.int 0))))))
  (fAsg (fGive (fUn absD (fUn intD (fBin ixD (fBin ixD (fVar 0) (fC (.int 0))) (fVar 3))))) (gSet 2))
  (fSeq (fSetS 0 (fGive (fBin modD (fUn intD (fBin addD (fBin addD (fBin mulD (fBin ixD (fVar 0) (fC (.int 3))) (fC (.int 48271))) (fVar 3)) (fC (.int 1)))) (fC (.int 2147483647)))) (fC (.int 3)))
  (fAsg (fGive (chk (fBin ixD (fVar 0) (fC (.int 3))))) (gSet 2))))
  (fSeq (fSetS 0 (fGive (fBin addD (fVar 3) (fC (.int 1)))) (fC (.int 1)))
  (fSeq (fIfS (fTest (fBin ltD (fVar 2) (fBin powD (fC (.int 10)) (fC (.int 18)))))
  (fSeq (fAsg (fGive (fBin modD (fUn intD (fBin addD (fBin addD (fBin mulD (fVar 2) (fC (.int 48271))) (fBin mulD (fVar 3) (fC (.int 69621)))) (fC (.int 5)))) (fC (.int 2147483647)))) (gSet 2))
  (fSeq (fAsg (fGive (fBin modD (fUn intD (fBin mulD (fVar 2) (fC (.int 69621)))) (fC (.int 2147483629)))) (gSet 2))
  (fRet (fBin modD (fUn intD (fVar 2)) (fBin maxA (fVar 1) (fC (.int 1)))))))
  fSkip)
  (fSetS 0 (fGive (chk (fVar 2))) (fC (.int 2))))))))
  fSkip)
  (fSeq (fAsg (fGive (chk (fBin ixD (fVar 0) (fC (.int 2))))) (gSet 2))
  (fSeq (fSetS 0 (fGive (fBin divD (fVar 2) (fBin maxA (fVar 1) (fC (.int 2))))) (fC (.int 2)))
  (fRet (fBin modD (fUn intD (fVar 2)) (fBin maxA (fVar 1) (fC (.int 1))))))))
def Fn__law_draw : Fn := fnF [0] 4 B__law_draw
def B__law_shuffled : FS := (fSeq (fAsg (fUn listD (fVar 1)) (gSet 2))
  (fSeq (fAsg (fLst fNil) (gSet 3))
  (fSeq (fFor (fRng1 (fUn lenD (fVar 1))) (gSet 4)
  (fDrop (fMut 3 gAppend (fCons (fMut 2 gPopAt (fCons (fCall [some 0, none] [] Fn__law_draw (fIo 0 (fArg (fUn lenD (fVar 2)) fNil))) fNil)) fNil))))
  (fRet (fMov 3)))))
def Fn__law_shuffled : Fn := fnF [0] 5 B__law_shuffled
def B__law_signs : FS := (fSeq (fAsg (fGive (fC (.str " !\"#$&'()*+,-./0123456789:;<=>?@ABCDEFGHIJKLMNOPQRSTUVWXYZ[\\]^_"))) (gSet 0))
  (fRet (fBin addD (fVar 0) (fC (.str "`abcdefghijklmnopqrstuvwxyz{|}~")))))
def Fn__law_signs : Fn := fnF [] 1 B__law_signs
def B__law_pick : FS := (fRet (chk (fBin ixD (chk (fVar 1)) (fCall [some 0, none] [] Fn__law_draw (fIo 0 (fArg (fUn lenD (fVar 1)) fNil))))))
def Fn__law_pick : Fn := fnF [0] 2 B__law_pick
def B__law_a_strings : FS := (fSeq (fAsg (fGive (fCall [] [] Fn__law_signs fNil)) (gSet 2))
  (fSeq (fAsg (fGive (fMt "str" joinD (fC (.str "")) (fLc false [8] (fRng1 (fCall [some 0, none] [] Fn__law_draw (fIo 0 (fArg (chk (fVar 1)) fNil)))) (gSet 8) fYes (fCall [some 0, none] [] Fn__law_pick (fIo 0 (fArg (chk (fVar 2)) fNil)))))) (gSet 3))
  (fSeq (fAsg (fGive (fCall [some 0, none] [] Fn__law_pick (fIo 0 (fArg (chk (fVar 2)) fNil)))) (gSet 4))
  (fSeq (fAsg (fGive (fLst (fCons (chk (fVar 3)) (fCons (fBin addD (fVar 3) (fC (.str " "))) (fCons (fBin addD (fVar 3) (fVar 4)) (fCons (fBin addD (fVar 3) (fC (.str "!"))) (fCons (fSl (fVar 3) fNoPart (fPart (fBin maxA (fBin subD (fUn lenD (fVar 3)) (fC (.int 1))) (fC (.int 0))))) (fCons (fC (.str "")) (fCons (fSl (fBin addD (fBin addD (fVar 3) (fVar 4)) (fC (.str "   ~~~~"))) fNoPart (fPart (fVar 1))) (fCons (fC (.str "a")) (fCons (fSl (fBin addD (fVar 4) (fVar 3)) fNoPart (fPart (fVar 1))) (fCons (fC (.str "b")) fNil)))))))))))) (gSet 5))
  (fSeq (fAsg (fLst fNil) (gSet 6))
  (fSeq (fFor (fSeqI (chk (fVar 5))) (gSet 7)
  (fIfS (fTest (fBin (inP true) (fVar 7) (fVar 6)))
  (fDrop (fMut 6 gAppend (fCons (chk (fVar 7)) fNil)))
  fSkip))
  (fRet (fMov 6))))))))
def Fn__law_a_strings : Fn := fnF [0] 9 B__law_a_strings
def B__law_a_keys : FS := (fSeq (fAsg (fGive (fCall [some 0, none] [] Fn__law_shuffled (fIo 0 (fArg (fCall [some 0, none] [] Fn__law_a_strings (fIo 0 (fArg (fC (.int 4)) fNil))) fNil)))) (gSet 3))
  (fSeq (fIfS (fNot (fTru (fVar 1)))
  (fRet (fSl (fVar 3) fNoPart (fPart (fVar 2))))
  fSkip)
  (fSeq (fAsg (fGive (fSl (fCall [some 0, none] [] Fn__law_shuffled (fIo 0 (fArg (fCall [some 0, none] [] Fn__law_a_strings (fIo 0 (fArg (fC (.int 8)) fNil))) fNil))) fNoPart (fPart (fBin addD (fC (.int 1)) (fCall [some 0, none] [] Fn__law_draw (fIo 0 (fArg (fC (.int 3)) fNil))))))) (gSet 4))
  (fSeq (fAsg (fLst fNil) (gSet 5))
  (fSeq (fFor (fRng1 (fVar 2)) (gSet 6)
  (fSeq (fAsg (fGive (fTup (fCons (fCall [some 0, none] [] Fn__law_pick (fIo 0 (fArg (chk (fVar 4)) fNil))) (fCons (chk (fBin ixD (fVar 3) (fBin modD (fUn intD (fVar 6)) (fUn lenD (fVar 3))))) fNil)))) (gSet 7))
  (fIfS (fTest (fBin (inP true) (fVar 7) (fVar 5)))
  (fDrop (fMut 5 gAppend (fCons (chk (fVar 7)) fNil)))
  fSkip)))
  (fRet (fMov 5)))))))
def Fn__law_a_keys : Fn := fnF [0] 8 B__law_a_keys
def B__law_a_next : FS := (fSeq (fIfS (fTru (fUn (isiD .tuple) (fVar 0)))
  (fRet (fTup (fCons (chk (fBin ixD (fVar 0) (fC (.int 0)))) (fCons (fBin addD (fBin ixD (fVar 0) (fC (.int 1))) (fC (.str " "))) fNil))))
  fSkip)
  (fRet (fBin addD (fVar 0) (fC (.str " ")))))
def Fn__law_a_next : Fn := fnF [] 1 B__law_a_next
def B__law_a_ends : FS := (fSeq (fAsg (fLst fNil) (gSet 1))
  (fSeq (fFor (fSeqI (chk (fVar 0))) (gSet 2)
  (fFor (fSeqI (fLst (fCons (chk (fVar 2)) (fCons (fCall [none] [] Fn__law_a_next (fArg (chk (fVar 2)) fNil)) fNil)))) (gSet 3)
  (fIfS (fTest (fBin (inP true) (fVar 3) (fVar 1)))
  (fDrop (fMut 1 gAppend (fCons (chk (fVar 3)) fNil)))
  fSkip)))
  (fRet (fUn sortedD (fVar 1)))))
def Fn__law_a_ends : Fn := fnF [] 4 B__law_a_ends
def B__law_a_interval : FS := (fSeq (fAsg (fGive (fCall [some 0, none] [] Fn__law_pick (fIo 0 (fArg (chk (fVar 1)) fNil)))) (gSet 2))
  (fSeq (fAsg (fGive (fLc true [4] (fSeqI (chk (fVar 1))) (gSet 4) (fTest (fBin ltD (fVar 2) (fVar 4))) (chk (fVar 4)))) (gSet 3))
  (fSeq (fIfS (fOr (fTest (fBin eqP (fUn lenD (fVar 3)) (fC (.int 0)))) (fTest (fBin eqP (fCall [some 0, none] [] Fn__law_draw (fIo 0 (fArg (fC (.int 5)) fNil))) (fC (.int 0)))))
  (fRet (fTup (fCons (chk (fVar 2)) (fCons (fC .non) fNil))))
  fSkip)
  (fRet (fTup (fCons (chk (fVar 2)) (fCons (fCall [some 0, none] [] Fn__law_pick (fIo 0 (fArg (chk (fVar 3)) fNil))) fNil)))))))
def Fn__law_a_interval : Fn := fnF [0] 5 B__law_a_interval
def B__law_beside : FS := (fSeq (fAsg (fGive (fCall [some 0, none] [] Fn__law_draw (fIo 0 (fArg (fC (.int 6)) fNil)))) (gSet 3))
  (fSeq (fIfS (fTest (fBin eqP (fVar 3) (fC (.int 0))))
  (fRet (chk (fVar 1)))
  fSkip)
  (fSeq (fIfS (fAnd (fTest (fBin eqP (fVar 3) (fC (.int 1)))) (fTest (fBin notnD (fBin ixD (fVar 1) (fC (.int 1))) (fC .non))))
  (fSeq (fAsg (fGive (fLc true [6] (fSeqI (chk (fVar 2))) (gSet 6) (fTest (fBin ltD (fBin ixD (fVar 1) (fC (.int 1))) (fVar 6))) (chk (fVar 6)))) (gSet 5))
  (fRet (fTup (fCons (chk (fBin ixD (fVar 1) (fC (.int 1)))) (fCons (fCall [some 0, none] [] Fn__law_pick (fIo 0 (fArg (fBin addD (fVar 5) (fLst (fCons (fC .non) fNil))) fNil))) fNil)))))
  fSkip)
  (fSeq (fAsg (fGive (fLc true [6] (fSeqI (chk (fVar 2))) (gSet 6) (fTest (fBin ltD (fVar 6) (fBin ixD (fVar 1) (fC (.int 0))))) (chk (fVar 6)))) (gSet 4))
  (fSeq (fIfS (fAnd (fTest (fBin eqP (fVar 3) (fC (.int 2)))) (fTest (fBin gtD (fUn lenD (fVar 4)) (fC (.int 0)))))
  (fRet (fTup (fCons (fCall [some 0, none] [] Fn__law_pick (fIo 0 (fArg (chk (fVar 4)) fNil))) (fCons (chk (fBin ixD (fVar 1) (fC (.int 0)))) fNil))))
  fSkip)
  (fRet (fCall [some 0, none] [] Fn__law_a_interval (fIo 0 (fArg (chk (fVar 2)) fNil)))))))))
def Fn__law_beside : Fn := fnF [0] 7 B__law_beside
def B__law_any : FS := (fSeq (fAsg (fGive (fCall [some 0, none] [] Fn__law_pick (fIo 0 (fArg (chk (fVar 1)) fNil)))) (gSet 2))
  (fRet (fTup (fCons (chk (fVar 2)) (fCons (fCall [some 0, none] [] Fn__law_pick (fIo 0 (fArg (fLst (fCons (fC .non) (fCons (chk (fVar 2)) (fCons (fCall [some 0, none] [] Fn__law_pick (fIo 0 (fArg (chk (fVar 1)) fNil))) (fCons (fCall [some 0, none] [] Fn__law_pick (fIo 0 (fArg (chk (fVar 1)) fNil))) fNil))))) fNil))) fNil)))))
def Fn__law_any : Fn := fnF [0] 3 B__law_any
def B__law_some_ask : FS := (fSeq (fAsg (fGive (fCall [some 0, none, none] [] Fn__law_a_keys (fIo 0 (fArg (chk (fVar 1)) (fArg (fBin addD (fC (.int 5)) (fCall [some 0, none] [] Fn__law_draw (fIo 0 (fArg (fC (.int 3)) fNil)))) fNil))))) (gSet 2))
  (fSeq (fAsg (fGive (fCall [none] [] Fn__law_a_ends (fArg (chk (fVar 2)) fNil))) (gSet 3))
  (fSeq (fAsg (fGive (fCall [some 0, none] [] Fn__law_a_interval (fIo 0 (fArg (chk (fVar 3)) fNil)))) (gSet 4))
  (fSeq (fAsg (fGive (fTup (fCons (chk (fVar 1)) (fCons (fCall [some 0, none] [] Fn__law_pick (fIo 0 (fArg (chk (fVar 2)) fNil))) (fCons (chk (fVar 4)) (fCons (fCall [some 0, none, none] [] Fn__law_beside (fIo 0 (fArg (chk (fVar 4)) (fArg (chk (fVar 3)) fNil)))) (fCons (fCall [some 0, none] [] Fn__law_any (fIo 0 (fArg (chk (fVar 3)) fNil))) fNil))))))) (gSet 5))
  (fSeq (fAsg (fGive (fCall [some 0, none] [] Fn__law_draw (fIo 0 (fArg (fC (.int 4)) fNil)))) (gSet 6))
  (fSeq (fIfS (fTest (fBin eqP (fVar 6) (fC (.int 0))))
  (fRet (fTup (fCons (chk (fVar 5)) (fCons (fTup (fCons (chk (fVar 1)) (fCons (fCall [some 0, none] [] Fn__law_pick (fIo 0 (fArg (chk (fVar 2)) fNil))) (fCons (chk (fVar 4)) (fCons (chk (fBin ixD (fVar 5) (fC (.int 3)))) (fCons (chk (fBin ixD (fVar 5) (fC (.int 4)))) fNil)))))) fNil))))
  fSkip)
  (fSeq (fIfS (fTest (fBin eqP (fVar 6) (fC (.int 1))))
  (fRet (fTup (fCons (chk (fVar 5)) (fCons (fTup (fCons (chk (fVar 1)) (fCons (chk (fBin ixD (fVar 5) (fC (.int 1)))) (fCons (fCall [some 0, none] [] Fn__law_a_interval (fIo 0 (fArg (chk (fVar 3)) fNil))) (fCons (chk (fBin ixD (fVar 5) (fC (.int 3)))) (fCons (chk (fBin ixD (fVar 5) (fC (.int 4)))) fNil)))))) fNil))))
  fSkip)
  (fSeq (fIfS (fTest (fBin eqP (fVar 6) (fC (.int 2))))
  (fRet (fTup (fCons (chk (fVar 5)) (fCons (fTup (fCons (chk (fVar 1)) (fCons (chk (fBin ixD (fVar 5) (fC (.int 1)))) (fCons (chk (fVar 4)) (fCons (fCall [some 0, none, none] [] Fn__law_beside (fIo 0 (fArg (chk (fVar 4)) (fArg (chk (fVar 3)) fNil)))) (fCons (chk (fBin ixD (fVar 5) (fC (.int 4)))) fNil)))))) fNil))))
  fSkip)
  (fRet (fTup (fCons (chk (fVar 5)) (fCons (fTup (fCons (chk (fVar 1)) (fCons (chk (fBin ixD (fVar 5) (fC (.int 1)))) (fCons (chk (fBin ixD (fVar 5) (fC (.int 3)))) (fCons (chk (fVar 4)) (fCons (fCall [some 0, none] [] Fn__law_any (fIo 0 (fArg (chk (fVar 3)) fNil))) fNil)))))) fNil))))))))))))
def Fn__law_some_ask : Fn := fnF [0] 7 B__law_some_ask
def B__law_turns : FS := (fSeq (fAsg (fLstRg (fVar 1)) (gSet 2))
  (fSeq (fAsg (fLst fNil) (gSet 3))
  (fSeq (fFor (fRng1 (fVar 1)) (gSet 4)
  (fDrop (fMut 3 gAppend (fCons (fMut 2 gPopAt (fCons (fCall [some 0, none] [] Fn__law_draw (fIo 0 (fArg (fUn lenD (fVar 2)) fNil))) fNil)) fNil))))
  (fRet (fSl (fFrz 3) fNoPart (fPart (fBin ixD (fLst (fCons (chk (fVar 1)) (fCons (chk (fVar 1)) (fCons (fC (.int 1)) fNil)))) (fCall [some 0, none] [] Fn__law_draw (fIo 0 (fArg (fC (.int 3)) fNil))))))))))
def Fn__law_turns : Fn := fnF [0] 5 B__law_turns
def B__law_same (self : Fn) : FS := (fSeq (fIfS (fTru (fUn (isiD .tuple) (fVar 1)))
  (fSeq (fIfS (fOr (fNot (fTru (fUn (isiD .tuple) (fVar 0)))) (fTest (fBin neP (fUn lenD (fVar 0)) (fUn lenD (fVar 1)))))
  (fRet (fC (.bl false)))
  fSkip)
  (fSeq (fFor (fRng1 (fUn lenD (fVar 1))) (gSet 2)
  (fIfS (fNot (fTru (fCall [none, none] [] self (fArg (chk (fBin ixD (fVar 0) (fVar 2))) (fArg (chk (fBin ixD (fVar 1) (fVar 2))) fNil)))))
  (fRet (fC (.bl false)))
  fSkip))
  (fRet (fC (.bl true)))))
  fSkip)
  (fSeq (fIfS (fOr (fTest (fBin isnD (fVar 1) (fC .non))) (fTest (fBin isnD (fVar 0) (fC .non))))
  (fRet (chk (fAndV (fBin isnD (fVar 1) (fC .non)) (fBin isnD (fVar 0) (fC .non)))))
  fSkip)
  (fSeq (fIfS (fTru (fUn (isiD .str) (fVar 1)))
  (fRet (chk (fAndV (fUn (isiD .str) (fVar 0)) (fBin eqP (fVar 0) (fVar 1)))))
  fSkip)
  (fSeq (fIfS (fOr (fTest (fBin neP (fUn (isiD .bool) (fVar 0)) (fUn (isiD .bool) (fVar 1)))) (fNot (fTru (fUn (isiD .int) (fVar 0)))))
  (fRet (fC (.bl false)))
  fSkip)
  (fRet (fBin eqP (fVar 0) (fVar 1)))))))
def Fn__law_same : Nat → Fn
  | 0 => fun _ => .no
  | n + 1 => fnF [] 3 (B__law_same (Fn__law_same n))
def B_lesser_high : FS := (fSeq (fIfS (fTest (fBin isnD (fVar 0) (fC .non)))
  (fRet (chk (fVar 1)))
  fSkip)
  (fSeq (fIfS (fOr (fTest (fBin isnD (fVar 1) (fC .non))) (fTest (fBin ltD (fVar 0) (fVar 1))))
  (fRet (chk (fVar 0)))
  fSkip)
  (fRet (chk (fVar 1)))))
def Fn_lesser_high : Fn := fnF [] 2 B_lesser_high
def B_is_empty : FS := (fSeq (fAsg (fGive (chk (fVar 0))) (gTupD 2 (gsCons (gSet 1) (gsCons (gSet 2) gsNil))))
  (fRet (chk (fAndV (fBin notnD (fVar 2) (fC .non)) (fBin leD (fVar 2) (fVar 1))))))
def Fn_is_empty : Fn := fnF [] 3 B_is_empty
def B_left_of : FS := (fSeq (fAsg (fLst (fCons (fTup (fCons (chk (fBin ixD (fVar 0) (fC (.int 0)))) (fCons (fCall [none, none] [] Fn_lesser_high (fArg (chk (fBin ixD (fVar 0) (fC (.int 1)))) (fArg (chk (fBin ixD (fVar 1) (fC (.int 0)))) fNil))) fNil))) fNil)) (gSet 2))
  (fSeq (fIfS (fTest (fBin notnD (fBin ixD (fVar 1) (fC (.int 1))) (fC .non)))
  (fDrop (fMut 2 gAppend (fCons (fTup (fCons (fBin maxA (fBin ixD (fVar 0) (fC (.int 0))) (fBin ixD (fVar 1) (fC (.int 1)))) (fCons (chk (fBin ixD (fVar 0) (fC (.int 1)))) fNil))) fNil)))
  fSkip)
  (fRet (fUn tupleD (fLc false [3] (fSeqI (fFrz 2)) (gSet 3) (fNot (fTru (fCall [none] [] Fn_is_empty (fArg (chk (fVar 3)) fNil)))) (chk (fVar 3)))))))
def Fn_left_of : Fn := fnF [] 4 B_left_of
def B_least_key : FS := (fSeq (fIfS (fTru (fVar 0))
  (fRet (fTup (fCons (fC (.str "")) (fCons (fC (.str "")) fNil))))
  fSkip)
  (fRet (fC (.str ""))))
def Fn_least_key : Fn := fnF [] 1 B_least_key
def B_whole_interval : FS := (fRet (fTup (fCons (fCall [none] [] Fn_least_key (fArg (chk (fVar 0)) fNil)) (fCons (fC .non) fNil))))
def Fn_whole_interval : Fn := fnF [] 1 B_whole_interval
def B_successor_of : FS := (fSeq (fIfS (fTru (fUn (isiD .tuple) (fVar 0)))
  (fRet (fTup (fCons (chk (fBin ixD (fVar 0) (fC (.int 0)))) (fCons (fBin addD (fBin ixD (fVar 0) (fC (.int 1))) (fC (.str " "))) fNil))))
  fSkip)
  (fRet (fBin addD (fVar 0) (fC (.str " ")))))
def Fn_successor_of : Fn := fnF [] 1 B_successor_of
def B_around_key : FS := (fRet (fTup (fCons (chk (fVar 0)) (fCons (fCall [none] [] Fn_successor_of (fArg (chk (fVar 0)) fNil)) fNil))))
def Fn_around_key : Fn := fnF [] 1 B_around_key
def B_has_key : FS := (fSeq (fAsg (fGive (chk (fVar 0))) (gTupD 2 (gsCons (gSet 2) (gsCons (gSet 3) gsNil))))
  (fRet (chk (fAndV (fBin leD (fVar 2) (fVar 1)) (fOrV (fBin isnD (fVar 3) (fC .non)) (fBin ltD (fVar 1) (fVar 3)))))))
def Fn_has_key : Fn := fnF [] 4 B_has_key
def B_common_part : FS := (fSeq (fAsg (fGive (fTup (fCons (fBin maxA (fBin ixD (fVar 0) (fC (.int 0))) (fBin ixD (fVar 1) (fC (.int 0)))) (fCons (fCall [none, none] [] Fn_lesser_high (fArg (chk (fBin ixD (fVar 0) (fC (.int 1)))) (fArg (chk (fBin ixD (fVar 1) (fC (.int 1)))) fNil))) fNil)))) (gSet 2))
  (fSeq (fIfS (fTru (fCall [none] [] Fn_is_empty (fArg (chk (fVar 2)) fNil)))
  (fRet (fC .non))
  fSkip)
  (fRet (chk (fVar 2)))))
def Fn_common_part : Fn := fnF [] 3 B_common_part
def B_is_overlapping : FS := (fRet (fBin notnD (fCall [none, none] [] Fn_common_part (fArg (chk (fVar 0)) (fArg (chk (fVar 1)) fNil))) (fC .non)))
def Fn_is_overlapping : Fn := fnF [] 2 B_is_overlapping
def B_is_covering : FS := (fSeq (fIfS (fTest (fBin ltD (fBin ixD (fVar 1) (fC (.int 0))) (fBin ixD (fVar 0) (fC (.int 0)))))
  (fRet (fC (.bl false)))
  fSkip)
  (fRet (chk (fOrV (fBin isnD (fBin ixD (fVar 0) (fC (.int 1))) (fC .non)) (fAndV (fBin notnD (fBin ixD (fVar 1) (fC (.int 1))) (fC .non)) (fBin leD (fBin ixD (fVar 1) (fC (.int 1))) (fBin ixD (fVar 0) (fC (.int 1)))))))))
def Fn_is_covering : Fn := fnF [] 2 B_is_covering
def B_join_of : FS := (fSeq (fAsg (fGive (fBin minA (fBin ixD (fVar 0) (fC (.int 0))) (fBin ixD (fVar 1) (fC (.int 0))))) (gSet 2))
  (fSeq (fIfS (fOr (fTest (fBin isnD (fBin ixD (fVar 0) (fC (.int 1))) (fC .non))) (fTest (fBin isnD (fBin ixD (fVar 1) (fC (.int 1))) (fC .non))))
  (fRet (fTup (fCons (chk (fVar 2)) (fCons (fC .non) fNil))))
  fSkip)
  (fRet (fTup (fCons (chk (fVar 2)) (fCons (fBin maxA (fBin ixD (fVar 0) (fC (.int 1))) (fBin ixD (fVar 1) (fC (.int 1)))) fNil))))))
def Fn_join_of : Fn := fnF [] 3 B_join_of
def B__law_told : FS := (fSeq (fAsg (fGive (chk (fVar 1))) (gTupD 5 (gsCons (gSet 2) (gsCons (gSet 3) (gsCons (gSet 4) (gsCons (gSet 5) (gsCons (gSet 6) gsNil)))))))
  (fSeq (fIfS (fTest (fBin eqP (fVar 0) (fC (.int 0))))
  (fRet (fCall [none] [] Fn_least_key (fArg (chk (fVar 2)) fNil)))
  fSkip)
  (fSeq (fIfS (fTest (fBin eqP (fVar 0) (fC (.int 1))))
  (fRet (fCall [none] [] Fn_whole_interval (fArg (chk (fVar 2)) fNil)))
  fSkip)
  (fSeq (fIfS (fTest (fBin eqP (fVar 0) (fC (.int 2))))
  (fRet (fCall [none] [] Fn_successor_of (fArg (chk (fVar 3)) fNil)))
  fSkip)
  (fSeq (fIfS (fTest (fBin eqP (fVar 0) (fC (.int 3))))
  (fRet (fCall [none] [] Fn_around_key (fArg (chk (fVar 3)) fNil)))
  fSkip)
  (fSeq (fIfS (fTest (fBin eqP (fVar 0) (fC (.int 4))))
  (fRet (fCall [none, none] [] Fn_has_key (fArg (chk (fVar 6)) (fArg (chk (fVar 3)) fNil))))
  fSkip)
  (fSeq (fIfS (fTest (fBin eqP (fVar 0) (fC (.int 5))))
  (fRet (fCall [none] [] Fn_is_empty (fArg (chk (fVar 6)) fNil)))
  fSkip)
  (fSeq (fIfS (fTest (fBin eqP (fVar 0) (fC (.int 6))))
  (fRet (fCall [none, none] [] Fn_is_overlapping (fArg (chk (fVar 4)) (fArg (chk (fVar 5)) fNil))))
  fSkip)
  (fSeq (fIfS (fTest (fBin eqP (fVar 0) (fC (.int 7))))
  (fRet (fCall [none, none] [] Fn_is_covering (fArg (chk (fVar 4)) (fArg (chk (fVar 5)) fNil))))
  fSkip)
  (fSeq (fIfS (fTest (fBin eqP (fVar 0) (fC (.int 8))))
  (fRet (fCall [none, none] [] Fn_common_part (fArg (chk (fVar 4)) (fArg (chk (fVar 5)) fNil))))
  fSkip)
  (fSeq (fIfS (fTest (fBin eqP (fVar 0) (fC (.int 9))))
  (fRet (fCall [none, none] [] Fn_join_of (fArg (chk (fVar 4)) (fArg (chk (fVar 5)) fNil))))
  fSkip)
  (fRet (fCall [none, none] [] Fn_left_of (fArg (chk (fVar 4)) (fArg (chk (fVar 5)) fNil)))))))))))))))
def Fn__law_told : Fn := fnF [] 7 B__law_told
def B__law_a_left : FS := (fSeq (fAsg (fLst fNil) (gSet 2))
  (fSeq (fIfS (fTest (fBin ltD (fBin ixD (fVar 0) (fC (.int 0))) (fBin ixD (fVar 1) (fC (.int 0)))))
  (fDrop (fMut 2 gAppend (fCons (fTup (fCons (chk (fBin ixD (fVar 0) (fC (.int 0)))) (fCons (fIf (fOr (fTest (fBin isnD (fBin ixD (fVar 0) (fC (.int 1))) (fC .non))) (fTest (fBin ltD (fBin ixD (fVar 1) (fC (.int 0))) (fBin ixD (fVar 0) (fC (.int 1)))))) (chk (fBin ixD (fVar 1) (fC (.int 0)))) (chk (fBin ixD (fVar 0) (fC (.int 1))))) fNil))) fNil)))
  fSkip)
  (fSeq (fIfS (fTest (fBin notnD (fBin ixD (fVar 1) (fC (.int 1))) (fC .non)))
  (fSeq (fAsg (fGive (fBin maxA (fBin ixD (fVar 0) (fC (.int 0))) (fBin ixD (fVar 1) (fC (.int 1))))) (gSet 3))
  (fIfS (fOr (fTest (fBin isnD (fBin ixD (fVar 0) (fC (.int 1))) (fC .non))) (fTest (fBin ltD (fVar 3) (fBin ixD (fVar 0) (fC (.int 1))))))
  (fDrop (fMut 2 gAppend (fCons (fTup (fCons (chk (fVar 3)) (fCons (chk (fBin ixD (fVar 0) (fC (.int 1)))) fNil))) fNil)))
  fSkip))
  fSkip)
  (fRet (fUn tupleD (fVar 2))))))
def Fn__law_a_left : Fn := fnF [] 4 B__law_a_left
def B__law_a_has : FS := (fRet (chk (fAndV (fBin leD (fBin ixD (fVar 0) (fC (.int 0))) (fVar 1)) (fOrV (fBin isnD (fBin ixD (fVar 0) (fC (.int 1))) (fC .non)) (fBin ltD (fVar 1) (fBin ixD (fVar 0) (fC (.int 1))))))))
def Fn__law_a_has : Fn := fnF [] 2 B__law_a_has
def B__law_a_common : FS := (fSeq (fAsg (fGive (fBin maxA (fBin ixD (fVar 0) (fC (.int 0))) (fBin ixD (fVar 1) (fC (.int 0))))) (gSet 2))
  (fSeq (fAsg (fGive (chk (fBin ixD (fVar 0) (fC (.int 1))))) (gSet 3))
  (fSeq (fIfS (fOr (fTest (fBin isnD (fVar 3) (fC .non))) (fAnd (fTest (fBin notnD (fBin ixD (fVar 1) (fC (.int 1))) (fC .non))) (fTest (fBin ltD (fBin ixD (fVar 1) (fC (.int 1))) (fVar 3)))))
  (fAsg (fGive (chk (fBin ixD (fVar 1) (fC (.int 1))))) (gSet 3))
  fSkip)
  (fSeq (fIfS (fAnd (fTest (fBin notnD (fVar 3) (fC .non))) (fTest (fBin leD (fVar 3) (fVar 2))))
  (fRet (fC .non))
  fSkip)
  (fRet (fTup (fCons (chk (fVar 2)) (fCons (chk (fVar 3)) fNil))))))))
def Fn__law_a_common : Fn := fnF [] 4 B__law_a_common
def B__law_a_join : FS := (fSeq (fAsg (fGive (fC .non)) (gSet 2))
  (fSeq (fIfS (fAnd (fTest (fBin notnD (fBin ixD (fVar 0) (fC (.int 1))) (fC .non))) (fTest (fBin notnD (fBin ixD (fVar 1) (fC (.int 1))) (fC .non))))
  (fAsg (fGive (fBin maxA (fBin ixD (fVar 0) (fC (.int 1))) (fBin ixD (fVar 1) (fC (.int 1))))) (gSet 2))
  fSkip)
  (fRet (fTup (fCons (fBin minA (fBin ixD (fVar 0) (fC (.int 0))) (fBin ixD (fVar 1) (fC (.int 0)))) (fCons (chk (fVar 2)) fNil))))))
def Fn__law_a_join : Fn := fnF [] 3 B__law_a_join
def B__law_due : FS := (fSeq (fAsg (fGive (chk (fVar 1))) (gTupD 5 (gsCons (gSet 2) (gsCons (gSet 3) (gsCons (gSet 4) (gsCons (gSet 5) (gsCons (gSet 6) gsNil)))))))
  (fSeq (fAsg (fGive (fIf (fTru (fVar 2)) (fTup (fCons (fC (.str "")) (fCons (fC (.str "")) fNil))) (fC (.str "")))) (gSet 7))
  (fSeq (fIfS (fTest (fBin ltD (fVar 0) (fC (.int 2))))
  (fRet (chk (fBin ixD (fLst (fCons (chk (fVar 7)) (fCons (fTup (fCons (chk (fVar 7)) (fCons (fC .non) fNil))) fNil))) (fVar 0))))
  fSkip)
  (fSeq (fIfS (fTest (fBin eqP (fVar 0) (fC (.int 2))))
  (fRet (fCall [none] [] Fn__law_a_next (fArg (chk (fVar 3)) fNil)))
  fSkip)
  (fSeq (fIfS (fTest (fBin eqP (fVar 0) (fC (.int 3))))
  (fRet (fTup (fCons (chk (fVar 3)) (fCons (fCall [none] [] Fn__law_a_next (fArg (chk (fVar 3)) fNil)) fNil))))
  fSkip)
  (fSeq (fIfS (fTest (fBin eqP (fVar 0) (fC (.int 4))))
  (fRet (fCall [none, none] [] Fn__law_a_has (fArg (chk (fVar 6)) (fArg (chk (fVar 3)) fNil))))
  fSkip)
  (fSeq (fIfS (fTest (fBin eqP (fVar 0) (fC (.int 5))))
  (fRet (chk (fAndV (fBin notnD (fBin ixD (fVar 6) (fC (.int 1))) (fC .non)) (fBin leD (fBin ixD (fVar 6) (fC (.int 1))) (fBin ixD (fVar 6) (fC (.int 0)))))))
  fSkip)
  (fSeq (fIfS (fTest (fBin eqP (fVar 0) (fC (.int 6))))
  (fRet (chk (fOrV (fCall [none, none] [] Fn__law_a_has (fArg (chk (fVar 4)) (fArg (chk (fBin ixD (fVar 5) (fC (.int 0)))) fNil))) (fCall [none, none] [] Fn__law_a_has (fArg (chk (fVar 5)) (fArg (chk (fBin ixD (fVar 4) (fC (.int 0)))) fNil))))))
  fSkip)
  (fSeq (fIfS (fTest (fBin eqP (fVar 0) (fC (.int 7))))
  (fRet (chk (fAndV (fCall [none, none] [] Fn__law_a_has (fArg (chk (fVar 4)) (fArg (chk (fBin ixD (fVar 5) (fC (.int 0)))) fNil))) (fOrV (fBin isnD (fBin ixD (fVar 4) (fC (.int 1))) (fC .non)) (fNotV (fCall [none, none] [] Fn__law_a_has (fArg (chk (fVar 5)) (fArg (fBin maxA (fBin ixD (fVar 4) (fC (.int 1))) (fBin ixD (fVar 5) (fC (.int 0)))) fNil))))))))
  fSkip)
  (fSeq (fIfS (fTest (fBin eqP (fVar 0) (fC (.int 8))))
  (fRet (fCall [none, none] [] Fn__law_a_common (fArg (chk (fVar 4)) (fArg (chk (fVar 5)) fNil))))
  fSkip)
  (fSeq (fIfS (fTest (fBin eqP (fVar 0) (fC (.int 9))))
  (fRet (fCall [none, none] [] Fn__law_a_join (fArg (chk (fVar 4)) (fArg (chk (fVar 5)) fNil))))
  fSkip)
  (fRet (fCall [none, none] [] Fn__law_a_left (fArg (chk (fVar 4)) (fArg (chk (fVar 5)) fNil)))))))))))))))
def Fn__law_due : Fn := fnF [] 8 B__law_due
def B_law : FS := (fSeq (fAsg (fCall [none] [] Fn__law_tape (fArg (chk (fVar 0)) fNil)) (gSet 1))
  (fSeq (fAsg (fGive (fBin eqP (fCall [some 1, none] [] Fn__law_draw (fIo 1 (fArg (fC (.int 3)) fNil))) (fC (.int 0)))) (gSet 2))
  (fSeq (fFor (fRng1 (fC (.int 2))) (gSet 3)
  (fSeq (fAsg (fGive (fCall [some 1, none] [] Fn__law_some_ask (fIo 1 (fArg (chk (fVar 2)) fNil)))) (gTupD 2 (gsCons (gSet 4) (gsCons (gSet 5) gsNil))))
  (fSeq (fAsg (fGive (fCall [some 1, none] [] Fn__law_turns (fIo 1 (fArg (fC (.int 11)) fNil)))) (gSet 6))
  (fSeq (fFor (fSeqI (fLst (fCons (chk (fVar 4)) (fCons (chk (fVar 5)) (fCons (chk (fVar 4)) fNil))))) (gSet 7)
  (fFor (fSeqI (chk (fVar 6))) (gSet 8)
  (fIfS (fNot (fTru (fCall [none, none] [] (Fn__law_same 4) (fArg (fCall [none, none] [] Fn__law_told (fArg (chk (fVar 8)) (fArg (chk (fVar 7)) fNil))) (fArg (fCall [none, none] [] Fn__law_due (fArg (chk (fVar 8)) (fArg (chk (fVar 7)) fNil))) fNil)))))
  (fRet (fC (.bl false)))
  fSkip)))
  (fAsg (fGive (fNotV (fVar 2))) (gSet 2))))))
  (fRet (fC (.bl true))))))
def Fn_law : Fn := fnF [] 9 B_law
end K00
end

section
set_option linter.all false
set_option maxRecDepth 100000
set_option maxHeartbeats 0
namespace K00
open PySem PySem.Spec PyProof.Rows L2 Fw
def top (i : Nat) : Stmt := PySem.Challenge.pw_stratakv_k00_intervals.main.body.getD i (.Pass ⟨0, 0, 0, 0⟩)
abbrev FnP (K : PySem.W.Frag) (x : Str) (st : Stmt) (f : Addr) (fd : FuncData) : Prop := FunD K x x (defArgs st) (defBody st) (defScope st) [] [] f fd
section
variable {P : Program} {w : World} {K : PySem.W.Frag} {mg : Str → Option Value} {base : Heap}
abbrev st__law_tape : Stmt := top 14
abbrev N__law_tape : List Str := ["script", "mixed", "cell"]
abbrev sp__law_tape (K : PySem.W.Frag) : Sp := spN K 1 [] Fn__law_tape
theorem sc__law_tape : FnScope N__law_tape ["script"] (defScope st__law_tape) := ⟨rfl, rfl, rfl, by decide +kernel, rfl, by decide +kernel, by decide +kernel⟩
theorem ok__law_tape {f : Addr} {fd : FuncData} (F : FnP K "_law_tape" st__law_tape f fd) (g : mg "_law_tape" = some (.ref f)) (m_int : mg "int" = none) (m_abs : mg "abs" = none) (m_list : mg "list" = none) : OkD P w K mg base "_law_tape" 1 ["script"] (sp__law_tape K) := by
  have nd := sc__law_tape.nd
  exact OkD.mk' (fnok F sc__law_tape (by decide) (by decide) fun cdv A outer s H E hr => ⟨_,
  (pss_cons (ps_set (i := 1) nd rfl (by first | exact Or.inl rfl | exact Or.inr rfl) pe_int)
  (pss_cons (ps_for PassesOwn.never rfl (FwIt.pi_seq (pv 0)) (pg_name (i := 2) nd rfl (by first | exact Or.inl rfl | exact Or.inr rfl))
  (pss_one (ps_set (i := 1) nd rfl (by first | exact Or.inl rfl | exact Or.inr rfl) (pe_op op_mod (pe_callTy call_int1 (by rfl) m_int PyProof.Rows.boot_int (pa_cons (pe_op op_addA (pe_op op_mul (pv 1) pe_int) (pe_callB call_abs (by rfl) m_abs boot_abs (pa_cons (pe_callTy call_int1 (by rfl) m_int PyProof.Rows.boot_int (pa_cons (pv 2) pa_nil)) pa_nil))) pa_nil)) pe_int))))
  (pss_one (ps_ret (pe_lst (pa_cons (pe_callTy call_list_of (by rfl) m_list boot_list (pa_cons (pv 0) pa_nil)) (pa_cons pe_int (pa_cons pe_int (pa_cons (pv 1) pa_nil))))))))),
  (rels_seq (rels_asg (rel_give rel_int) (relg_name (i := 1) (by decide)))
  (rels_seq (rels_for (rel_seqI (RelE.chk (rel_var (i := 0)))) (relg_name (i := 2) (by decide))
  (rels_asg (rel_give (rel_op rel_mod (rel_call1 rel_int1 (rel_op rel_add (rel_op rel_mul (rel_var (i := 1)) rel_int) (rel_call1 rel_abs (rel_call1 rel_int1 (rel_var (i := 2)))))) rel_int)) (relg_name (i := 1) (by decide))))
  (rels_ret (rel_lst (rel_cons (rel_call1 rel_list (rel_var (i := 0))) (rel_cons rel_int (rel_cons rel_int (rel_cons (RelE.chk (rel_var (i := 1))) rel_nil))))))))⟩) g F.kp (F.bindsN fun _ _ _ _ _ _ us hl => match us, hl with | [_], _ => rfl)
abbrev st__law_draw : Stmt := top 15
abbrev N__law_draw : List Str := ["tape", "many", "number", "place"]
abbrev sp__law_draw (K : PySem.W.Frag) : Sp := spN K 2 [0] Fn__law_draw
theorem sc__law_draw : FnScope N__law_draw ["tape", "many"] (defScope st__law_draw) := ⟨rfl, rfl, rfl, by decide +kernel, rfl, by decide +kernel, by decide +kernel⟩
theorem ok__law_draw {f : Addr} {fd : FuncData} (F : FnP K "_law_draw" st__law_draw f fd) (g : mg "_law_draw" = some (.ref f)) (m_len : mg "len" = none) (m_abs : mg "abs" = none) (m_int : mg "int" = none) (m_max : mg "max" = none) : OkD P w K mg base "_law_draw" 1 ["tape", "many"] (sp__law_draw K) := by
  have nd := sc__law_draw.nd
  exact OkD.mk' (fnok F sc__law_draw (by decide) (by decide) fun cdv A outer s H E hr => ⟨_,
  (pss_cons (ps_if (pt_cmpR (op_eqP (Room.units hr)) (pe_ix ix_seq (pv 0) pe_int (fun _ _ => rfl)) pe_int (nomark _))
  (pss_cons (ps_set (i := 3) nd rfl (by first | exact Or.inl rfl | exact Or.inr rfl) (pe_ix ix_seq (pv 0) pe_int (fun _ _ => rfl)))
  (pss_cons (ps_set (i := 2) nd rfl (by first | exact Or.inl rfl | exact Or.inr rfl) pe_int)
  (pss_cons (ps_if (pt_cmpR (op_ltG (Room.units hr)) (pv 3) (pe_callB call_len (by rfl) m_len boot_len (pa_cons (pe_ix ix_seq (pv 0) pe_int (fun _ _ => rfl)) pa_nil)) (nomark _))
  (pss_one (ps_set (i := 2) nd rfl (by first | exact Or.inl rfl | exact Or.inr rfl) (pe_callB call_abs (by rfl) m_abs boot_abs (pa_cons (pe_callTy call_int1 (by rfl) m_int PyProof.Rows.boot_int (pa_cons (pe_ix ix_seq (pe_ix ix_seq (pv 0) pe_int (fun _ _ => rfl)) (pv 3) (fun _ _ => rfl)) pa_nil)) pa_nil))))
  (pss_cons (ps_asg (pe_op op_mod (pe_callTy call_int1 (by rfl) m_int PyProof.Rows.boot_int (pa_cons (pe_op op_addA (pe_op op_addA (pe_op op_mul (pe_ix ix_seq (pv 0) pe_int (fun _ _ => rfl)) pe_int) (pv 3)) pe_int) pa_nil)) pe_int) (pg_sub (pv 0) pe_int set_list))
  (pss_one (ps_set (i := 2) nd rfl (by first | exact Or.inl rfl | exact Or.inr rfl) (pe_ix ix_seq (pv 0) pe_int (fun _ _ => rfl))))))
  (pss_cons (ps_asg (pe_op op_addA (pv 3) pe_int) (pg_sub (pv 0) pe_int set_list))
  (pss_cons (ps_if (pt_cmpR (op_ltG (Room.units hr)) (pv 2) (pe_op op_pow pe_int pe_int) (nomark _))
  (pss_cons (ps_set (i := 2) nd rfl (by first | exact Or.inl rfl | exact Or.inr rfl) (pe_op op_mod (pe_callTy call_int1 (by rfl) m_int PyProof.Rows.boot_int (pa_cons (pe_op op_addA (pe_op op_addA (pe_op op_mul (pv 2) pe_int) (pe_op op_mul (pv 3) pe_int)) pe_int) pa_nil)) pe_int))
  (pss_cons (ps_set (i := 2) nd rfl (by first | exact Or.inl rfl | exact Or.inr rfl) (pe_op op_mod (pe_callTy call_int1 (by rfl) m_int PyProof.Rows.boot_int (pa_cons (pe_op op_mul (pv 2) pe_int) pa_nil)) pe_int))
  (pss_one (ps_ret (pe_op op_mod (pe_callTy call_int1 (by rfl) m_int PyProof.Rows.boot_int (pa_cons (pv 2) pa_nil)) (pe_callB (call_maxD rfl (units65 hr)) (by rfl) m_max boot_max (pa_cons (pv 1) (pa_cons pe_int pa_nil))))))))
  pss_nil)
  (pss_one (ps_asg (pv 2) (pg_sub (pv 0) pe_int set_list))))))))
  pss_nil)
  (pss_cons (ps_set (i := 2) nd rfl (by first | exact Or.inl rfl | exact Or.inr rfl) (pe_ix ix_seq (pv 0) pe_int (fun _ _ => rfl)))
  (pss_cons (ps_asg (pe_op op_fdiv (pv 2) (pe_callB (call_maxD rfl (units65 hr)) (by rfl) m_max boot_max (pa_cons (pv 1) (pa_cons pe_int pa_nil)))) (pg_sub (pv 0) pe_int set_list))
  (pss_one (ps_ret (pe_op op_mod (pe_callTy call_int1 (by rfl) m_int PyProof.Rows.boot_int (pa_cons (pv 2) pa_nil)) (pe_callB (call_maxD rfl (units65 hr)) (by rfl) m_max boot_max (pa_cons (pv 1) (pa_cons pe_int pa_nil))))))))),
  (rels_seq (rels_if (rel_test (rel_op rel_eqA (rel_opB rel_ixB (rel_var (i := 0)) rel_int) rel_int))
  (rels_seq (rels_asg (rel_give (RelE.chk (rel_opB rel_ixB (rel_var (i := 0)) rel_int))) (relg_name (i := 3) (by decide)))
  (rels_seq (rels_asg (rel_give rel_int) (relg_name (i := 2) (by decide)))
  (rels_seq (rels_if (rel_test (rel_op rel_cmp (rel_var (i := 3)) (rel_call1 rel_len (rel_opB rel_ixB (rel_var (i := 0)) rel_int))))
  (rels_asg (rel_give (rel_call1 rel_abs (rel_call1 rel_int1 (rel_opB rel_ixB (rel_opB rel_ixB (rel_var (i := 0)) rel_int) (rel_var (i := 3)))))) (relg_name (i := 2) (by decide)))
  (rels_seq (rels_setS (i := 0) (rel_give (rel_op rel_mod (rel_call1 rel_int1 (rel_op rel_add (rel_op rel_add (rel_op rel_mul (rel_opB rel_ixB (rel_var (i := 0)) rel_int) rel_int) (rel_var (i := 3))) rel_int)) rel_int)) rel_int)
  (rels_asg (rel_give (RelE.chk (rel_opB rel_ixB (rel_var (i := 0)) rel_int))) (relg_name (i := 2) (by decide)))))
  (rels_seq (rels_setS (i := 0) (rel_give (rel_op rel_add (rel_var (i := 3)) rel_int)) rel_int)
  (rels_seq (rels_if (rel_test (rel_op rel_cmp (rel_var (i := 2)) (rel_op rel_pow rel_int rel_int)))
  (rels_seq (rels_asg (rel_give (rel_op rel_mod (rel_call1 rel_int1 (rel_op rel_add (rel_op rel_add (rel_op rel_mul (rel_var (i := 2)) rel_int) (rel_op rel_mul (rel_var (i := 3)) rel_int)) rel_int)) rel_int)) (relg_name (i := 2) (by decide)))
  (rels_seq (rels_asg (rel_give (rel_op rel_mod (rel_call1 rel_int1 (rel_op rel_mul (rel_var (i := 2)) rel_int)) rel_int)) (relg_name (i := 2) (by decide)))
  (rels_ret (rel_op rel_mod (rel_call1 rel_int1 (rel_var (i := 2))) (rel_call2 rel_maxA (rel_var (i := 1)) rel_int)))))
  rels_nil)
  (rels_setS (i := 0) (rel_give (RelE.chk (rel_var (i := 2)))) rel_int))))))
  rels_nil)
  (rels_seq (rels_asg (rel_give (RelE.chk (rel_opB rel_ixB (rel_var (i := 0)) rel_int))) (relg_name (i := 2) (by decide)))
  (rels_seq (rels_setS (i := 0) (rel_give (rel_op rel_div (rel_var (i := 2)) (rel_call2 rel_maxA (rel_var (i := 1)) rel_int))) rel_int)
  (rels_ret (rel_op rel_mod (rel_call1 rel_int1 (rel_var (i := 2))) (rel_call2 rel_maxA (rel_var (i := 1)) rel_int))))))⟩) g F.kp (F.bindsN fun _ _ _ _ _ _ us hl => match us, hl with | [_, _], _ => rfl)
abbrev st__law_shuffled : Stmt := top 18
abbrev N__law_shuffled : List Str := ["tape", "menu", "held", "turned", "k"]
abbrev sp__law_shuffled (K : PySem.W.Frag) : Sp := spN K 2 [0] Fn__law_shuffled
theorem sc__law_shuffled : FnScope N__law_shuffled ["tape", "menu"] (defScope st__law_shuffled) := ⟨rfl, rfl, rfl, by decide +kernel, rfl, by decide +kernel, by decide +kernel⟩
theorem ok__law_shuffled {f : Addr} {fd : FuncData} (F : FnP K "_law_shuffled" st__law_shuffled f fd) (g : mg "_law_shuffled" = some (.ref f)) (o__law_draw : OkD P w K mg base "_law_draw" 1 ["tape", "many"] (sp__law_draw K)) (m_list : mg "list" = none) (m_range : mg "range" = none) (m_len : mg "len" = none) : OkD P w K mg base "_law_shuffled" 2 ["tape", "menu"] (sp__law_shuffled K) := by
  have nd := sc__law_shuffled.nd
  exact OkD.mk' (fnok F sc__law_shuffled (by decide) (by decide) fun cdv A outer s H E hr => ⟨_,
  (pss_cons (ps_set (i := 2) nd rfl (by first | exact Or.inl rfl | exact Or.inr rfl) (pe_callTy call_list_of (by rfl) m_list boot_list (pa_cons (pv 1) pa_nil)))
  (pss_cons (ps_set (i := 3) nd rfl (by first | exact Or.inl rfl | exact Or.inr rfl) (pe_lst pa_nil))
  (pss_cons (ps_for PassesOwn.never rfl (pi_range1 (by rfl) m_range (pa_cons (pe_callB call_len (by rfl) m_len boot_len (pa_cons (pv 1) pa_nil)) pa_nil)) (pg_name (i := 4) nd rfl (by first | exact Or.inl rfl | exact Or.inr rfl))
  (pss_one (ps_expr (pe_bm PySem.F.plainAttrs_list PySem.F.slot_list_append PySem.F.type_list_append mt_append (pv 3) (pa_cons (pe_bm PySem.F.plainAttrs_list PySem.F.slot_list_pop PySem.F.type_list_pop mt_popAt (pv 2) (pa_cons (pe_callD o__law_draw hr (by omega) (by rfl) (pa_cons (pv 0) (pa_cons (pe_callB call_len (by rfl) m_len boot_len (pa_cons (pv 2) pa_nil)) pa_nil))) pa_nil)) pa_nil)))))
  (pss_one (ps_ret (pv 3)))))),
  (rels_seq (rels_asg (rel_call1 rel_list (rel_var (i := 1))) (relg_name (i := 2) (by decide)))
  (rels_seq (rels_asg (rel_lst rel_nil) (relg_name (i := 3) (by decide)))
  (rels_seq (rels_for (rel_rng1 (rel_call1 rel_len (rel_var (i := 1)))) (relg_name (i := 4) (by decide))
  (rels_drop (rel_mut (i := 3) mut_append (rel_cons (rel_mut (i := 2) mut_popAt (rel_cons (rel_callN (ks := [some 0, none]) (relc_io (i := 0) (relc_sh (rel_call1 rel_len (rel_var (i := 2))) relc_nil))) rel_nil)) rel_nil))))
  (rels_ret (rel_mov (i := 3) (by decide))))))⟩) g F.kp (F.bindsN fun _ _ _ _ _ _ us hl => match us, hl with | [_, _], _ => rfl)
abbrev st__law_signs : Stmt := top 20
abbrev N__law_signs : List Str := ["signs"]
abbrev sp__law_signs (K : PySem.W.Frag) : Sp := spN K 0 [] Fn__law_signs
theorem sc__law_signs : FnScope N__law_signs [] (defScope st__law_signs) := ⟨rfl, rfl, rfl, by decide +kernel, rfl, by decide +kernel, by decide +kernel⟩
theorem ok__law_signs {f : Addr} {fd : FuncData} (F : FnP K "_law_signs" st__law_signs f fd) (g : mg "_law_signs" = some (.ref f))  : OkD P w K mg base "_law_signs" 1 [] (sp__law_signs K) := by
  have nd := sc__law_signs.nd
  exact OkD.mk' (fnok F sc__law_signs (by decide) (by decide) fun cdv A outer s H E hr => ⟨_,
  (pss_cons (ps_set (i := 0) nd rfl (by first | exact Or.inl rfl | exact Or.inr rfl) pe_str)
  (pss_one (ps_ret (pe_op op_addA (pv 0) pe_str)))),
  (rels_seq (rels_asg (rel_give rel_str) (relg_name (i := 0) (by decide)))
  (rels_ret (rel_op rel_add (rel_var (i := 0)) rel_str)))⟩) g F.kp (F.bindsN fun _ _ _ _ _ _ us hl => match us, hl with | [], _ => rfl)
abbrev st__law_pick : Stmt := top 16
abbrev N__law_pick : List Str := ["tape", "menu"]
abbrev sp__law_pick (K : PySem.W.Frag) : Sp := spN K 2 [0] Fn__law_pick
theorem sc__law_pick : FnScope N__law_pick ["tape", "menu"] (defScope st__law_pick) := ⟨rfl, rfl, rfl, by decide +kernel, rfl, by decide +kernel, by decide +kernel⟩
theorem ok__law_pick {f : Addr} {fd : FuncData} (F : FnP K "_law_pick" st__law_pick f fd) (g : mg "_law_pick" = some (.ref f)) (o__law_draw : OkD P w K mg base "_law_draw" 1 ["tape", "many"] (sp__law_draw K)) (m_len : mg "len" = none) : OkD P w K mg base "_law_pick" 2 ["tape", "menu"] (sp__law_pick K) := by
  have nd := sc__law_pick.nd
  exact OkD.mk' (fnok F sc__law_pick (by decide) (by decide) fun cdv A outer s H E hr => ⟨_,
  (pss_one (ps_ret (pe_ix ix_seq (pv 1) (pe_callD o__law_draw hr (by omega) (by rfl) (pa_cons (pv 0) (pa_cons (pe_callB call_len (by rfl) m_len boot_len (pa_cons (pv 1) pa_nil)) pa_nil))) (fun _ _ => rfl)))),
  (rels_ret (RelE.chk (rel_opB rel_ixB (RelE.chk (rel_var (i := 1))) (rel_callN (ks := [some 0, none]) (relc_io (i := 0) (relc_sh (rel_call1 rel_len (rel_var (i := 1))) relc_nil))))))⟩) g F.kp (F.bindsN fun _ _ _ _ _ _ us hl => match us, hl with | [_, _], _ => rfl)
abbrev st__law_a_strings : Stmt := top 21
abbrev N__law_a_strings : List Str := ["tape", "most", "signs", "stem", "sign", "menu", "told", "text", "k"]
abbrev sp__law_a_strings (K : PySem.W.Frag) : Sp := spN K 2 [0] Fn__law_a_strings
theorem sc__law_a_strings : FnScope N__law_a_strings ["tape", "most"] (defScope st__law_a_strings) := ⟨rfl, rfl, rfl, by decide +kernel, rfl, by decide +kernel, by decide +kernel⟩
theorem ok__law_a_strings {f : Addr} {fd : FuncData} (F : FnP K "_law_a_strings" st__law_a_strings f fd) (g : mg "_law_a_strings" = some (.ref f)) (o__law_signs : OkD P w K mg base "_law_signs" 1 [] (sp__law_signs K)) (o__law_draw : OkD P w K mg base "_law_draw" 1 ["tape", "many"] (sp__law_draw K)) (o__law_pick : OkD P w K mg base "_law_pick" 2 ["tape", "menu"] (sp__law_pick K)) (m_range : mg "range" = none) (m_max : mg "max" = none) (m_len : mg "len" = none) : OkD P w K mg base "_law_a_strings" 3 ["tape", "most"] (sp__law_a_strings K) := by
  have nd := sc__law_a_strings.nd
  exact OkD.mk' (fnok F sc__law_a_strings (by decide) (by decide) fun cdv A outer s H E hr => ⟨_,
  (pss_cons (ps_set (i := 2) nd rfl (by first | exact Or.inl rfl | exact Or.inr rfl) (pe_callD0 o__law_signs hr (by omega) (by rfl)))
  (pss_cons (ps_set (i := 3) nd rfl (by first | exact Or.inl rfl | exact Or.inr rfl) (pe_bm PySem.F.plainAttrs_str PySem.F.slot_str_join PySem.F.type_str_join mt_join pe_str (pa_cons (pe_lc (own := [("k", 8)]) rfl nd (pi_range1 (by rfl) m_range (pa_cons (pe_callD o__law_draw hr (by omega) (by rfl) (pa_cons (pv 0) (pa_cons (pv 1) pa_nil))) pa_nil)) (blkOk_by (own := [("k", 8)]) (N := N__law_a_strings) (sc := defScope st__law_a_strings) (by decide +kernel)) (fun _ _ _ _ _ => (pg_name (i := 8) nd rfl (by first | exact Or.inl rfl | exact Or.inr rfl))) (fun _ _ _ _ _ => pts_nil) (fun _ _ _ _ _ => (pe_callD o__law_pick hr (by omega) (by rfl) (pa_cons (pv 0) (pa_cons (pv 2) pa_nil))))) pa_nil)))
  (pss_cons (ps_set (i := 4) nd rfl (by first | exact Or.inl rfl | exact Or.inr rfl) (pe_callD o__law_pick hr (by omega) (by rfl) (pa_cons (pv 0) (pa_cons (pv 2) pa_nil))))
  (pss_cons (ps_set (i := 5) nd rfl (by first | exact Or.inl rfl | exact Or.inr rfl) (pe_lst (pa_cons (pv 3) (pa_cons (pe_op op_addA (pv 3) pe_str) (pa_cons (pe_op op_addA (pv 3) (pv 4)) (pa_cons (pe_op op_addA (pv 3) pe_str) (pa_cons (pe_slice sl_any (pv 3) po_none (po_some (pe_callB (call_maxD rfl (units65 hr)) (by rfl) m_max boot_max (pa_cons (pe_op op_sub (pe_callB call_len (by rfl) m_len boot_len (pa_cons (pv 3) pa_nil)) pe_int) (pa_cons pe_int pa_nil))))) (pa_cons pe_str (pa_cons (pe_slice sl_any (pe_op op_addA (pe_op op_addA (pv 3) (pv 4)) pe_str) po_none (po_some (pv 1))) (pa_cons pe_str (pa_cons (pe_slice sl_any (pe_op op_addA (pv 4) (pv 3)) po_none (po_some (pv 1))) (pa_cons pe_str pa_nil))))))))))))
  (pss_cons (ps_set (i := 6) nd rfl (by first | exact Or.inl rfl | exact Or.inr rfl) (pe_lst pa_nil))
  (pss_cons (ps_for PassesOwn.never rfl (FwIt.pi_seq (pv 5)) (pg_name (i := 7) nd rfl (by first | exact Or.inl rfl | exact Or.inr rfl))
  (pss_one (ps_if (pt_cmpR (op_notInP (units65 hr)) (pv 7) (pv 6) (by with_unfolding_all rfl))
  (pss_one (ps_expr (pe_bm PySem.F.plainAttrs_list PySem.F.slot_list_append PySem.F.type_list_append mt_append (pv 6) (pa_cons (pv 7) pa_nil))))
  pss_nil)))
  (pss_one (ps_ret (pv 6))))))))),
  (rels_seq (rels_asg (rel_give (rel_callN (ks := []) relc_nil)) (relg_name (i := 2) (by decide)))
  (rels_seq (rels_asg (rel_give (rel_mt rel_join rel_str (rel_lc (js := [8]) (vs := [8]) (rel_rng1 (rel_callN (ks := [some 0, none]) (relc_io (i := 0) (relc_sh (RelE.chk (rel_var (i := 1))) relc_nil)))) (relg_name (i := 8) (by decide)) rel_yes (rel_callN (ks := [some 0, none]) (relc_io (i := 0) (relc_sh (RelE.chk (rel_var (i := 2))) relc_nil)))))) (relg_name (i := 3) (by decide)))
  (rels_seq (rels_asg (rel_give (rel_callN (ks := [some 0, none]) (relc_io (i := 0) (relc_sh (RelE.chk (rel_var (i := 2))) relc_nil)))) (relg_name (i := 4) (by decide)))
  (rels_seq (rels_asg (rel_give (rel_lst (rel_cons (RelE.chk (rel_var (i := 3))) (rel_cons (rel_op rel_add (rel_var (i := 3)) rel_str) (rel_cons (rel_op rel_add (rel_var (i := 3)) (rel_var (i := 4))) (rel_cons (rel_op rel_add (rel_var (i := 3)) rel_str) (rel_cons (rel_sl (rel_var (i := 3)) rel_noPart (rel_part (rel_call2 rel_maxA (rel_op rel_sub (rel_call1 rel_len (rel_var (i := 3))) rel_int) rel_int))) (rel_cons rel_str (rel_cons (rel_sl (rel_op rel_add (rel_op rel_add (rel_var (i := 3)) (rel_var (i := 4))) rel_str) rel_noPart (rel_part (rel_var (i := 1)))) (rel_cons rel_str (rel_cons (rel_sl (rel_op rel_add (rel_var (i := 4)) (rel_var (i := 3))) rel_noPart (rel_part (rel_var (i := 1)))) (rel_cons rel_str rel_nil)))))))))))) (relg_name (i := 5) (by decide)))
  (rels_seq (rels_asg (rel_lst rel_nil) (relg_name (i := 6) (by decide)))
  (rels_seq (rels_for (rel_seqI (RelE.chk (rel_var (i := 5)))) (relg_name (i := 7) (by decide))
  (rels_if (rel_test (rel_op rel_inA (rel_var (i := 7)) (rel_var (i := 6))))
  (rels_drop (rel_mut (i := 6) mut_append (rel_cons (RelE.chk (rel_var (i := 7))) rel_nil)))
  rels_nil))
  (rels_ret (rel_mov (i := 6) (by decide)))))))))⟩) g F.kp (F.bindsN fun _ _ _ _ _ _ us hl => match us, hl with | [_, _], _ => rfl)
abbrev st__law_a_keys : Stmt := top 22
abbrev N__law_a_keys : List Str := ["tape", "paired", "many", "names", "terms", "told", "k", "key"]
abbrev sp__law_a_keys (K : PySem.W.Frag) : Sp := spN K 3 [0] Fn__law_a_keys
theorem sc__law_a_keys : FnScope N__law_a_keys ["tape", "paired", "many"] (defScope st__law_a_keys) := ⟨rfl, rfl, rfl, by decide +kernel, rfl, by decide +kernel, by decide +kernel⟩
theorem ok__law_a_keys {f : Addr} {fd : FuncData} (F : FnP K "_law_a_keys" st__law_a_keys f fd) (g : mg "_law_a_keys" = some (.ref f)) (o__law_shuffled : OkD P w K mg base "_law_shuffled" 2 ["tape", "menu"] (sp__law_shuffled K)) (o__law_a_strings : OkD P w K mg base "_law_a_strings" 3 ["tape", "most"] (sp__law_a_strings K)) (o__law_draw : OkD P w K mg base "_law_draw" 1 ["tape", "many"] (sp__law_draw K)) (o__law_pick : OkD P w K mg base "_law_pick" 2 ["tape", "menu"] (sp__law_pick K)) (m_range : mg "range" = none) (m_int : mg "int" = none) (m_len : mg "len" = none) : OkD P w K mg base "_law_a_keys" 4 ["tape", "paired", "many"] (sp__law_a_keys K) := by
  have nd := sc__law_a_keys.nd
  exact OkD.mk' (fnok F sc__law_a_keys (by decide) (by decide) fun cdv A outer s H E hr => ⟨_,
  (pss_cons (ps_set (i := 3) nd rfl (by first | exact Or.inl rfl | exact Or.inr rfl) (pe_callD o__law_shuffled hr (by omega) (by rfl) (pa_cons (pv 0) (pa_cons (pe_callD o__law_a_strings hr (by omega) (by rfl) (pa_cons (pv 0) (pa_cons pe_int pa_nil))) pa_nil))))
  (pss_cons (ps_if (pt_not (pt_truth (pv 1) (fun _ => rfl)))
  (pss_one (ps_ret (pe_slice sl_any (pv 3) po_none (po_some (pv 2)))))
  pss_nil)
  (pss_cons (ps_set (i := 4) nd rfl (by first | exact Or.inl rfl | exact Or.inr rfl) (pe_slice sl_any (pe_callD o__law_shuffled hr (by omega) (by rfl) (pa_cons (pv 0) (pa_cons (pe_callD o__law_a_strings hr (by omega) (by rfl) (pa_cons (pv 0) (pa_cons pe_int pa_nil))) pa_nil))) po_none (po_some (pe_op op_addA pe_int (pe_callD o__law_draw hr (by omega) (by rfl) (pa_cons (pv 0) (pa_cons pe_int pa_nil)))))))
  (pss_cons (ps_set (i := 5) nd rfl (by first | exact Or.inl rfl | exact Or.inr rfl) (pe_lst pa_nil))
  (pss_cons (ps_for PassesOwn.never rfl (pi_range1 (by rfl) m_range (pa_cons (pv 2) pa_nil)) (pg_name (i := 6) nd rfl (by first | exact Or.inl rfl | exact Or.inr rfl))
  (pss_cons (ps_set (i := 7) nd rfl (by first | exact Or.inl rfl | exact Or.inr rfl) (pe_tup (pa_cons (pe_callD o__law_pick hr (by omega) (by rfl) (pa_cons (pv 0) (pa_cons (pv 4) pa_nil))) (pa_cons (pe_ix ix_seq (pv 3) (pe_op op_mod (pe_callTy call_int1 (by rfl) m_int PyProof.Rows.boot_int (pa_cons (pv 6) pa_nil)) (pe_callB call_len (by rfl) m_len boot_len (pa_cons (pv 3) pa_nil))) (fun _ _ => rfl)) pa_nil))))
  (pss_one (ps_if (pt_cmpR (op_notInP (units65 hr)) (pv 7) (pv 5) (by with_unfolding_all rfl))
  (pss_one (ps_expr (pe_bm PySem.F.plainAttrs_list PySem.F.slot_list_append PySem.F.type_list_append mt_append (pv 5) (pa_cons (pv 7) pa_nil))))
  pss_nil))))
  (pss_one (ps_ret (pv 5)))))))),
  (rels_seq (rels_asg (rel_give (rel_callN (ks := [some 0, none]) (relc_io (i := 0) (relc_sh (rel_callN (ks := [some 0, none]) (relc_io (i := 0) (relc_sh rel_int relc_nil))) relc_nil)))) (relg_name (i := 3) (by decide)))
  (rels_seq (rels_if (rel_not (rel_tru (rel_var (i := 1))))
  (rels_ret (rel_sl (rel_var (i := 3)) rel_noPart (rel_part (rel_var (i := 2)))))
  rels_nil)
  (rels_seq (rels_asg (rel_give (rel_sl (rel_callN (ks := [some 0, none]) (relc_io (i := 0) (relc_sh (rel_callN (ks := [some 0, none]) (relc_io (i := 0) (relc_sh rel_int relc_nil))) relc_nil))) rel_noPart (rel_part (rel_op rel_add rel_int (rel_callN (ks := [some 0, none]) (relc_io (i := 0) (relc_sh rel_int relc_nil))))))) (relg_name (i := 4) (by decide)))
  (rels_seq (rels_asg (rel_lst rel_nil) (relg_name (i := 5) (by decide)))
  (rels_seq (rels_for (rel_rng1 (rel_var (i := 2))) (relg_name (i := 6) (by decide))
  (rels_seq (rels_asg (rel_give (rel_tup (rel_cons (rel_callN (ks := [some 0, none]) (relc_io (i := 0) (relc_sh (RelE.chk (rel_var (i := 4))) relc_nil))) (rel_cons (RelE.chk (rel_opB rel_ixB (rel_var (i := 3)) (rel_op rel_mod (rel_call1 rel_int1 (rel_var (i := 6))) (rel_call1 rel_len (rel_var (i := 3)))))) rel_nil)))) (relg_name (i := 7) (by decide)))
  (rels_if (rel_test (rel_op rel_inA (rel_var (i := 7)) (rel_var (i := 5))))
  (rels_drop (rel_mut (i := 5) mut_append (rel_cons (RelE.chk (rel_var (i := 7))) rel_nil)))
  rels_nil)))
  (rels_ret (rel_mov (i := 5) (by decide))))))))⟩) g F.kp (F.bindsN fun _ _ _ _ _ _ us hl => match us, hl with | [_, _, _], _ => rfl)
abbrev st__law_a_next : Stmt := top 23
abbrev N__law_a_next : List Str := ["key"]
abbrev sp__law_a_next (K : PySem.W.Frag) : Sp := spN K 1 [] Fn__law_a_next
theorem sc__law_a_next : FnScope N__law_a_next ["key"] (defScope st__law_a_next) := ⟨rfl, rfl, rfl, by decide +kernel, rfl, by decide +kernel, by decide +kernel⟩
theorem ok__law_a_next {f : Addr} {fd : FuncData} (F : FnP K "_law_a_next" st__law_a_next f fd) (g : mg "_law_a_next" = some (.ref f)) (m_isinstance : mg "isinstance" = none) (m_tuple : mg "tuple" = none) : OkD P w K mg base "_law_a_next" 1 ["key"] (sp__law_a_next K) := by
  have nd := sc__law_a_next.nd
  exact OkD.mk' (fnok F sc__law_a_next (by decide) (by decide) fun cdv A outer s H E hr => ⟨_,
  (pss_cons (ps_if (pt_truth (pe_callB call_isi (by rfl) m_isinstance boot_isinstance (pa_cons (pv 0) (pa_cons (pe_bltn (v := .ty "tuple") (by rfl) m_tuple boot_tuple rfl) pa_nil))) (fun _ => rfl))
  (pss_one (ps_ret (pe_tup (pa_cons (pe_ix ix_seq (pv 0) pe_int (fun _ _ => rfl)) (pa_cons (pe_op op_addA (pe_ix ix_seq (pv 0) pe_int (fun _ _ => rfl)) pe_str) pa_nil)))))
  pss_nil)
  (pss_one (ps_ret (pe_op op_addA (pv 0) pe_str)))),
  (rels_seq (rels_if (rel_tru (rel_isi (T := .tuple) (rel_var (i := 0))))
  (rels_ret (rel_tup (rel_cons (RelE.chk (rel_opB rel_ixB (rel_var (i := 0)) rel_int)) (rel_cons (rel_op rel_add (rel_opB rel_ixB (rel_var (i := 0)) rel_int) rel_str) rel_nil))))
  rels_nil)
  (rels_ret (rel_op rel_add (rel_var (i := 0)) rel_str)))⟩) g F.kp (F.bindsN fun _ _ _ _ _ _ us hl => match us, hl with | [_], _ => rfl)
abbrev st__law_a_ends : Stmt := top 28
abbrev N__law_a_ends : List Str := ["keys", "told", "key", "end"]
abbrev sp__law_a_ends (K : PySem.W.Frag) : Sp := spN K 1 [] Fn__law_a_ends
theorem sc__law_a_ends : FnScope N__law_a_ends ["keys"] (defScope st__law_a_ends) := ⟨rfl, rfl, rfl, by decide +kernel, rfl, by decide +kernel, by decide +kernel⟩
theorem ok__law_a_ends {f : Addr} {fd : FuncData} (F : FnP K "_law_a_ends" st__law_a_ends f fd) (g : mg "_law_a_ends" = some (.ref f)) (o__law_a_next : OkD P w K mg base "_law_a_next" 1 ["key"] (sp__law_a_next K)) (m_sorted : mg "sorted" = none) : OkD P w K mg base "_law_a_ends" 2 ["keys"] (sp__law_a_ends K) := by
  have nd := sc__law_a_ends.nd
  exact OkD.mk' (fnok F sc__law_a_ends (by decide) (by decide) fun cdv A outer s H E hr => ⟨_,
  (pss_cons (ps_set (i := 1) nd rfl (by first | exact Or.inl rfl | exact Or.inr rfl) (pe_lst pa_nil))
  (pss_cons (ps_for PassesOwn.never rfl (FwIt.pi_seq (pv 0)) (pg_name (i := 2) nd rfl (by first | exact Or.inl rfl | exact Or.inr rfl))
  (pss_one (ps_for PassesOwn.never rfl (FwIt.pi_seq (pe_lst (pa_cons (pv 2) (pa_cons (pe_callD o__law_a_next hr (by omega) (by rfl) (pa_cons (pv 2) pa_nil)) pa_nil)))) (pg_name (i := 3) nd rfl (by first | exact Or.inl rfl | exact Or.inr rfl))
  (pss_one (ps_if (pt_cmpR (op_notInP (units65 hr)) (pv 3) (pv 1) (by with_unfolding_all rfl))
  (pss_one (ps_expr (pe_bm PySem.F.plainAttrs_list PySem.F.slot_list_append PySem.F.type_list_append mt_append (pv 1) (pa_cons (pv 3) pa_nil))))
  pss_nil)))))
  (pss_one (ps_ret (pe_callB (cr_sortedDat (units66 hr)) (by rfl) m_sorted boot_sorted (pa_cons (pv 1) pa_nil)))))),
  (rels_seq (rels_asg (rel_lst rel_nil) (relg_name (i := 1) (by decide)))
  (rels_seq (rels_for (rel_seqI (RelE.chk (rel_var (i := 0)))) (relg_name (i := 2) (by decide))
  (rels_for (rel_seqI (rel_lst (rel_cons (RelE.chk (rel_var (i := 2))) (rel_cons (rel_callN (ks := [none]) (relc_sh (RelE.chk (rel_var (i := 2))) relc_nil)) rel_nil)))) (relg_name (i := 3) (by decide))
  (rels_if (rel_test (rel_op rel_inA (rel_var (i := 3)) (rel_var (i := 1))))
  (rels_drop (rel_mut (i := 1) mut_append (rel_cons (RelE.chk (rel_var (i := 3))) rel_nil)))
  rels_nil)))
  (rels_ret (rel_call1 rel_sorted (rel_var (i := 1))))))⟩) g F.kp (F.bindsN fun _ _ _ _ _ _ us hl => match us, hl with | [_], _ => rfl)
abbrev st__law_a_interval : Stmt := top 29
abbrev N__law_a_interval : List Str := ["tape", "ends", "low", "highs", "end"]
abbrev sp__law_a_interval (K : PySem.W.Frag) : Sp := spN K 2 [0] Fn__law_a_interval
theorem sc__law_a_interval : FnScope N__law_a_interval ["tape", "ends"] (defScope st__law_a_interval) := ⟨rfl, rfl, rfl, by decide +kernel, rfl, by decide +kernel, by decide +kernel⟩
theorem ok__law_a_interval {f : Addr} {fd : FuncData} (F : FnP K "_law_a_interval" st__law_a_interval f fd) (g : mg "_law_a_interval" = some (.ref f)) (o__law_pick : OkD P w K mg base "_law_pick" 2 ["tape", "menu"] (sp__law_pick K)) (o__law_draw : OkD P w K mg base "_law_draw" 1 ["tape", "many"] (sp__law_draw K)) (m_len : mg "len" = none) : OkD P w K mg base "_law_a_interval" 3 ["tape", "ends"] (sp__law_a_interval K) := by
  have nd := sc__law_a_interval.nd
  exact OkD.mk' (fnok F sc__law_a_interval (by decide) (by decide) fun cdv A outer s H E hr => ⟨_,
  (pss_cons (ps_set (i := 2) nd rfl (by first | exact Or.inl rfl | exact Or.inr rfl) (pe_callD o__law_pick hr (by omega) (by rfl) (pa_cons (pv 0) (pa_cons (pv 1) pa_nil))))
  (pss_cons (ps_setLc (i := 3) (own := [("end", 4)]) rfl nd rfl rfl (sw_true rfl rfl rfl (by decide +kernel)) (FwIt.pi_seq (pv 1)) (blkOk_by (own := [("end", 4)]) (N := N__law_a_interval) (sc := defScope st__law_a_interval) (by decide +kernel)) (fun _ _ _ _ _ => (pg_name (i := 4) nd rfl (by first | exact Or.inl rfl | exact Or.inr rfl))) (fun _ _ _ _ _ => (pts_one (pt_cmpR (op_ltG (Room.units hr)) (pv 2) (pv 4) (nomark _)))) (fun _ _ _ _ _ => (pv 4)))
  (pss_cons (ps_if (PW.pt (pw_or (pt_cmpR (op_eqP (Room.units hr)) (pe_callB call_len (by rfl) m_len boot_len (pa_cons (pv 3) pa_nil)) pe_int (nomark _)) (pw_or1 (pt_cmpR (op_eqP (Room.units hr)) (pe_callD o__law_draw hr (by omega) (by rfl) (pa_cons (pv 0) (pa_cons pe_int pa_nil))) pe_int (nomark _)))))
  (pss_one (ps_ret (pe_tup (pa_cons (pv 2) (pa_cons pe_non pa_nil)))))
  pss_nil)
  (pss_one (ps_ret (pe_tup (pa_cons (pv 2) (pa_cons (pe_callD o__law_pick hr (by omega) (by rfl) (pa_cons (pv 0) (pa_cons (pv 3) pa_nil))) pa_nil)))))))),
  (rels_seq (rels_asg (rel_give (rel_callN (ks := [some 0, none]) (relc_io (i := 0) (relc_sh (RelE.chk (rel_var (i := 1))) relc_nil)))) (relg_name (i := 2) (by decide)))
  (rels_seq (rels_asg (rel_give (rel_lc (js := [4]) (vs := [4]) (rel_seqI (RelE.chk (rel_var (i := 1)))) (relg_name (i := 4) (by decide)) (rel_test (rel_op rel_cmp (rel_var (i := 2)) (rel_var (i := 4)))) (RelE.chk (rel_var (i := 4))))) (relg_name (i := 3) (by decide)))
  (rels_seq (rels_if (rel_or (rel_test (rel_op rel_eqA (rel_call1 rel_len (rel_var (i := 3))) rel_int)) (rel_test (rel_op rel_eqA (rel_callN (ks := [some 0, none]) (relc_io (i := 0) (relc_sh rel_int relc_nil))) rel_int)))
  (rels_ret (rel_tup (rel_cons (RelE.chk (rel_var (i := 2))) (rel_cons rel_non rel_nil))))
  rels_nil)
  (rels_ret (rel_tup (rel_cons (RelE.chk (rel_var (i := 2))) (rel_cons (rel_callN (ks := [some 0, none]) (relc_io (i := 0) (relc_sh (RelE.chk (rel_var (i := 3))) relc_nil))) rel_nil)))))))⟩) g F.kp (F.bindsN fun _ _ _ _ _ _ us hl => match us, hl with | [_, _], _ => rfl)
abbrev st__law_beside : Stmt := top 32
abbrev N__law_beside : List Str := ["tape", "a", "ends", "kind", "lows", "highs", "end"]
abbrev sp__law_beside (K : PySem.W.Frag) : Sp := spN K 3 [0] Fn__law_beside
theorem sc__law_beside : FnScope N__law_beside ["tape", "a", "ends"] (defScope st__law_beside) := ⟨rfl, rfl, rfl, by decide +kernel, rfl, by decide +kernel, by decide +kernel⟩
theorem ok__law_beside {f : Addr} {fd : FuncData} (F : FnP K "_law_beside" st__law_beside f fd) (g : mg "_law_beside" = some (.ref f)) (o__law_draw : OkD P w K mg base "_law_draw" 1 ["tape", "many"] (sp__law_draw K)) (o__law_pick : OkD P w K mg base "_law_pick" 2 ["tape", "menu"] (sp__law_pick K)) (o__law_a_interval : OkD P w K mg base "_law_a_interval" 3 ["tape", "ends"] (sp__law_a_interval K)) (m_len : mg "len" = none) : OkD P w K mg base "_law_beside" 4 ["tape", "a", "ends"] (sp__law_beside K) := by
  have nd := sc__law_beside.nd
  exact OkD.mk' (fnok F sc__law_beside (by decide) (by decide) fun cdv A outer s H E hr => ⟨_,
  (pss_cons (ps_set (i := 3) nd rfl (by first | exact Or.inl rfl | exact Or.inr rfl) (pe_callD o__law_draw hr (by omega) (by rfl) (pa_cons (pv 0) (pa_cons pe_int pa_nil))))
  (pss_cons (ps_if (pt_cmpR (op_eqP (Room.units hr)) (pv 3) pe_int (nomark _))
  (pss_one (ps_ret (pv 1)))
  pss_nil)
  (pss_cons (ps_if (PW.pt (pw_and (pt_cmpR (op_eqP (Room.units hr)) (pv 3) pe_int (nomark _)) (pw_and1 (pt_cmpR (op_notN) (pe_ix ix_seq (pv 1) pe_int (fun _ _ => rfl)) pe_non (nomark _)))))
  (pss_cons (ps_setLc (i := 5) (own := [("end", 6)]) rfl nd rfl rfl (sw_true rfl rfl rfl (by decide +kernel)) (FwIt.pi_seq (pv 2)) (blkOk_by (own := [("end", 6)]) (N := N__law_beside) (sc := defScope st__law_beside) (by decide +kernel)) (fun _ _ _ _ _ => (pg_name (i := 6) nd rfl (by first | exact Or.inl rfl | exact Or.inr rfl))) (fun _ _ _ _ _ => (pts_one (pt_cmpR (op_ltG (Room.units hr)) (pe_ix ix_seq (pv 1) pe_int (fun _ _ => rfl)) (pv 6) (nomark _)))) (fun _ _ _ _ _ => (pv 6)))
  (pss_one (ps_ret (pe_tup (pa_cons (pe_ix ix_seq (pv 1) pe_int (fun _ _ => rfl)) (pa_cons (pe_callD o__law_pick hr (by omega) (by rfl) (pa_cons (pv 0) (pa_cons (pe_op op_addA (pv 5) (pe_lst (pa_cons pe_non pa_nil))) pa_nil))) pa_nil))))))
  pss_nil)
  (pss_cons (ps_setLc (i := 4) (own := [("end", 6)]) rfl nd rfl rfl (sw_true rfl rfl rfl (by decide +kernel)) (FwIt.pi_seq (pv 2)) (blkOk_by (own := [("end", 6)]) (N := N__law_beside) (sc := defScope st__law_beside) (by decide +kernel)) (fun _ _ _ _ _ => (pg_name (i := 6) nd rfl (by first | exact Or.inl rfl | exact Or.inr rfl))) (fun _ _ _ _ _ => (pts_one (pt_cmpR (op_ltG (Room.units hr)) (pv 6) (pe_ix ix_seq (pv 1) pe_int (fun _ _ => rfl)) (nomark _)))) (fun _ _ _ _ _ => (pv 6)))
  (pss_cons (ps_if (PW.pt (pw_and (pt_cmpR (op_eqP (Room.units hr)) (pv 3) pe_int (nomark _)) (pw_and1 (pt_cmpR (op_gtG (Room.units hr)) (pe_callB call_len (by rfl) m_len boot_len (pa_cons (pv 4) pa_nil)) pe_int (nomark _)))))
  (pss_one (ps_ret (pe_tup (pa_cons (pe_callD o__law_pick hr (by omega) (by rfl) (pa_cons (pv 0) (pa_cons (pv 4) pa_nil))) (pa_cons (pe_ix ix_seq (pv 1) pe_int (fun _ _ => rfl)) pa_nil)))))
  pss_nil)
  (pss_one (ps_ret (pe_callD o__law_a_interval hr (by omega) (by rfl) (pa_cons (pv 0) (pa_cons (pv 2) pa_nil)))))))))),
  (rels_seq (rels_asg (rel_give (rel_callN (ks := [some 0, none]) (relc_io (i := 0) (relc_sh rel_int relc_nil)))) (relg_name (i := 3) (by decide)))
  (rels_seq (rels_if (rel_test (rel_op rel_eqA (rel_var (i := 3)) rel_int))
  (rels_ret (RelE.chk (rel_var (i := 1))))
  rels_nil)
  (rels_seq (rels_if (rel_and (rel_test (rel_op rel_eqA (rel_var (i := 3)) rel_int)) (rel_test (rel_op rel_notn (rel_opB rel_ixB (rel_var (i := 1)) rel_int) rel_non)))
  (rels_seq (rels_asg (rel_give (rel_lc (js := [6]) (vs := [6]) (rel_seqI (RelE.chk (rel_var (i := 2)))) (relg_name (i := 6) (by decide)) (rel_test (rel_op rel_cmp (rel_opB rel_ixB (rel_var (i := 1)) rel_int) (rel_var (i := 6)))) (RelE.chk (rel_var (i := 6))))) (relg_name (i := 5) (by decide)))
  (rels_ret (rel_tup (rel_cons (RelE.chk (rel_opB rel_ixB (rel_var (i := 1)) rel_int)) (rel_cons (rel_callN (ks := [some 0, none]) (relc_io (i := 0) (relc_sh (rel_op rel_add (rel_var (i := 5)) (rel_lst (rel_cons rel_non rel_nil))) relc_nil))) rel_nil)))))
  rels_nil)
  (rels_seq (rels_asg (rel_give (rel_lc (js := [6]) (vs := [6]) (rel_seqI (RelE.chk (rel_var (i := 2)))) (relg_name (i := 6) (by decide)) (rel_test (rel_op rel_cmp (rel_var (i := 6)) (rel_opB rel_ixB (rel_var (i := 1)) rel_int))) (RelE.chk (rel_var (i := 6))))) (relg_name (i := 4) (by decide)))
  (rels_seq (rels_if (rel_and (rel_test (rel_op rel_eqA (rel_var (i := 3)) rel_int)) (rel_test (rel_op rel_cmp (rel_call1 rel_len (rel_var (i := 4))) rel_int)))
  (rels_ret (rel_tup (rel_cons (rel_callN (ks := [some 0, none]) (relc_io (i := 0) (relc_sh (RelE.chk (rel_var (i := 4))) relc_nil))) (rel_cons (RelE.chk (rel_opB rel_ixB (rel_var (i := 1)) rel_int)) rel_nil))))
  rels_nil)
  (rels_ret (rel_callN (ks := [some 0, none]) (relc_io (i := 0) (relc_sh (RelE.chk (rel_var (i := 2))) relc_nil)))))))))⟩) g F.kp (F.bindsN fun _ _ _ _ _ _ us hl => match us, hl with | [_, _, _], _ => rfl)
abbrev st__law_any : Stmt := top 33
abbrev N__law_any : List Str := ["tape", "ends", "low"]
abbrev sp__law_any (K : PySem.W.Frag) : Sp := spN K 2 [0] Fn__law_any
theorem sc__law_any : FnScope N__law_any ["tape", "ends"] (defScope st__law_any) := ⟨rfl, rfl, rfl, by decide +kernel, rfl, by decide +kernel, by decide +kernel⟩
theorem ok__law_any {f : Addr} {fd : FuncData} (F : FnP K "_law_any" st__law_any f fd) (g : mg "_law_any" = some (.ref f)) (o__law_pick : OkD P w K mg base "_law_pick" 2 ["tape", "menu"] (sp__law_pick K)) : OkD P w K mg base "_law_any" 3 ["tape", "ends"] (sp__law_any K) := by
  have nd := sc__law_any.nd
  exact OkD.mk' (fnok F sc__law_any (by decide) (by decide) fun cdv A outer s H E hr => ⟨_,
  (pss_cons (ps_set (i := 2) nd rfl (by first | exact Or.inl rfl | exact Or.inr rfl) (pe_callD o__law_pick hr (by omega) (by rfl) (pa_cons (pv 0) (pa_cons (pv 1) pa_nil))))
  (pss_one (ps_ret (pe_tup (pa_cons (pv 2) (pa_cons (pe_callD o__law_pick hr (by omega) (by rfl) (pa_cons (pv 0) (pa_cons (pe_lst (pa_cons pe_non (pa_cons (pv 2) (pa_cons (pe_callD o__law_pick hr (by omega) (by rfl) (pa_cons (pv 0) (pa_cons (pv 1) pa_nil))) (pa_cons (pe_callD o__law_pick hr (by omega) (by rfl) (pa_cons (pv 0) (pa_cons (pv 1) pa_nil))) pa_nil))))) pa_nil))) pa_nil)))))),
  (rels_seq (rels_asg (rel_give (rel_callN (ks := [some 0, none]) (relc_io (i := 0) (relc_sh (RelE.chk (rel_var (i := 1))) relc_nil)))) (relg_name (i := 2) (by decide)))
  (rels_ret (rel_tup (rel_cons (RelE.chk (rel_var (i := 2))) (rel_cons (rel_callN (ks := [some 0, none]) (relc_io (i := 0) (relc_sh (rel_lst (rel_cons rel_non (rel_cons (RelE.chk (rel_var (i := 2))) (rel_cons (rel_callN (ks := [some 0, none]) (relc_io (i := 0) (relc_sh (RelE.chk (rel_var (i := 1))) relc_nil))) (rel_cons (rel_callN (ks := [some 0, none]) (relc_io (i := 0) (relc_sh (RelE.chk (rel_var (i := 1))) relc_nil))) rel_nil))))) relc_nil))) rel_nil)))))⟩) g F.kp (F.bindsN fun _ _ _ _ _ _ us hl => match us, hl with | [_, _], _ => rfl)
abbrev st__law_some_ask : Stmt := top 34
abbrev N__law_some_ask : List Str := ["tape", "paired", "keys", "ends", "a", "ask", "kind"]
abbrev sp__law_some_ask (K : PySem.W.Frag) : Sp := spN K 2 [0] Fn__law_some_ask
theorem sc__law_some_ask : FnScope N__law_some_ask ["tape", "paired"] (defScope st__law_some_ask) := ⟨rfl, rfl, rfl, by decide +kernel, rfl, by decide +kernel, by decide +kernel⟩
theorem ok__law_some_ask {f : Addr} {fd : FuncData} (F : FnP K "_law_some_ask" st__law_some_ask f fd) (g : mg "_law_some_ask" = some (.ref f)) (o__law_a_keys : OkD P w K mg base "_law_a_keys" 4 ["tape", "paired", "many"] (sp__law_a_keys K)) (o__law_draw : OkD P w K mg base "_law_draw" 1 ["tape", "many"] (sp__law_draw K)) (o__law_a_ends : OkD P w K mg base "_law_a_ends" 2 ["keys"] (sp__law_a_ends K)) (o__law_a_interval : OkD P w K mg base "_law_a_interval" 3 ["tape", "ends"] (sp__law_a_interval K)) (o__law_any : OkD P w K mg base "_law_any" 3 ["tape", "ends"] (sp__law_any K)) (o__law_beside : OkD P w K mg base "_law_beside" 4 ["tape", "a", "ends"] (sp__law_beside K)) (o__law_pick : OkD P w K mg base "_law_pick" 2 ["tape", "menu"] (sp__law_pick K)) : OkD P w K mg base "_law_some_ask" 5 ["tape", "paired"] (sp__law_some_ask K) := by
  have nd := sc__law_some_ask.nd
  exact OkD.mk' (fnok F sc__law_some_ask (by decide) (by decide) fun cdv A outer s H E hr => ⟨_,
  (pss_cons (ps_set (i := 2) nd rfl (by first | exact Or.inl rfl | exact Or.inr rfl) (pe_callD o__law_a_keys hr (by omega) (by rfl) (pa_cons (pv 0) (pa_cons (pv 1) (pa_cons (pe_op op_addA pe_int (pe_callD o__law_draw hr (by omega) (by rfl) (pa_cons (pv 0) (pa_cons pe_int pa_nil)))) pa_nil)))))
  (pss_cons (ps_set (i := 3) nd rfl (by first | exact Or.inl rfl | exact Or.inr rfl) (pe_callD o__law_a_ends hr (by omega) (by rfl) (pa_cons (pv 2) pa_nil)))
  (pss_cons (ps_set (i := 4) nd rfl (by first | exact Or.inl rfl | exact Or.inr rfl) (pe_callD o__law_a_interval hr (by omega) (by rfl) (pa_cons (pv 0) (pa_cons (pv 3) pa_nil))))
  (pss_cons (ps_set (i := 5) nd rfl (by first | exact Or.inl rfl | exact Or.inr rfl) (pe_tup (pa_cons (pv 1) (pa_cons (pe_callD o__law_pick hr (by omega) (by rfl) (pa_cons (pv 0) (pa_cons (pv 2) pa_nil))) (pa_cons (pv 4) (pa_cons (pe_callD o__law_beside hr (by omega) (by rfl) (pa_cons (pv 0) (pa_cons (pv 4) (pa_cons (pv 3) pa_nil)))) (pa_cons (pe_callD o__law_any hr (by omega) (by rfl) (pa_cons (pv 0) (pa_cons (pv 3) pa_nil))) pa_nil)))))))
  (pss_cons (ps_set (i := 6) nd rfl (by first | exact Or.inl rfl | exact Or.inr rfl) (pe_callD o__law_draw hr (by omega) (by rfl) (pa_cons (pv 0) (pa_cons pe_int pa_nil))))
  (pss_cons (ps_if (pt_cmpR (op_eqP (Room.units hr)) (pv 6) pe_int (nomark _))
  (pss_one (ps_ret (pe_tup (pa_cons (pv 5) (pa_cons (pe_tup (pa_cons (pv 1) (pa_cons (pe_callD o__law_pick hr (by omega) (by rfl) (pa_cons (pv 0) (pa_cons (pv 2) pa_nil))) (pa_cons (pv 4) (pa_cons (pe_ix ix_seq (pv 5) pe_int (fun _ _ => rfl)) (pa_cons (pe_ix ix_seq (pv 5) pe_int (fun _ _ => rfl)) pa_nil)))))) pa_nil)))))
  pss_nil)
  (pss_cons (ps_if (pt_cmpR (op_eqP (Room.units hr)) (pv 6) pe_int (nomark _))
  (pss_one (ps_ret (pe_tup (pa_cons (pv 5) (pa_cons (pe_tup (pa_cons (pv 1) (pa_cons (pe_ix ix_seq (pv 5) pe_int (fun _ _ => rfl)) (pa_cons (pe_callD o__law_a_interval hr (by omega) (by rfl) (pa_cons (pv 0) (pa_cons (pv 3) pa_nil))) (pa_cons (pe_ix ix_seq (pv 5) pe_int (fun _ _ => rfl)) (pa_cons (pe_ix ix_seq (pv 5) pe_int (fun _ _ => rfl)) pa_nil)))))) pa_nil)))))
  pss_nil)
  (pss_cons (ps_if (pt_cmpR (op_eqP (Room.units hr)) (pv 6) pe_int (nomark _))
  (pss_one (ps_ret (pe_tup (pa_cons (pv 5) (pa_cons (pe_tup (pa_cons (pv 1) (pa_cons (pe_ix ix_seq (pv 5) pe_int (fun _ _ => rfl)) (pa_cons (pv 4) (pa_cons (pe_callD o__law_beside hr (by omega) (by rfl) (pa_cons (pv 0) (pa_cons (pv 4) (pa_cons (pv 3) pa_nil)))) (pa_cons (pe_ix ix_seq (pv 5) pe_int (fun _ _ => rfl)) pa_nil)))))) pa_nil)))))
  pss_nil)
  (pss_one (ps_ret (pe_tup (pa_cons (pv 5) (pa_cons (pe_tup (pa_cons (pv 1) (pa_cons (pe_ix ix_seq (pv 5) pe_int (fun _ _ => rfl)) (pa_cons (pe_ix ix_seq (pv 5) pe_int (fun _ _ => rfl)) (pa_cons (pv 4) (pa_cons (pe_callD o__law_any hr (by omega) (by rfl) (pa_cons (pv 0) (pa_cons (pv 3) pa_nil))) pa_nil)))))) pa_nil))))))))))))),
  (rels_seq (rels_asg (rel_give (rel_callN (ks := [some 0, none, none]) (relc_io (i := 0) (relc_sh (RelE.chk (rel_var (i := 1))) (relc_sh (rel_op rel_add rel_int (rel_callN (ks := [some 0, none]) (relc_io (i := 0) (relc_sh rel_int relc_nil)))) relc_nil))))) (relg_name (i := 2) (by decide)))
  (rels_seq (rels_asg (rel_give (rel_callN (ks := [none]) (relc_sh (RelE.chk (rel_var (i := 2))) relc_nil))) (relg_name (i := 3) (by decide)))
  (rels_seq (rels_asg (rel_give (rel_callN (ks := [some 0, none]) (relc_io (i := 0) (relc_sh (RelE.chk (rel_var (i := 3))) relc_nil)))) (relg_name (i := 4) (by decide)))
  (rels_seq (rels_asg (rel_give (rel_tup (rel_cons (RelE.chk (rel_var (i := 1))) (rel_cons (rel_callN (ks := [some 0, none]) (relc_io (i := 0) (relc_sh (RelE.chk (rel_var (i := 2))) relc_nil))) (rel_cons (RelE.chk (rel_var (i := 4))) (rel_cons (rel_callN (ks := [some 0, none, none]) (relc_io (i := 0) (relc_sh (RelE.chk (rel_var (i := 4))) (relc_sh (RelE.chk (rel_var (i := 3))) relc_nil)))) (rel_cons (rel_callN (ks := [some 0, none]) (relc_io (i := 0) (relc_sh (RelE.chk (rel_var (i := 3))) relc_nil))) rel_nil))))))) (relg_name (i := 5) (by decide)))
  (rels_seq (rels_asg (rel_give (rel_callN (ks := [some 0, none]) (relc_io (i := 0) (relc_sh rel_int relc_nil)))) (relg_name (i := 6) (by decide)))
  (rels_seq (rels_if (rel_test (rel_op rel_eqA (rel_var (i := 6)) rel_int))
  (rels_ret (rel_tup (rel_cons (RelE.chk (rel_var (i := 5))) (rel_cons (rel_tup (rel_cons (RelE.chk (rel_var (i := 1))) (rel_cons (rel_callN (ks := [some 0, none]) (relc_io (i := 0) (relc_sh (RelE.chk (rel_var (i := 2))) relc_nil))) (rel_cons (RelE.chk (rel_var (i := 4))) (rel_cons (RelE.chk (rel_opB rel_ixB (rel_var (i := 5)) rel_int)) (rel_cons (RelE.chk (rel_opB rel_ixB (rel_var (i := 5)) rel_int)) rel_nil)))))) rel_nil))))
  rels_nil)
  (rels_seq (rels_if (rel_test (rel_op rel_eqA (rel_var (i := 6)) rel_int))
  (rels_ret (rel_tup (rel_cons (RelE.chk (rel_var (i := 5))) (rel_cons (rel_tup (rel_cons (RelE.chk (rel_var (i := 1))) (rel_cons (RelE.chk (rel_opB rel_ixB (rel_var (i := 5)) rel_int)) (rel_cons (rel_callN (ks := [some 0, none]) (relc_io (i := 0) (relc_sh (RelE.chk (rel_var (i := 3))) relc_nil))) (rel_cons (RelE.chk (rel_opB rel_ixB (rel_var (i := 5)) rel_int)) (rel_cons (RelE.chk (rel_opB rel_ixB (rel_var (i := 5)) rel_int)) rel_nil)))))) rel_nil))))
  rels_nil)
  (rels_seq (rels_if (rel_test (rel_op rel_eqA (rel_var (i := 6)) rel_int))
  (rels_ret (rel_tup (rel_cons (RelE.chk (rel_var (i := 5))) (rel_cons (rel_tup (rel_cons (RelE.chk (rel_var (i := 1))) (rel_cons (RelE.chk (rel_opB rel_ixB (rel_var (i := 5)) rel_int)) (rel_cons (RelE.chk (rel_var (i := 4))) (rel_cons (rel_callN (ks := [some 0, none, none]) (relc_io (i := 0) (relc_sh (RelE.chk (rel_var (i := 4))) (relc_sh (RelE.chk (rel_var (i := 3))) relc_nil)))) (rel_cons (RelE.chk (rel_opB rel_ixB (rel_var (i := 5)) rel_int)) rel_nil)))))) rel_nil))))
  rels_nil)
  (rels_ret (rel_tup (rel_cons (RelE.chk (rel_var (i := 5))) (rel_cons (rel_tup (rel_cons (RelE.chk (rel_var (i := 1))) (rel_cons (RelE.chk (rel_opB rel_ixB (rel_var (i := 5)) rel_int)) (rel_cons (RelE.chk (rel_opB rel_ixB (rel_var (i := 5)) rel_int)) (rel_cons (RelE.chk (rel_var (i := 4))) (rel_cons (rel_callN (ks := [some 0, none]) (relc_io (i := 0) (relc_sh (RelE.chk (rel_var (i := 3))) relc_nil))) rel_nil)))))) rel_nil))))))))))))⟩) g F.kp (F.bindsN fun _ _ _ _ _ _ us hl => match us, hl with | [_, _], _ => rfl)
abbrev st__law_turns : Stmt := top 17
abbrev N__law_turns : List Str := ["tape", "many", "held", "turns", "k"]
abbrev sp__law_turns (K : PySem.W.Frag) : Sp := spN K 2 [0] Fn__law_turns
theorem sc__law_turns : FnScope N__law_turns ["tape", "many"] (defScope st__law_turns) := ⟨rfl, rfl, rfl, by decide +kernel, rfl, by decide +kernel, by decide +kernel⟩
theorem ok__law_turns {f : Addr} {fd : FuncData} (F : FnP K "_law_turns" st__law_turns f fd) (g : mg "_law_turns" = some (.ref f)) (o__law_draw : OkD P w K mg base "_law_draw" 1 ["tape", "many"] (sp__law_draw K)) (m_list : mg "list" = none) (m_range : mg "range" = none) (m_len : mg "len" = none) : OkD P w K mg base "_law_turns" 2 ["tape", "many"] (sp__law_turns K) := by
  have nd := sc__law_turns.nd
  exact OkD.mk' (fnok F sc__law_turns (by decide) (by decide) fun cdv A outer s H E hr => ⟨_,
  (pss_cons (ps_set (i := 2) nd rfl (by first | exact Or.inl rfl | exact Or.inr rfl) (pe_listRg rfl (by rfl) m_list (prg_1 (by rfl) m_range (pv 1))))
  (pss_cons (ps_set (i := 3) nd rfl (by first | exact Or.inl rfl | exact Or.inr rfl) (pe_lst pa_nil))
  (pss_cons (ps_for PassesOwn.never rfl (pi_range1 (by rfl) m_range (pa_cons (pv 1) pa_nil)) (pg_name (i := 4) nd rfl (by first | exact Or.inl rfl | exact Or.inr rfl))
  (pss_one (ps_expr (pe_bm PySem.F.plainAttrs_list PySem.F.slot_list_append PySem.F.type_list_append mt_append (pv 3) (pa_cons (pe_bm PySem.F.plainAttrs_list PySem.F.slot_list_pop PySem.F.type_list_pop mt_popAt (pv 2) (pa_cons (pe_callD o__law_draw hr (by omega) (by rfl) (pa_cons (pv 0) (pa_cons (pe_callB call_len (by rfl) m_len boot_len (pa_cons (pv 2) pa_nil)) pa_nil))) pa_nil)) pa_nil)))))
  (pss_one (ps_ret (pe_slice sl_any (pv 3) po_none (po_some (pe_ix ix_seq (pe_lst (pa_cons (pv 1) (pa_cons (pv 1) (pa_cons pe_int pa_nil)))) (pe_callD o__law_draw hr (by omega) (by rfl) (pa_cons (pv 0) (pa_cons pe_int pa_nil))) (fun _ _ => rfl))))))))),
  (rels_seq (rels_asg (rel_lstRg (rel_var (i := 1))) (relg_name (i := 2) (by decide)))
  (rels_seq (rels_asg (rel_lst rel_nil) (relg_name (i := 3) (by decide)))
  (rels_seq (rels_for (rel_rng1 (rel_var (i := 1))) (relg_name (i := 4) (by decide))
  (rels_drop (rel_mut (i := 3) mut_append (rel_cons (rel_mut (i := 2) mut_popAt (rel_cons (rel_callN (ks := [some 0, none]) (relc_io (i := 0) (relc_sh (rel_call1 rel_len (rel_var (i := 2))) relc_nil))) rel_nil)) rel_nil))))
  (rels_ret (rel_sl (rel_frz (i := 3)) rel_noPart (rel_part (rel_opB rel_ixB (rel_lst (rel_cons (RelE.chk (rel_var (i := 1))) (rel_cons (RelE.chk (rel_var (i := 1))) (rel_cons rel_int rel_nil)))) (rel_callN (ks := [some 0, none]) (relc_io (i := 0) (relc_sh rel_int relc_nil))))))))))⟩) g F.kp (F.bindsN fun _ _ _ _ _ _ us hl => match us, hl with | [_, _], _ => rfl)
abbrev st__law_same : Stmt := top 19
abbrev N__law_same : List Str := ["told", "wanted", "k"]
abbrev sp__law_same (K : PySem.W.Frag) (n : Nat) : Sp := spN K 2 [] (Fn__law_same n)
theorem sc__law_same : FnScope N__law_same ["told", "wanted"] (defScope st__law_same) := ⟨rfl, rfl, rfl, by decide +kernel, rfl, by decide +kernel, by decide +kernel⟩
theorem ok__law_same {f : Addr} {fd : FuncData} (F : FnP K "_law_same" st__law_same f fd) (g : mg "_law_same" = some (.ref f)) (m_isinstance : mg "isinstance" = none) (m_tuple : mg "tuple" = none) (m_len : mg "len" = none) (m_range : mg "range" = none) (m_str : mg "str" = none) (m_bool : mg "bool" = none) (m_int : mg "int" = none) : ∀ n : Nat, OkD P w K mg base "_law_same" (0 + n) ["told", "wanted"] (sp__law_same K n)
  | 0 => OkD.mk' (fnok_no rfl) g F.kp (F.bindsN fun _ _ _ _ _ _ us hl => match us, hl with | [_, _], _ => rfl)
  | n + 1 => by
    have o__law_same : OkD P w K mg base "_law_same" (0 + n) ["told", "wanted"] (sp__law_same K n) := ok__law_same F g m_isinstance m_tuple m_len m_range m_str m_bool m_int n
    have nd := sc__law_same.nd
    exact OkD.mk' (fnok F sc__law_same (by decide) (by decide) fun cdv A outer s H E hr => ⟨_,
  (pss_cons (ps_if (pt_truth (pe_callB call_isi (by rfl) m_isinstance boot_isinstance (pa_cons (pv 1) (pa_cons (pe_bltn (v := .ty "tuple") (by rfl) m_tuple boot_tuple rfl) pa_nil))) (fun _ => rfl))
  (pss_cons (ps_if (PW.pt (pw_or (pt_not (pt_truth (pe_callB call_isi (by rfl) m_isinstance boot_isinstance (pa_cons (pv 0) (pa_cons (pe_bltn (v := .ty "tuple") (by rfl) m_tuple boot_tuple rfl) pa_nil))) (fun _ => rfl))) (pw_or1 (pt_cmpR (op_neP (Room.units hr)) (pe_callB call_len (by rfl) m_len boot_len (pa_cons (pv 0) pa_nil)) (pe_callB call_len (by rfl) m_len boot_len (pa_cons (pv 1) pa_nil)) (nomark _)))))
  (pss_one (ps_ret pe_bl))
  pss_nil)
  (pss_cons (ps_for PassesOwn.never rfl (pi_range1 (by rfl) m_range (pa_cons (pe_callB call_len (by rfl) m_len boot_len (pa_cons (pv 1) pa_nil)) pa_nil)) (pg_name (i := 2) nd rfl (by first | exact Or.inl rfl | exact Or.inr rfl))
  (pss_one (ps_if (pt_not (pt_truth (pe_callD o__law_same hr (Nat.le_refl _) (by rfl) (pa_cons (pe_ix ix_seq (pv 0) (pv 2) (fun _ _ => rfl)) (pa_cons (pe_ix ix_seq (pv 1) (pv 2) (fun _ _ => rfl)) pa_nil))) (fun _ => rfl)))
  (pss_one (ps_ret pe_bl))
  pss_nil)))
  (pss_one (ps_ret pe_bl))))
  pss_nil)
  (pss_cons (ps_if (PW.pt (pw_or (pt_cmpR (op_isN) (pv 1) pe_non (nomark _)) (pw_or1 (pt_cmpR (op_isN) (pv 0) pe_non (nomark _)))))
  (pss_one (ps_ret (pe_and (pe_cmpR (op_isN) (pv 1) pe_non (nomark _)) (pe_one (pe_cmpR (op_isN) (pv 0) pe_non (nomark _))))))
  pss_nil)
  (pss_cons (ps_if (pt_truth (pe_callB call_isi (by rfl) m_isinstance boot_isinstance (pa_cons (pv 1) (pa_cons (pe_bltn (v := .ty "str") (by rfl) m_str boot_str rfl) pa_nil))) (fun _ => rfl))
  (pss_one (ps_ret (pe_and (pe_callB call_isi (by rfl) m_isinstance boot_isinstance (pa_cons (pv 0) (pa_cons (pe_bltn (v := .ty "str") (by rfl) m_str boot_str rfl) pa_nil))) (pe_one (pe_cmpR (op_eqP (Room.units hr)) (pv 0) (pv 1) (nomark _))))))
  pss_nil)
  (pss_cons (ps_if (PW.pt (pw_or (pt_cmpR (op_neP (Room.units hr)) (pe_callB call_isi (by rfl) m_isinstance boot_isinstance (pa_cons (pv 0) (pa_cons (pe_bltn (v := .ty "bool") (by rfl) m_bool boot_bool rfl) pa_nil))) (pe_callB call_isi (by rfl) m_isinstance boot_isinstance (pa_cons (pv 1) (pa_cons (pe_bltn (v := .ty "bool") (by rfl) m_bool boot_bool rfl) pa_nil))) (nomark _)) (pw_or1 (pt_not (pt_truth (pe_callB call_isi (by rfl) m_isinstance boot_isinstance (pa_cons (pv 0) (pa_cons (pe_bltn (v := .ty "int") (by rfl) m_int PyProof.Rows.boot_int rfl) pa_nil))) (fun _ => rfl))))))
  (pss_one (ps_ret pe_bl))
  pss_nil)
  (pss_one (ps_ret (pe_cmpR (op_eqP (Room.units hr)) (pv 0) (pv 1) (nomark _)))))))),
  (rels_seq (rels_if (rel_tru (rel_isi (T := .tuple) (rel_var (i := 1))))
  (rels_seq (rels_if (rel_or (rel_not (rel_tru (rel_isi (T := .tuple) (rel_var (i := 0))))) (rel_test (rel_op rel_neA (rel_call1 rel_len (rel_var (i := 0))) (rel_call1 rel_len (rel_var (i := 1))))))
  (rels_ret rel_bl)
  rels_nil)
  (rels_seq (rels_for (rel_rng1 (rel_call1 rel_len (rel_var (i := 1)))) (relg_name (i := 2) (by decide))
  (rels_if (rel_not (rel_tru (rel_callN (ks := [none, none]) (relc_sh (RelE.chk (rel_opB rel_ixB (rel_var (i := 0)) (rel_var (i := 2)))) (relc_sh (RelE.chk (rel_opB rel_ixB (rel_var (i := 1)) (rel_var (i := 2)))) relc_nil)))))
  (rels_ret rel_bl)
  rels_nil))
  (rels_ret rel_bl)))
  rels_nil)
  (rels_seq (rels_if (rel_or (rel_test (rel_op rel_isn (rel_var (i := 1)) rel_non)) (rel_test (rel_op rel_isn (rel_var (i := 0)) rel_non)))
  (rels_ret (RelE.chk (rel_andv (rel_op rel_isn (rel_var (i := 1)) rel_non) (rel_op rel_isn (rel_var (i := 0)) rel_non))))
  rels_nil)
  (rels_seq (rels_if (rel_tru (rel_isi (T := .str) (rel_var (i := 1))))
  (rels_ret (RelE.chk (rel_andv (rel_isi (T := .str) (rel_var (i := 0))) (rel_op rel_eqA (rel_var (i := 0)) (rel_var (i := 1))))))
  rels_nil)
  (rels_seq (rels_if (rel_or (rel_test (rel_op rel_neA (rel_isi (T := .bool) (rel_var (i := 0))) (rel_isi (T := .bool) (rel_var (i := 1))))) (rel_not (rel_tru (rel_isi (T := .int) (rel_var (i := 0))))))
  (rels_ret rel_bl)
  rels_nil)
  (rels_ret (rel_op rel_eqA (rel_var (i := 0)) (rel_var (i := 1))))))))⟩) g F.kp (F.bindsN fun _ _ _ _ _ _ us hl => match us, hl with | [_, _], _ => rfl)
abbrev st_lesser_high : Stmt := top 7
abbrev N_lesser_high : List Str := ["a", "b"]
abbrev sp_lesser_high (K : PySem.W.Frag) : Sp := spN K 2 [] Fn_lesser_high
theorem sc_lesser_high : FnScope N_lesser_high ["a", "b"] (defScope st_lesser_high) := ⟨rfl, rfl, rfl, by decide +kernel, rfl, by decide +kernel, by decide +kernel⟩
theorem ok_lesser_high {f : Addr} {fd : FuncData} (F : FnP K "lesser_high" st_lesser_high f fd) (g : mg "lesser_high" = some (.ref f))  : OkD P w K mg base "lesser_high" 1 ["a", "b"] (sp_lesser_high K) := by
  have nd := sc_lesser_high.nd
  exact OkD.mk' (fnok F sc_lesser_high (by decide) (by decide) fun cdv A outer s H E hr => ⟨_,
  (pss_cons (ps_if (pt_cmpR (op_isN) (pv 0) pe_non (nomark _))
  (pss_one (ps_ret (pv 1)))
  pss_nil)
  (pss_cons (ps_if (PW.pt (pw_or (pt_cmpR (op_isN) (pv 1) pe_non (nomark _)) (pw_or1 (pt_cmpR (op_ltG (Room.units hr)) (pv 0) (pv 1) (nomark _)))))
  (pss_one (ps_ret (pv 0)))
  pss_nil)
  (pss_one (ps_ret (pv 1))))),
  (rels_seq (rels_if (rel_test (rel_op rel_isn (rel_var (i := 0)) rel_non))
  (rels_ret (RelE.chk (rel_var (i := 1))))
  rels_nil)
  (rels_seq (rels_if (rel_or (rel_test (rel_op rel_isn (rel_var (i := 1)) rel_non)) (rel_test (rel_op rel_cmp (rel_var (i := 0)) (rel_var (i := 1)))))
  (rels_ret (RelE.chk (rel_var (i := 0))))
  rels_nil)
  (rels_ret (RelE.chk (rel_var (i := 1))))))⟩) g F.kp (F.bindsN fun _ _ _ _ _ _ us hl => match us, hl with | [_, _], _ => rfl)
abbrev st_is_empty : Stmt := top 6
abbrev N_is_empty : List Str := ["interval", "low", "high"]
abbrev sp_is_empty (K : PySem.W.Frag) : Sp := spN K 1 [] Fn_is_empty
theorem sc_is_empty : FnScope N_is_empty ["interval"] (defScope st_is_empty) := ⟨rfl, rfl, rfl, by decide +kernel, rfl, by decide +kernel, by decide +kernel⟩
theorem ok_is_empty {f : Addr} {fd : FuncData} (F : FnP K "is_empty" st_is_empty f fd) (g : mg "is_empty" = some (.ref f))  : OkD P w K mg base "is_empty" 1 ["interval"] (sp_is_empty K) := by
  have nd := sc_is_empty.nd
  exact OkD.mk' (fnok F sc_is_empty (by decide) (by decide) fun cdv A outer s H E hr => ⟨_,
  (pss_cons (ps_asg (pv 0) (pg_tup rfl (pgs_cons (pg_name (i := 1) nd rfl (by first | exact Or.inl rfl | exact Or.inr rfl)) (pgs_cons (pg_name (i := 2) nd rfl (by first | exact Or.inl rfl | exact Or.inr rfl)) pgs_nil))))
  (pss_one (ps_ret (pe_and (pe_cmpR (op_notN) (pv 2) pe_non (nomark _)) (pe_one (pe_cmpR (op_leG (Room.units hr)) (pv 2) (pv 1) (nomark _))))))),
  (rels_seq (rels_asg (rel_give (RelE.chk (rel_var (i := 0)))) (relg_tup (relgs_cons (relg_name (i := 1) (by decide)) (relgs_cons (relg_name (i := 2) (by decide)) relgs_nil))))
  (rels_ret (RelE.chk (rel_andv (rel_op rel_notn (rel_var (i := 2)) rel_non) (rel_op rel_cmp (rel_var (i := 2)) (rel_var (i := 1)))))))⟩) g F.kp (F.bindsN fun _ _ _ _ _ _ us hl => match us, hl with | [_], _ => rfl)
abbrev st_left_of : Stmt := top 12
abbrev N_left_of : List Str := ["a", "b", "parts", "part"]
abbrev sp_left_of (K : PySem.W.Frag) : Sp := spN K 2 [] Fn_left_of
theorem sc_left_of : FnScope N_left_of ["a", "b"] (defScope st_left_of) := ⟨rfl, rfl, rfl, by decide +kernel, rfl, by decide +kernel, by decide +kernel⟩
theorem ok_left_of {f : Addr} {fd : FuncData} (F : FnP K "left_of" st_left_of f fd) (g : mg "left_of" = some (.ref f)) (o_lesser_high : OkD P w K mg base "lesser_high" 1 ["a", "b"] (sp_lesser_high K)) (o_is_empty : OkD P w K mg base "is_empty" 1 ["interval"] (sp_is_empty K)) (m_max : mg "max" = none) (m_tuple : mg "tuple" = none) : OkD P w K mg base "left_of" 2 ["a", "b"] (sp_left_of K) := by
  have nd := sc_left_of.nd
  exact OkD.mk' (fnok F sc_left_of (by decide) (by decide) fun cdv A outer s H E hr => ⟨_,
  (pss_cons (ps_set (i := 2) nd rfl (by first | exact Or.inl rfl | exact Or.inr rfl) (pe_lst (pa_cons (pe_tup (pa_cons (pe_ix ix_seq (pv 0) pe_int (fun _ _ => rfl)) (pa_cons (pe_callD o_lesser_high hr (by omega) (by rfl) (pa_cons (pe_ix ix_seq (pv 0) pe_int (fun _ _ => rfl)) (pa_cons (pe_ix ix_seq (pv 1) pe_int (fun _ _ => rfl)) pa_nil))) pa_nil))) pa_nil)))
  (pss_cons (ps_if (pt_cmpR (op_notN) (pe_ix ix_seq (pv 1) pe_int (fun _ _ => rfl)) pe_non (nomark _))
  (pss_one (ps_expr (pe_bm PySem.F.plainAttrs_list PySem.F.slot_list_append PySem.F.type_list_append mt_append (pv 2) (pa_cons (pe_tup (pa_cons (pe_callB (call_maxD rfl (units65 hr)) (by rfl) m_max boot_max (pa_cons (pe_ix ix_seq (pv 0) pe_int (fun _ _ => rfl)) (pa_cons (pe_ix ix_seq (pv 1) pe_int (fun _ _ => rfl)) pa_nil))) (pa_cons (pe_ix ix_seq (pv 0) pe_int (fun _ _ => rfl)) pa_nil))) pa_nil))))
  pss_nil)
  (pss_one (ps_ret (pe_callTy call_tuple_of (by rfl) m_tuple boot_tuple (pa_cons (pe_lc (own := [("part", 3)]) rfl nd (FwIt.pi_seq (pv 2)) (blkOk_by (own := [("part", 3)]) (N := N_left_of) (sc := defScope st_left_of) (by decide +kernel)) (fun _ _ _ _ _ => (pg_name (i := 3) nd rfl (by first | exact Or.inl rfl | exact Or.inr rfl))) (fun _ _ _ _ _ => (pts_one (pt_not (pt_truth (pe_callD o_is_empty hr (by omega) (by rfl) (pa_cons (pv 3) pa_nil)) (fun _ => rfl))))) (fun _ _ _ _ _ => (pv 3))) pa_nil)))))),
  (rels_seq (rels_asg (rel_lst (rel_cons (rel_tup (rel_cons (RelE.chk (rel_opB rel_ixB (rel_var (i := 0)) rel_int)) (rel_cons (rel_callN (ks := [none, none]) (relc_sh (RelE.chk (rel_opB rel_ixB (rel_var (i := 0)) rel_int)) (relc_sh (RelE.chk (rel_opB rel_ixB (rel_var (i := 1)) rel_int)) relc_nil))) rel_nil))) rel_nil)) (relg_name (i := 2) (by decide)))
  (rels_seq (rels_if (rel_test (rel_op rel_notn (rel_opB rel_ixB (rel_var (i := 1)) rel_int) rel_non))
  (rels_drop (rel_mut (i := 2) mut_append (rel_cons (rel_tup (rel_cons (rel_call2 rel_maxA (rel_opB rel_ixB (rel_var (i := 0)) rel_int) (rel_opB rel_ixB (rel_var (i := 1)) rel_int)) (rel_cons (RelE.chk (rel_opB rel_ixB (rel_var (i := 0)) rel_int)) rel_nil))) rel_nil)))
  rels_nil)
  (rels_ret (rel_call1 rel_tuple (rel_lc (js := [3]) (vs := [3]) (rel_seqI (rel_frz (i := 2))) (relg_name (i := 3) (by decide)) (rel_not (rel_tru (rel_callN (ks := [none]) (relc_sh (RelE.chk (rel_var (i := 3))) relc_nil)))) (RelE.chk (rel_var (i := 3))))))))⟩) g F.kp (F.bindsN fun _ _ _ _ _ _ us hl => match us, hl with | [_, _], _ => rfl)
abbrev st_least_key : Stmt := top 1
abbrev N_least_key : List Str := ["paired"]
abbrev sp_least_key (K : PySem.W.Frag) : Sp := spN K 1 [] Fn_least_key
theorem sc_least_key : FnScope N_least_key ["paired"] (defScope st_least_key) := ⟨rfl, rfl, rfl, by decide +kernel, rfl, by decide +kernel, by decide +kernel⟩
theorem ok_least_key {f : Addr} {fd : FuncData} (F : FnP K "least_key" st_least_key f fd) (g : mg "least_key" = some (.ref f))  : OkD P w K mg base "least_key" 1 ["paired"] (sp_least_key K) := by
  have nd := sc_least_key.nd
  exact OkD.mk' (fnok F sc_least_key (by decide) (by decide) fun cdv A outer s H E hr => ⟨_,
  (pss_cons (ps_if (pt_truth (pv 0) (fun _ => rfl))
  (pss_one (ps_ret (pe_tup (pa_cons pe_str (pa_cons pe_str pa_nil)))))
  pss_nil)
  (pss_one (ps_ret pe_str))),
  (rels_seq (rels_if (rel_tru (rel_var (i := 0)))
  (rels_ret (rel_tup (rel_cons rel_str (rel_cons rel_str rel_nil))))
  rels_nil)
  (rels_ret rel_str))⟩) g F.kp (F.bindsN fun _ _ _ _ _ _ us hl => match us, hl with | [_], _ => rfl)
abbrev st_whole_interval : Stmt := top 2
abbrev N_whole_interval : List Str := ["paired"]
abbrev sp_whole_interval (K : PySem.W.Frag) : Sp := spN K 1 [] Fn_whole_interval
theorem sc_whole_interval : FnScope N_whole_interval ["paired"] (defScope st_whole_interval) := ⟨rfl, rfl, rfl, by decide +kernel, rfl, by decide +kernel, by decide +kernel⟩
theorem ok_whole_interval {f : Addr} {fd : FuncData} (F : FnP K "whole_interval" st_whole_interval f fd) (g : mg "whole_interval" = some (.ref f)) (o_least_key : OkD P w K mg base "least_key" 1 ["paired"] (sp_least_key K)) : OkD P w K mg base "whole_interval" 2 ["paired"] (sp_whole_interval K) := by
  have nd := sc_whole_interval.nd
  exact OkD.mk' (fnok F sc_whole_interval (by decide) (by decide) fun cdv A outer s H E hr => ⟨_,
  (pss_one (ps_ret (pe_tup (pa_cons (pe_callD o_least_key hr (by omega) (by rfl) (pa_cons (pv 0) pa_nil)) (pa_cons pe_non pa_nil))))),
  (rels_ret (rel_tup (rel_cons (rel_callN (ks := [none]) (relc_sh (RelE.chk (rel_var (i := 0))) relc_nil)) (rel_cons rel_non rel_nil))))⟩) g F.kp (F.bindsN fun _ _ _ _ _ _ us hl => match us, hl with | [_], _ => rfl)
abbrev st_successor_of : Stmt := top 3
abbrev N_successor_of : List Str := ["key"]
abbrev sp_successor_of (K : PySem.W.Frag) : Sp := spN K 1 [] Fn_successor_of
theorem sc_successor_of : FnScope N_successor_of ["key"] (defScope st_successor_of) := ⟨rfl, rfl, rfl, by decide +kernel, rfl, by decide +kernel, by decide +kernel⟩
theorem ok_successor_of {f : Addr} {fd : FuncData} (F : FnP K "successor_of" st_successor_of f fd) (g : mg "successor_of" = some (.ref f)) (m_isinstance : mg "isinstance" = none) (m_tuple : mg "tuple" = none) : OkD P w K mg base "successor_of" 1 ["key"] (sp_successor_of K) := by
  have nd := sc_successor_of.nd
  exact OkD.mk' (fnok F sc_successor_of (by decide) (by decide) fun cdv A outer s H E hr => ⟨_,
  (pss_cons (ps_if (pt_truth (pe_callB call_isi (by rfl) m_isinstance boot_isinstance (pa_cons (pv 0) (pa_cons (pe_bltn (v := .ty "tuple") (by rfl) m_tuple boot_tuple rfl) pa_nil))) (fun _ => rfl))
  (pss_one (ps_ret (pe_tup (pa_cons (pe_ix ix_seq (pv 0) pe_int (fun _ _ => rfl)) (pa_cons (pe_op op_addA (pe_ix ix_seq (pv 0) pe_int (fun _ _ => rfl)) pe_str) pa_nil)))))
  pss_nil)
  (pss_one (ps_ret (pe_op op_addA (pv 0) pe_str)))),
  (rels_seq (rels_if (rel_tru (rel_isi (T := .tuple) (rel_var (i := 0))))
  (rels_ret (rel_tup (rel_cons (RelE.chk (rel_opB rel_ixB (rel_var (i := 0)) rel_int)) (rel_cons (rel_op rel_add (rel_opB rel_ixB (rel_var (i := 0)) rel_int) rel_str) rel_nil))))
  rels_nil)
  (rels_ret (rel_op rel_add (rel_var (i := 0)) rel_str)))⟩) g F.kp (F.bindsN fun _ _ _ _ _ _ us hl => match us, hl with | [_], _ => rfl)
abbrev st_around_key : Stmt := top 4
abbrev N_around_key : List Str := ["key"]
abbrev sp_around_key (K : PySem.W.Frag) : Sp := spN K 1 [] Fn_around_key
theorem sc_around_key : FnScope N_around_key ["key"] (defScope st_around_key) := ⟨rfl, rfl, rfl, by decide +kernel, rfl, by decide +kernel, by decide +kernel⟩
theorem ok_around_key {f : Addr} {fd : FuncData} (F : FnP K "around_key" st_around_key f fd) (g : mg "around_key" = some (.ref f)) (o_successor_of : OkD P w K mg base "successor_of" 1 ["key"] (sp_successor_of K)) : OkD P w K mg base "around_key" 2 ["key"] (sp_around_key K) := by
  have nd := sc_around_key.nd
  exact OkD.mk' (fnok F sc_around_key (by decide) (by decide) fun cdv A outer s H E hr => ⟨_,
  (pss_one (ps_ret (pe_tup (pa_cons (pv 0) (pa_cons (pe_callD o_successor_of hr (by omega) (by rfl) (pa_cons (pv 0) pa_nil)) pa_nil))))),
  (rels_ret (rel_tup (rel_cons (RelE.chk (rel_var (i := 0))) (rel_cons (rel_callN (ks := [none]) (relc_sh (RelE.chk (rel_var (i := 0))) relc_nil)) rel_nil))))⟩) g F.kp (F.bindsN fun _ _ _ _ _ _ us hl => match us, hl with | [_], _ => rfl)
abbrev st_has_key : Stmt := top 5
abbrev N_has_key : List Str := ["interval", "key", "low", "high"]
abbrev sp_has_key (K : PySem.W.Frag) : Sp := spN K 2 [] Fn_has_key
theorem sc_has_key : FnScope N_has_key ["interval", "key"] (defScope st_has_key) := ⟨rfl, rfl, rfl, by decide +kernel, rfl, by decide +kernel, by decide +kernel⟩
theorem ok_has_key {f : Addr} {fd : FuncData} (F : FnP K "has_key" st_has_key f fd) (g : mg "has_key" = some (.ref f))  : OkD P w K mg base "has_key" 1 ["interval", "key"] (sp_has_key K) := by
  have nd := sc_has_key.nd
  exact OkD.mk' (fnok F sc_has_key (by decide) (by decide) fun cdv A outer s H E hr => ⟨_,
  (pss_cons (ps_asg (pv 0) (pg_tup rfl (pgs_cons (pg_name (i := 2) nd rfl (by first | exact Or.inl rfl | exact Or.inr rfl)) (pgs_cons (pg_name (i := 3) nd rfl (by first | exact Or.inl rfl | exact Or.inr rfl)) pgs_nil))))
  (pss_one (ps_ret (pe_and (pe_cmpR (op_leG (Room.units hr)) (pv 2) (pv 1) (nomark _)) (pe_one (pe_or (pe_cmpR (op_isN) (pv 3) pe_non (nomark _)) (pe_one (pe_cmpR (op_ltG (Room.units hr)) (pv 1) (pv 3) (nomark _))))))))),
  (rels_seq (rels_asg (rel_give (RelE.chk (rel_var (i := 0)))) (relg_tup (relgs_cons (relg_name (i := 2) (by decide)) (relgs_cons (relg_name (i := 3) (by decide)) relgs_nil))))
  (rels_ret (RelE.chk (rel_andv (rel_op rel_cmp (rel_var (i := 2)) (rel_var (i := 1))) (rel_orv (rel_op rel_isn (rel_var (i := 3)) rel_non) (rel_op rel_cmp (rel_var (i := 1)) (rel_var (i := 3))))))))⟩) g F.kp (F.bindsN fun _ _ _ _ _ _ us hl => match us, hl with | [_, _], _ => rfl)
abbrev st_common_part : Stmt := top 8
abbrev N_common_part : List Str := ["a", "b", "part"]
abbrev sp_common_part (K : PySem.W.Frag) : Sp := spN K 2 [] Fn_common_part
theorem sc_common_part : FnScope N_common_part ["a", "b"] (defScope st_common_part) := ⟨rfl, rfl, rfl, by decide +kernel, rfl, by decide +kernel, by decide +kernel⟩
theorem ok_common_part {f : Addr} {fd : FuncData} (F : FnP K "common_part" st_common_part f fd) (g : mg "common_part" = some (.ref f)) (o_lesser_high : OkD P w K mg base "lesser_high" 1 ["a", "b"] (sp_lesser_high K)) (o_is_empty : OkD P w K mg base "is_empty" 1 ["interval"] (sp_is_empty K)) (m_max : mg "max" = none) : OkD P w K mg base "common_part" 2 ["a", "b"] (sp_common_part K) := by
  have nd := sc_common_part.nd
  exact OkD.mk' (fnok F sc_common_part (by decide) (by decide) fun cdv A outer s H E hr => ⟨_,
  (pss_cons (ps_set (i := 2) nd rfl (by first | exact Or.inl rfl | exact Or.inr rfl) (pe_tup (pa_cons (pe_callB (call_maxD rfl (units65 hr)) (by rfl) m_max boot_max (pa_cons (pe_ix ix_seq (pv 0) pe_int (fun _ _ => rfl)) (pa_cons (pe_ix ix_seq (pv 1) pe_int (fun _ _ => rfl)) pa_nil))) (pa_cons (pe_callD o_lesser_high hr (by omega) (by rfl) (pa_cons (pe_ix ix_seq (pv 0) pe_int (fun _ _ => rfl)) (pa_cons (pe_ix ix_seq (pv 1) pe_int (fun _ _ => rfl)) pa_nil))) pa_nil))))
  (pss_cons (ps_if (pt_truth (pe_callD o_is_empty hr (by omega) (by rfl) (pa_cons (pv 2) pa_nil)) (fun _ => rfl))
  (pss_one (ps_ret pe_non))
  pss_nil)
  (pss_one (ps_ret (pv 2))))),
  (rels_seq (rels_asg (rel_give (rel_tup (rel_cons (rel_call2 rel_maxA (rel_opB rel_ixB (rel_var (i := 0)) rel_int) (rel_opB rel_ixB (rel_var (i := 1)) rel_int)) (rel_cons (rel_callN (ks := [none, none]) (relc_sh (RelE.chk (rel_opB rel_ixB (rel_var (i := 0)) rel_int)) (relc_sh (RelE.chk (rel_opB rel_ixB (rel_var (i := 1)) rel_int)) relc_nil))) rel_nil)))) (relg_name (i := 2) (by decide)))
  (rels_seq (rels_if (rel_tru (rel_callN (ks := [none]) (relc_sh (RelE.chk (rel_var (i := 2))) relc_nil)))
  (rels_ret rel_non)
  rels_nil)
  (rels_ret (RelE.chk (rel_var (i := 2))))))⟩) g F.kp (F.bindsN fun _ _ _ _ _ _ us hl => match us, hl with | [_, _], _ => rfl)
abbrev st_is_overlapping : Stmt := top 9
abbrev N_is_overlapping : List Str := ["a", "b"]
abbrev sp_is_overlapping (K : PySem.W.Frag) : Sp := spN K 2 [] Fn_is_overlapping
theorem sc_is_overlapping : FnScope N_is_overlapping ["a", "b"] (defScope st_is_overlapping) := ⟨rfl, rfl, rfl, by decide +kernel, rfl, by decide +kernel, by decide +kernel⟩
theorem ok_is_overlapping {f : Addr} {fd : FuncData} (F : FnP K "is_overlapping" st_is_overlapping f fd) (g : mg "is_overlapping" = some (.ref f)) (o_common_part : OkD P w K mg base "common_part" 2 ["a", "b"] (sp_common_part K)) : OkD P w K mg base "is_overlapping" 3 ["a", "b"] (sp_is_overlapping K) := by
  have nd := sc_is_overlapping.nd
  exact OkD.mk' (fnok F sc_is_overlapping (by decide) (by decide) fun cdv A outer s H E hr => ⟨_,
  (pss_one (ps_ret (pe_cmpR (op_notN) (pe_callD o_common_part hr (by omega) (by rfl) (pa_cons (pv 0) (pa_cons (pv 1) pa_nil))) pe_non (nomark _)))),
  (rels_ret (rel_op rel_notn (rel_callN (ks := [none, none]) (relc_sh (RelE.chk (rel_var (i := 0))) (relc_sh (RelE.chk (rel_var (i := 1))) relc_nil))) rel_non))⟩) g F.kp (F.bindsN fun _ _ _ _ _ _ us hl => match us, hl with | [_, _], _ => rfl)
abbrev st_is_covering : Stmt := top 10
abbrev N_is_covering : List Str := ["a", "b"]
abbrev sp_is_covering (K : PySem.W.Frag) : Sp := spN K 2 [] Fn_is_covering
theorem sc_is_covering : FnScope N_is_covering ["a", "b"] (defScope st_is_covering) := ⟨rfl, rfl, rfl, by decide +kernel, rfl, by decide +kernel, by decide +kernel⟩
theorem ok_is_covering {f : Addr} {fd : FuncData} (F : FnP K "is_covering" st_is_covering f fd) (g : mg "is_covering" = some (.ref f))  : OkD P w K mg base "is_covering" 1 ["a", "b"] (sp_is_covering K) := by
  have nd := sc_is_covering.nd
  exact OkD.mk' (fnok F sc_is_covering (by decide) (by decide) fun cdv A outer s H E hr => ⟨_,
  (pss_cons (ps_if (pt_cmpR (op_ltG (Room.units hr)) (pe_ix ix_seq (pv 1) pe_int (fun _ _ => rfl)) (pe_ix ix_seq (pv 0) pe_int (fun _ _ => rfl)) (nomark _))
  (pss_one (ps_ret pe_bl))
  pss_nil)
  (pss_one (ps_ret (pe_or (pe_cmpR (op_isN) (pe_ix ix_seq (pv 0) pe_int (fun _ _ => rfl)) pe_non (nomark _)) (pe_one (pe_and (pe_cmpR (op_notN) (pe_ix ix_seq (pv 1) pe_int (fun _ _ => rfl)) pe_non (nomark _)) (pe_one (pe_cmpR (op_leG (Room.units hr)) (pe_ix ix_seq (pv 1) pe_int (fun _ _ => rfl)) (pe_ix ix_seq (pv 0) pe_int (fun _ _ => rfl)) (nomark _))))))))),
  (rels_seq (rels_if (rel_test (rel_op rel_cmp (rel_opB rel_ixB (rel_var (i := 1)) rel_int) (rel_opB rel_ixB (rel_var (i := 0)) rel_int)))
  (rels_ret rel_bl)
  rels_nil)
  (rels_ret (RelE.chk (rel_orv (rel_op rel_isn (rel_opB rel_ixB (rel_var (i := 0)) rel_int) rel_non) (rel_andv (rel_op rel_notn (rel_opB rel_ixB (rel_var (i := 1)) rel_int) rel_non) (rel_op rel_cmp (rel_opB rel_ixB (rel_var (i := 1)) rel_int) (rel_opB rel_ixB (rel_var (i := 0)) rel_int)))))))⟩) g F.kp (F.bindsN fun _ _ _ _ _ _ us hl => match us, hl with | [_, _], _ => rfl)
abbrev st_join_of : Stmt := top 11
abbrev N_join_of : List Str := ["a", "b", "low"]
abbrev sp_join_of (K : PySem.W.Frag) : Sp := spN K 2 [] Fn_join_of
theorem sc_join_of : FnScope N_join_of ["a", "b"] (defScope st_join_of) := ⟨rfl, rfl, rfl, by decide +kernel, rfl, by decide +kernel, by decide +kernel⟩
theorem ok_join_of {f : Addr} {fd : FuncData} (F : FnP K "join_of" st_join_of f fd) (g : mg "join_of" = some (.ref f)) (m_min : mg "min" = none) (m_max : mg "max" = none) : OkD P w K mg base "join_of" 1 ["a", "b"] (sp_join_of K) := by
  have nd := sc_join_of.nd
  exact OkD.mk' (fnok F sc_join_of (by decide) (by decide) fun cdv A outer s H E hr => ⟨_,
  (pss_cons (ps_set (i := 2) nd rfl (by first | exact Or.inl rfl | exact Or.inr rfl) (pe_callB (call_minD rfl (units65 hr)) (by rfl) m_min boot_min (pa_cons (pe_ix ix_seq (pv 0) pe_int (fun _ _ => rfl)) (pa_cons (pe_ix ix_seq (pv 1) pe_int (fun _ _ => rfl)) pa_nil))))
  (pss_cons (ps_if (PW.pt (pw_or (pt_cmpR (op_isN) (pe_ix ix_seq (pv 0) pe_int (fun _ _ => rfl)) pe_non (nomark _)) (pw_or1 (pt_cmpR (op_isN) (pe_ix ix_seq (pv 1) pe_int (fun _ _ => rfl)) pe_non (nomark _)))))
  (pss_one (ps_ret (pe_tup (pa_cons (pv 2) (pa_cons pe_non pa_nil)))))
  pss_nil)
  (pss_one (ps_ret (pe_tup (pa_cons (pv 2) (pa_cons (pe_callB (call_maxD rfl (units65 hr)) (by rfl) m_max boot_max (pa_cons (pe_ix ix_seq (pv 0) pe_int (fun _ _ => rfl)) (pa_cons (pe_ix ix_seq (pv 1) pe_int (fun _ _ => rfl)) pa_nil))) pa_nil))))))),
  (rels_seq (rels_asg (rel_give (rel_call2 rel_minA (rel_opB rel_ixB (rel_var (i := 0)) rel_int) (rel_opB rel_ixB (rel_var (i := 1)) rel_int))) (relg_name (i := 2) (by decide)))
  (rels_seq (rels_if (rel_or (rel_test (rel_op rel_isn (rel_opB rel_ixB (rel_var (i := 0)) rel_int) rel_non)) (rel_test (rel_op rel_isn (rel_opB rel_ixB (rel_var (i := 1)) rel_int) rel_non)))
  (rels_ret (rel_tup (rel_cons (RelE.chk (rel_var (i := 2))) (rel_cons rel_non rel_nil))))
  rels_nil)
  (rels_ret (rel_tup (rel_cons (RelE.chk (rel_var (i := 2))) (rel_cons (rel_call2 rel_maxA (rel_opB rel_ixB (rel_var (i := 0)) rel_int) (rel_opB rel_ixB (rel_var (i := 1)) rel_int)) rel_nil))))))⟩) g F.kp (F.bindsN fun _ _ _ _ _ _ us hl => match us, hl with | [_, _], _ => rfl)
abbrev st__law_told : Stmt := top 31
abbrev N__law_told : List Str := ["door", "ask", "paired", "key", "a", "b", "c"]
abbrev sp__law_told (K : PySem.W.Frag) : Sp := spN K 2 [] Fn__law_told
theorem sc__law_told : FnScope N__law_told ["door", "ask"] (defScope st__law_told) := ⟨rfl, rfl, rfl, by decide +kernel, rfl, by decide +kernel, by decide +kernel⟩
theorem ok__law_told {f : Addr} {fd : FuncData} (F : FnP K "_law_told" st__law_told f fd) (g : mg "_law_told" = some (.ref f)) (o_least_key : OkD P w K mg base "least_key" 1 ["paired"] (sp_least_key K)) (o_whole_interval : OkD P w K mg base "whole_interval" 2 ["paired"] (sp_whole_interval K)) (o_successor_of : OkD P w K mg base "successor_of" 1 ["key"] (sp_successor_of K)) (o_around_key : OkD P w K mg base "around_key" 2 ["key"] (sp_around_key K)) (o_has_key : OkD P w K mg base "has_key" 1 ["interval", "key"] (sp_has_key K)) (o_is_empty : OkD P w K mg base "is_empty" 1 ["interval"] (sp_is_empty K)) (o_is_overlapping : OkD P w K mg base "is_overlapping" 3 ["a", "b"] (sp_is_overlapping K)) (o_is_covering : OkD P w K mg base "is_covering" 1 ["a", "b"] (sp_is_covering K)) (o_common_part : OkD P w K mg base "common_part" 2 ["a", "b"] (sp_common_part K)) (o_join_of : OkD P w K mg base "join_of" 1 ["a", "b"] (sp_join_of K)) (o_left_of : OkD P w K mg base "left_of" 2 ["a", "b"] (sp_left_of K)) : OkD P w K mg base "_law_told" 4 ["door", "ask"] (sp__law_told K) := by
  have nd := sc__law_told.nd
  exact OkD.mk' (fnok F sc__law_told (by decide) (by decide) fun cdv A outer s H E hr => ⟨_,
  (pss_cons (ps_asg (pv 1) (pg_tup rfl (pgs_cons (pg_name (i := 2) nd rfl (by first | exact Or.inl rfl | exact Or.inr rfl)) (pgs_cons (pg_name (i := 3) nd rfl (by first | exact Or.inl rfl | exact Or.inr rfl)) (pgs_cons (pg_name (i := 4) nd rfl (by first | exact Or.inl rfl | exact Or.inr rfl)) (pgs_cons (pg_name (i := 5) nd rfl (by first | exact Or.inl rfl | exact Or.inr rfl)) (pgs_cons (pg_name (i := 6) nd rfl (by first | exact Or.inl rfl | exact Or.inr rfl)) pgs_nil)))))))
  (pss_cons (ps_if (pt_cmpR (op_eqP (Room.units hr)) (pv 0) pe_int (nomark _))
  (pss_one (ps_ret (pe_callD o_least_key hr (by omega) (by rfl) (pa_cons (pv 2) pa_nil))))
  pss_nil)
  (pss_cons (ps_if (pt_cmpR (op_eqP (Room.units hr)) (pv 0) pe_int (nomark _))
  (pss_one (ps_ret (pe_callD o_whole_interval hr (by omega) (by rfl) (pa_cons (pv 2) pa_nil))))
  pss_nil)
  (pss_cons (ps_if (pt_cmpR (op_eqP (Room.units hr)) (pv 0) pe_int (nomark _))
  (pss_one (ps_ret (pe_callD o_successor_of hr (by omega) (by rfl) (pa_cons (pv 3) pa_nil))))
  pss_nil)
  (pss_cons (ps_if (pt_cmpR (op_eqP (Room.units hr)) (pv 0) pe_int (nomark _))
  (pss_one (ps_ret (pe_callD o_around_key hr (by omega) (by rfl) (pa_cons (pv 3) pa_nil))))
  pss_nil)
  (pss_cons (ps_if (pt_cmpR (op_eqP (Room.units hr)) (pv 0) pe_int (nomark _))
  (pss_one (ps_ret (pe_callD o_has_key hr (by omega) (by rfl) (pa_cons (pv 6) (pa_cons (pv 3) pa_nil)))))
  pss_nil)
  (pss_cons (ps_if (pt_cmpR (op_eqP (Room.units hr)) (pv 0) pe_int (nomark _))
  (pss_one (ps_ret (pe_callD o_is_empty hr (by omega) (by rfl) (pa_cons (pv 6) pa_nil))))
  pss_nil)
  (pss_cons (ps_if (pt_cmpR (op_eqP (Room.units hr)) (pv 0) pe_int (nomark _))
  (pss_one (ps_ret (pe_callD o_is_overlapping hr (by omega) (by rfl) (pa_cons (pv 4) (pa_cons (pv 5) pa_nil)))))
  pss_nil)
  (pss_cons (ps_if (pt_cmpR (op_eqP (Room.units hr)) (pv 0) pe_int (nomark _))
  (pss_one (ps_ret (pe_callD o_is_covering hr (by omega) (by rfl) (pa_cons (pv 4) (pa_cons (pv 5) pa_nil)))))
  pss_nil)
  (pss_cons (ps_if (pt_cmpR (op_eqP (Room.units hr)) (pv 0) pe_int (nomark _))
  (pss_one (ps_ret (pe_callD o_common_part hr (by omega) (by rfl) (pa_cons (pv 4) (pa_cons (pv 5) pa_nil)))))
  pss_nil)
  (pss_cons (ps_if (pt_cmpR (op_eqP (Room.units hr)) (pv 0) pe_int (nomark _))
  (pss_one (ps_ret (pe_callD o_join_of hr (by omega) (by rfl) (pa_cons (pv 4) (pa_cons (pv 5) pa_nil)))))
  pss_nil)
  (pss_one (ps_ret (pe_callD o_left_of hr (by omega) (by rfl) (pa_cons (pv 4) (pa_cons (pv 5) pa_nil)))))))))))))))),
  (rels_seq (rels_asg (rel_give (RelE.chk (rel_var (i := 1)))) (relg_tup (relgs_cons (relg_name (i := 2) (by decide)) (relgs_cons (relg_name (i := 3) (by decide)) (relgs_cons (relg_name (i := 4) (by decide)) (relgs_cons (relg_name (i := 5) (by decide)) (relgs_cons (relg_name (i := 6) (by decide)) relgs_nil)))))))
  (rels_seq (rels_if (rel_test (rel_op rel_eqA (rel_var (i := 0)) rel_int))
  (rels_ret (rel_callN (ks := [none]) (relc_sh (RelE.chk (rel_var (i := 2))) relc_nil)))
  rels_nil)
  (rels_seq (rels_if (rel_test (rel_op rel_eqA (rel_var (i := 0)) rel_int))
  (rels_ret (rel_callN (ks := [none]) (relc_sh (RelE.chk (rel_var (i := 2))) relc_nil)))
  rels_nil)
  (rels_seq (rels_if (rel_test (rel_op rel_eqA (rel_var (i := 0)) rel_int))
  (rels_ret (rel_callN (ks := [none]) (relc_sh (RelE.chk (rel_var (i := 3))) relc_nil)))
  rels_nil)
  (rels_seq (rels_if (rel_test (rel_op rel_eqA (rel_var (i := 0)) rel_int))
  (rels_ret (rel_callN (ks := [none]) (relc_sh (RelE.chk (rel_var (i := 3))) relc_nil)))
  rels_nil)
  (rels_seq (rels_if (rel_test (rel_op rel_eqA (rel_var (i := 0)) rel_int))
  (rels_ret (rel_callN (ks := [none, none]) (relc_sh (RelE.chk (rel_var (i := 6))) (relc_sh (RelE.chk (rel_var (i := 3))) relc_nil))))
  rels_nil)
  (rels_seq (rels_if (rel_test (rel_op rel_eqA (rel_var (i := 0)) rel_int))
  (rels_ret (rel_callN (ks := [none]) (relc_sh (RelE.chk (rel_var (i := 6))) relc_nil)))
  rels_nil)
  (rels_seq (rels_if (rel_test (rel_op rel_eqA (rel_var (i := 0)) rel_int))
  (rels_ret (rel_callN (ks := [none, none]) (relc_sh (RelE.chk (rel_var (i := 4))) (relc_sh (RelE.chk (rel_var (i := 5))) relc_nil))))
  rels_nil)
  (rels_seq (rels_if (rel_test (rel_op rel_eqA (rel_var (i := 0)) rel_int))
  (rels_ret (rel_callN (ks := [none, none]) (relc_sh (RelE.chk (rel_var (i := 4))) (relc_sh (RelE.chk (rel_var (i := 5))) relc_nil))))
  rels_nil)
  (rels_seq (rels_if (rel_test (rel_op rel_eqA (rel_var (i := 0)) rel_int))
  (rels_ret (rel_callN (ks := [none, none]) (relc_sh (RelE.chk (rel_var (i := 4))) (relc_sh (RelE.chk (rel_var (i := 5))) relc_nil))))
  rels_nil)
  (rels_seq (rels_if (rel_test (rel_op rel_eqA (rel_var (i := 0)) rel_int))
  (rels_ret (rel_callN (ks := [none, none]) (relc_sh (RelE.chk (rel_var (i := 4))) (relc_sh (RelE.chk (rel_var (i := 5))) relc_nil))))
  rels_nil)
  (rels_ret (rel_callN (ks := [none, none]) (relc_sh (RelE.chk (rel_var (i := 4))) (relc_sh (RelE.chk (rel_var (i := 5))) relc_nil)))))))))))))))⟩) g F.kp (F.bindsN fun _ _ _ _ _ _ us hl => match us, hl with | [_, _], _ => rfl)
abbrev st__law_a_left : Stmt := top 27
abbrev N__law_a_left : List Str := ["a", "b", "told", "low"]
abbrev sp__law_a_left (K : PySem.W.Frag) : Sp := spN K 2 [] Fn__law_a_left
theorem sc__law_a_left : FnScope N__law_a_left ["a", "b"] (defScope st__law_a_left) := ⟨rfl, rfl, rfl, by decide +kernel, rfl, by decide +kernel, by decide +kernel⟩
theorem ok__law_a_left {f : Addr} {fd : FuncData} (F : FnP K "_law_a_left" st__law_a_left f fd) (g : mg "_law_a_left" = some (.ref f)) (m_max : mg "max" = none) (m_tuple : mg "tuple" = none) : OkD P w K mg base "_law_a_left" 1 ["a", "b"] (sp__law_a_left K) := by
  have nd := sc__law_a_left.nd
  exact OkD.mk' (fnok F sc__law_a_left (by decide) (by decide) fun cdv A outer s H E hr => ⟨_,
  (pss_cons (ps_set (i := 2) nd rfl (by first | exact Or.inl rfl | exact Or.inr rfl) (pe_lst pa_nil))
  (pss_cons (ps_if (pt_cmpR (op_ltG (Room.units hr)) (pe_ix ix_seq (pv 0) pe_int (fun _ _ => rfl)) (pe_ix ix_seq (pv 1) pe_int (fun _ _ => rfl)) (nomark _))
  (pss_one (ps_expr (pe_bm PySem.F.plainAttrs_list PySem.F.slot_list_append PySem.F.type_list_append mt_append (pv 2) (pa_cons (pe_tup (pa_cons (pe_ix ix_seq (pv 0) pe_int (fun _ _ => rfl)) (pa_cons (pe_ifExp (PW.pt (pw_or (pt_cmpR (op_isN) (pe_ix ix_seq (pv 0) pe_int (fun _ _ => rfl)) pe_non (nomark _)) (pw_or1 (pt_cmpR (op_ltG (Room.units hr)) (pe_ix ix_seq (pv 1) pe_int (fun _ _ => rfl)) (pe_ix ix_seq (pv 0) pe_int (fun _ _ => rfl)) (nomark _))))) (pe_ix ix_seq (pv 1) pe_int (fun _ _ => rfl)) (pe_ix ix_seq (pv 0) pe_int (fun _ _ => rfl))) pa_nil))) pa_nil))))
  pss_nil)
  (pss_cons (ps_if (pt_cmpR (op_notN) (pe_ix ix_seq (pv 1) pe_int (fun _ _ => rfl)) pe_non (nomark _))
  (pss_cons (ps_set (i := 3) nd rfl (by first | exact Or.inl rfl | exact Or.inr rfl) (pe_callB (call_maxD rfl (units65 hr)) (by rfl) m_max boot_max (pa_cons (pe_ix ix_seq (pv 0) pe_int (fun _ _ => rfl)) (pa_cons (pe_ix ix_seq (pv 1) pe_int (fun _ _ => rfl)) pa_nil))))
  (pss_one (ps_if (PW.pt (pw_or (pt_cmpR (op_isN) (pe_ix ix_seq (pv 0) pe_int (fun _ _ => rfl)) pe_non (nomark _)) (pw_or1 (pt_cmpR (op_ltG (Room.units hr)) (pv 3) (pe_ix ix_seq (pv 0) pe_int (fun _ _ => rfl)) (nomark _)))))
  (pss_one (ps_expr (pe_bm PySem.F.plainAttrs_list PySem.F.slot_list_append PySem.F.type_list_append mt_append (pv 2) (pa_cons (pe_tup (pa_cons (pv 3) (pa_cons (pe_ix ix_seq (pv 0) pe_int (fun _ _ => rfl)) pa_nil))) pa_nil))))
  pss_nil)))
  pss_nil)
  (pss_one (ps_ret (pe_callTy call_tuple_of (by rfl) m_tuple boot_tuple (pa_cons (pv 2) pa_nil))))))),
  (rels_seq (rels_asg (rel_lst rel_nil) (relg_name (i := 2) (by decide)))
  (rels_seq (rels_if (rel_test (rel_op rel_cmp (rel_opB rel_ixB (rel_var (i := 0)) rel_int) (rel_opB rel_ixB (rel_var (i := 1)) rel_int)))
  (rels_drop (rel_mut (i := 2) mut_append (rel_cons (rel_tup (rel_cons (RelE.chk (rel_opB rel_ixB (rel_var (i := 0)) rel_int)) (rel_cons (rel_if (rel_or (rel_test (rel_op rel_isn (rel_opB rel_ixB (rel_var (i := 0)) rel_int) rel_non)) (rel_test (rel_op rel_cmp (rel_opB rel_ixB (rel_var (i := 1)) rel_int) (rel_opB rel_ixB (rel_var (i := 0)) rel_int)))) (RelE.chk (rel_opB rel_ixB (rel_var (i := 1)) rel_int)) (RelE.chk (rel_opB rel_ixB (rel_var (i := 0)) rel_int))) rel_nil))) rel_nil)))
  rels_nil)
  (rels_seq (rels_if (rel_test (rel_op rel_notn (rel_opB rel_ixB (rel_var (i := 1)) rel_int) rel_non))
  (rels_seq (rels_asg (rel_give (rel_call2 rel_maxA (rel_opB rel_ixB (rel_var (i := 0)) rel_int) (rel_opB rel_ixB (rel_var (i := 1)) rel_int))) (relg_name (i := 3) (by decide)))
  (rels_if (rel_or (rel_test (rel_op rel_isn (rel_opB rel_ixB (rel_var (i := 0)) rel_int) rel_non)) (rel_test (rel_op rel_cmp (rel_var (i := 3)) (rel_opB rel_ixB (rel_var (i := 0)) rel_int))))
  (rels_drop (rel_mut (i := 2) mut_append (rel_cons (rel_tup (rel_cons (RelE.chk (rel_var (i := 3))) (rel_cons (RelE.chk (rel_opB rel_ixB (rel_var (i := 0)) rel_int)) rel_nil))) rel_nil)))
  rels_nil))
  rels_nil)
  (rels_ret (rel_call1 rel_tuple (rel_var (i := 2)))))))⟩) g F.kp (F.bindsN fun _ _ _ _ _ _ us hl => match us, hl with | [_, _], _ => rfl)
abbrev st__law_a_has : Stmt := top 24
abbrev N__law_a_has : List Str := ["interval", "key"]
abbrev sp__law_a_has (K : PySem.W.Frag) : Sp := spN K 2 [] Fn__law_a_has
theorem sc__law_a_has : FnScope N__law_a_has ["interval", "key"] (defScope st__law_a_has) := ⟨rfl, rfl, rfl, by decide +kernel, rfl, by decide +kernel, by decide +kernel⟩
theorem ok__law_a_has {f : Addr} {fd : FuncData} (F : FnP K "_law_a_has" st__law_a_has f fd) (g : mg "_law_a_has" = some (.ref f))  : OkD P w K mg base "_law_a_has" 1 ["interval", "key"] (sp__law_a_has K) := by
  have nd := sc__law_a_has.nd
  exact OkD.mk' (fnok F sc__law_a_has (by decide) (by decide) fun cdv A outer s H E hr => ⟨_,
  (pss_one (ps_ret (pe_and (pe_cmpR (op_leG (Room.units hr)) (pe_ix ix_seq (pv 0) pe_int (fun _ _ => rfl)) (pv 1) (nomark _)) (pe_one (pe_or (pe_cmpR (op_isN) (pe_ix ix_seq (pv 0) pe_int (fun _ _ => rfl)) pe_non (nomark _)) (pe_one (pe_cmpR (op_ltG (Room.units hr)) (pv 1) (pe_ix ix_seq (pv 0) pe_int (fun _ _ => rfl)) (nomark _)))))))),
  (rels_ret (RelE.chk (rel_andv (rel_op rel_cmp (rel_opB rel_ixB (rel_var (i := 0)) rel_int) (rel_var (i := 1))) (rel_orv (rel_op rel_isn (rel_opB rel_ixB (rel_var (i := 0)) rel_int) rel_non) (rel_op rel_cmp (rel_var (i := 1)) (rel_opB rel_ixB (rel_var (i := 0)) rel_int))))))⟩) g F.kp (F.bindsN fun _ _ _ _ _ _ us hl => match us, hl with | [_, _], _ => rfl)
abbrev st__law_a_common : Stmt := top 25
abbrev N__law_a_common : List Str := ["a", "b", "low", "high"]
abbrev sp__law_a_common (K : PySem.W.Frag) : Sp := spN K 2 [] Fn__law_a_common
theorem sc__law_a_common : FnScope N__law_a_common ["a", "b"] (defScope st__law_a_common) := ⟨rfl, rfl, rfl, by decide +kernel, rfl, by decide +kernel, by decide +kernel⟩
theorem ok__law_a_common {f : Addr} {fd : FuncData} (F : FnP K "_law_a_common" st__law_a_common f fd) (g : mg "_law_a_common" = some (.ref f)) (m_max : mg "max" = none) : OkD P w K mg base "_law_a_common" 1 ["a", "b"] (sp__law_a_common K) := by
  have nd := sc__law_a_common.nd
  exact OkD.mk' (fnok F sc__law_a_common (by decide) (by decide) fun cdv A outer s H E hr => ⟨_,
  (pss_cons (ps_set (i := 2) nd rfl (by first | exact Or.inl rfl | exact Or.inr rfl) (pe_callB (call_maxD rfl (units65 hr)) (by rfl) m_max boot_max (pa_cons (pe_ix ix_seq (pv 0) pe_int (fun _ _ => rfl)) (pa_cons (pe_ix ix_seq (pv 1) pe_int (fun _ _ => rfl)) pa_nil))))
  (pss_cons (ps_set (i := 3) nd rfl (by first | exact Or.inl rfl | exact Or.inr rfl) (pe_ix ix_seq (pv 0) pe_int (fun _ _ => rfl)))
  (pss_cons (ps_if (PW.pt (pw_or (pt_cmpR (op_isN) (pv 3) pe_non (nomark _)) (pw_or1 (PW.pt (pw_and (pt_cmpR (op_notN) (pe_ix ix_seq (pv 1) pe_int (fun _ _ => rfl)) pe_non (nomark _)) (pw_and1 (pt_cmpR (op_ltG (Room.units hr)) (pe_ix ix_seq (pv 1) pe_int (fun _ _ => rfl)) (pv 3) (nomark _))))))))
  (pss_one (ps_set (i := 3) nd rfl (by first | exact Or.inl rfl | exact Or.inr rfl) (pe_ix ix_seq (pv 1) pe_int (fun _ _ => rfl))))
  pss_nil)
  (pss_cons (ps_if (PW.pt (pw_and (pt_cmpR (op_notN) (pv 3) pe_non (nomark _)) (pw_and1 (pt_cmpR (op_leG (Room.units hr)) (pv 3) (pv 2) (nomark _)))))
  (pss_one (ps_ret pe_non))
  pss_nil)
  (pss_one (ps_ret (pe_tup (pa_cons (pv 2) (pa_cons (pv 3) pa_nil))))))))),
  (rels_seq (rels_asg (rel_give (rel_call2 rel_maxA (rel_opB rel_ixB (rel_var (i := 0)) rel_int) (rel_opB rel_ixB (rel_var (i := 1)) rel_int))) (relg_name (i := 2) (by decide)))
  (rels_seq (rels_asg (rel_give (RelE.chk (rel_opB rel_ixB (rel_var (i := 0)) rel_int))) (relg_name (i := 3) (by decide)))
  (rels_seq (rels_if (rel_or (rel_test (rel_op rel_isn (rel_var (i := 3)) rel_non)) (rel_and (rel_test (rel_op rel_notn (rel_opB rel_ixB (rel_var (i := 1)) rel_int) rel_non)) (rel_test (rel_op rel_cmp (rel_opB rel_ixB (rel_var (i := 1)) rel_int) (rel_var (i := 3))))))
  (rels_asg (rel_give (RelE.chk (rel_opB rel_ixB (rel_var (i := 1)) rel_int))) (relg_name (i := 3) (by decide)))
  rels_nil)
  (rels_seq (rels_if (rel_and (rel_test (rel_op rel_notn (rel_var (i := 3)) rel_non)) (rel_test (rel_op rel_cmp (rel_var (i := 3)) (rel_var (i := 2)))))
  (rels_ret rel_non)
  rels_nil)
  (rels_ret (rel_tup (rel_cons (RelE.chk (rel_var (i := 2))) (rel_cons (RelE.chk (rel_var (i := 3))) rel_nil))))))))⟩) g F.kp (F.bindsN fun _ _ _ _ _ _ us hl => match us, hl with | [_, _], _ => rfl)
abbrev st__law_a_join : Stmt := top 26
abbrev N__law_a_join : List Str := ["a", "b", "high"]
abbrev sp__law_a_join (K : PySem.W.Frag) : Sp := spN K 2 [] Fn__law_a_join
theorem sc__law_a_join : FnScope N__law_a_join ["a", "b"] (defScope st__law_a_join) := ⟨rfl, rfl, rfl, by decide +kernel, rfl, by decide +kernel, by decide +kernel⟩
theorem ok__law_a_join {f : Addr} {fd : FuncData} (F : FnP K "_law_a_join" st__law_a_join f fd) (g : mg "_law_a_join" = some (.ref f)) (m_max : mg "max" = none) (m_min : mg "min" = none) : OkD P w K mg base "_law_a_join" 1 ["a", "b"] (sp__law_a_join K) := by
  have nd := sc__law_a_join.nd
  exact OkD.mk' (fnok F sc__law_a_join (by decide) (by decide) fun cdv A outer s H E hr => ⟨_,
  (pss_cons (ps_set (i := 2) nd rfl (by first | exact Or.inl rfl | exact Or.inr rfl) pe_non)
  (pss_cons (ps_if (PW.pt (pw_and (pt_cmpR (op_notN) (pe_ix ix_seq (pv 0) pe_int (fun _ _ => rfl)) pe_non (nomark _)) (pw_and1 (pt_cmpR (op_notN) (pe_ix ix_seq (pv 1) pe_int (fun _ _ => rfl)) pe_non (nomark _)))))
  (pss_one (ps_set (i := 2) nd rfl (by first | exact Or.inl rfl | exact Or.inr rfl) (pe_callB (call_maxD rfl (units65 hr)) (by rfl) m_max boot_max (pa_cons (pe_ix ix_seq (pv 0) pe_int (fun _ _ => rfl)) (pa_cons (pe_ix ix_seq (pv 1) pe_int (fun _ _ => rfl)) pa_nil)))))
  pss_nil)
  (pss_one (ps_ret (pe_tup (pa_cons (pe_callB (call_minD rfl (units65 hr)) (by rfl) m_min boot_min (pa_cons (pe_ix ix_seq (pv 0) pe_int (fun _ _ => rfl)) (pa_cons (pe_ix ix_seq (pv 1) pe_int (fun _ _ => rfl)) pa_nil))) (pa_cons (pv 2) pa_nil))))))),
  (rels_seq (rels_asg (rel_give rel_non) (relg_name (i := 2) (by decide)))
  (rels_seq (rels_if (rel_and (rel_test (rel_op rel_notn (rel_opB rel_ixB (rel_var (i := 0)) rel_int) rel_non)) (rel_test (rel_op rel_notn (rel_opB rel_ixB (rel_var (i := 1)) rel_int) rel_non)))
  (rels_asg (rel_give (rel_call2 rel_maxA (rel_opB rel_ixB (rel_var (i := 0)) rel_int) (rel_opB rel_ixB (rel_var (i := 1)) rel_int))) (relg_name (i := 2) (by decide)))
  rels_nil)
  (rels_ret (rel_tup (rel_cons (rel_call2 rel_minA (rel_opB rel_ixB (rel_var (i := 0)) rel_int) (rel_opB rel_ixB (rel_var (i := 1)) rel_int)) (rel_cons (RelE.chk (rel_var (i := 2))) rel_nil))))))⟩) g F.kp (F.bindsN fun _ _ _ _ _ _ us hl => match us, hl with | [_, _], _ => rfl)
abbrev st__law_due : Stmt := top 30
abbrev N__law_due : List Str := ["door", "ask", "paired", "key", "a", "b", "c", "least"]
abbrev sp__law_due (K : PySem.W.Frag) : Sp := spN K 2 [] Fn__law_due
theorem sc__law_due : FnScope N__law_due ["door", "ask"] (defScope st__law_due) := ⟨rfl, rfl, rfl, by decide +kernel, rfl, by decide +kernel, by decide +kernel⟩
theorem ok__law_due {f : Addr} {fd : FuncData} (F : FnP K "_law_due" st__law_due f fd) (g : mg "_law_due" = some (.ref f)) (o__law_a_next : OkD P w K mg base "_law_a_next" 1 ["key"] (sp__law_a_next K)) (o__law_a_has : OkD P w K mg base "_law_a_has" 1 ["interval", "key"] (sp__law_a_has K)) (o__law_a_common : OkD P w K mg base "_law_a_common" 1 ["a", "b"] (sp__law_a_common K)) (o__law_a_join : OkD P w K mg base "_law_a_join" 1 ["a", "b"] (sp__law_a_join K)) (o__law_a_left : OkD P w K mg base "_law_a_left" 1 ["a", "b"] (sp__law_a_left K)) (m_max : mg "max" = none) : OkD P w K mg base "_law_due" 2 ["door", "ask"] (sp__law_due K) := by
  have nd := sc__law_due.nd
  exact OkD.mk' (fnok F sc__law_due (by decide) (by decide) fun cdv A outer s H E hr => ⟨_,
  (pss_cons (ps_asg (pv 1) (pg_tup rfl (pgs_cons (pg_name (i := 2) nd rfl (by first | exact Or.inl rfl | exact Or.inr rfl)) (pgs_cons (pg_name (i := 3) nd rfl (by first | exact Or.inl rfl | exact Or.inr rfl)) (pgs_cons (pg_name (i := 4) nd rfl (by first | exact Or.inl rfl | exact Or.inr rfl)) (pgs_cons (pg_name (i := 5) nd rfl (by first | exact Or.inl rfl | exact Or.inr rfl)) (pgs_cons (pg_name (i := 6) nd rfl (by first | exact Or.inl rfl | exact Or.inr rfl)) pgs_nil)))))))
  (pss_cons (ps_set (i := 7) nd rfl (by first | exact Or.inl rfl | exact Or.inr rfl) (pe_ifExp (pt_truth (pv 2) (fun _ => rfl)) (pe_tup (pa_cons pe_str (pa_cons pe_str pa_nil))) pe_str))
  (pss_cons (ps_if (pt_cmpR (op_ltG (Room.units hr)) (pv 0) pe_int (nomark _))
  (pss_one (ps_ret (pe_ix ix_seq (pe_lst (pa_cons (pv 7) (pa_cons (pe_tup (pa_cons (pv 7) (pa_cons pe_non pa_nil))) pa_nil))) (pv 0) (fun _ _ => rfl))))
  pss_nil)
  (pss_cons (ps_if (pt_cmpR (op_eqP (Room.units hr)) (pv 0) pe_int (nomark _))
  (pss_one (ps_ret (pe_callD o__law_a_next hr (by omega) (by rfl) (pa_cons (pv 3) pa_nil))))
  pss_nil)
  (pss_cons (ps_if (pt_cmpR (op_eqP (Room.units hr)) (pv 0) pe_int (nomark _))
  (pss_one (ps_ret (pe_tup (pa_cons (pv 3) (pa_cons (pe_callD o__law_a_next hr (by omega) (by rfl) (pa_cons (pv 3) pa_nil)) pa_nil)))))
  pss_nil)
  (pss_cons (ps_if (pt_cmpR (op_eqP (Room.units hr)) (pv 0) pe_int (nomark _))
  (pss_one (ps_ret (pe_callD o__law_a_has hr (by omega) (by rfl) (pa_cons (pv 6) (pa_cons (pv 3) pa_nil)))))
  pss_nil)
  (pss_cons (ps_if (pt_cmpR (op_eqP (Room.units hr)) (pv 0) pe_int (nomark _))
  (pss_one (ps_ret (pe_and (pe_cmpR (op_notN) (pe_ix ix_seq (pv 6) pe_int (fun _ _ => rfl)) pe_non (nomark _)) (pe_one (pe_cmpR (op_leG (Room.units hr)) (pe_ix ix_seq (pv 6) pe_int (fun _ _ => rfl)) (pe_ix ix_seq (pv 6) pe_int (fun _ _ => rfl)) (nomark _))))))
  pss_nil)
  (pss_cons (ps_if (pt_cmpR (op_eqP (Room.units hr)) (pv 0) pe_int (nomark _))
  (pss_one (ps_ret (pe_or (pe_callD o__law_a_has hr (by omega) (by rfl) (pa_cons (pv 4) (pa_cons (pe_ix ix_seq (pv 5) pe_int (fun _ _ => rfl)) pa_nil))) (pe_one (pe_callD o__law_a_has hr (by omega) (by rfl) (pa_cons (pv 5) (pa_cons (pe_ix ix_seq (pv 4) pe_int (fun _ _ => rfl)) pa_nil)))))))
  pss_nil)
  (pss_cons (ps_if (pt_cmpR (op_eqP (Room.units hr)) (pv 0) pe_int (nomark _))
  (pss_one (ps_ret (pe_and (pe_callD o__law_a_has hr (by omega) (by rfl) (pa_cons (pv 4) (pa_cons (pe_ix ix_seq (pv 5) pe_int (fun _ _ => rfl)) pa_nil))) (pe_one (pe_or (pe_cmpR (op_isN) (pe_ix ix_seq (pv 4) pe_int (fun _ _ => rfl)) pe_non (nomark _)) (pe_one (pe_not (pe_callD o__law_a_has hr (by omega) (by rfl) (pa_cons (pv 5) (pa_cons (pe_callB (call_maxD rfl (units65 hr)) (by rfl) m_max boot_max (pa_cons (pe_ix ix_seq (pv 4) pe_int (fun _ _ => rfl)) (pa_cons (pe_ix ix_seq (pv 5) pe_int (fun _ _ => rfl)) pa_nil))) pa_nil))))))))))
  pss_nil)
  (pss_cons (ps_if (pt_cmpR (op_eqP (Room.units hr)) (pv 0) pe_int (nomark _))
  (pss_one (ps_ret (pe_callD o__law_a_common hr (by omega) (by rfl) (pa_cons (pv 4) (pa_cons (pv 5) pa_nil)))))
  pss_nil)
  (pss_cons (ps_if (pt_cmpR (op_eqP (Room.units hr)) (pv 0) pe_int (nomark _))
  (pss_one (ps_ret (pe_callD o__law_a_join hr (by omega) (by rfl) (pa_cons (pv 4) (pa_cons (pv 5) pa_nil)))))
  pss_nil)
  (pss_one (ps_ret (pe_callD o__law_a_left hr (by omega) (by rfl) (pa_cons (pv 4) (pa_cons (pv 5) pa_nil)))))))))))))))),
  (rels_seq (rels_asg (rel_give (RelE.chk (rel_var (i := 1)))) (relg_tup (relgs_cons (relg_name (i := 2) (by decide)) (relgs_cons (relg_name (i := 3) (by decide)) (relgs_cons (relg_name (i := 4) (by decide)) (relgs_cons (relg_name (i := 5) (by decide)) (relgs_cons (relg_name (i := 6) (by decide)) relgs_nil)))))))
  (rels_seq (rels_asg (rel_give (rel_if (rel_tru (rel_var (i := 2))) (rel_tup (rel_cons rel_str (rel_cons rel_str rel_nil))) rel_str)) (relg_name (i := 7) (by decide)))
  (rels_seq (rels_if (rel_test (rel_op rel_cmp (rel_var (i := 0)) rel_int))
  (rels_ret (RelE.chk (rel_opB rel_ixB (rel_lst (rel_cons (RelE.chk (rel_var (i := 7))) (rel_cons (rel_tup (rel_cons (RelE.chk (rel_var (i := 7))) (rel_cons rel_non rel_nil))) rel_nil))) (rel_var (i := 0)))))
  rels_nil)
  (rels_seq (rels_if (rel_test (rel_op rel_eqA (rel_var (i := 0)) rel_int))
  (rels_ret (rel_callN (ks := [none]) (relc_sh (RelE.chk (rel_var (i := 3))) relc_nil)))
  rels_nil)
  (rels_seq (rels_if (rel_test (rel_op rel_eqA (rel_var (i := 0)) rel_int))
  (rels_ret (rel_tup (rel_cons (RelE.chk (rel_var (i := 3))) (rel_cons (rel_callN (ks := [none]) (relc_sh (RelE.chk (rel_var (i := 3))) relc_nil)) rel_nil))))
  rels_nil)
  (rels_seq (rels_if (rel_test (rel_op rel_eqA (rel_var (i := 0)) rel_int))
  (rels_ret (rel_callN (ks := [none, none]) (relc_sh (RelE.chk (rel_var (i := 6))) (relc_sh (RelE.chk (rel_var (i := 3))) relc_nil))))
  rels_nil)
  (rels_seq (rels_if (rel_test (rel_op rel_eqA (rel_var (i := 0)) rel_int))
  (rels_ret (RelE.chk (rel_andv (rel_op rel_notn (rel_opB rel_ixB (rel_var (i := 6)) rel_int) rel_non) (rel_op rel_cmp (rel_opB rel_ixB (rel_var (i := 6)) rel_int) (rel_opB rel_ixB (rel_var (i := 6)) rel_int)))))
  rels_nil)
  (rels_seq (rels_if (rel_test (rel_op rel_eqA (rel_var (i := 0)) rel_int))
  (rels_ret (RelE.chk (rel_orv (rel_callN (ks := [none, none]) (relc_sh (RelE.chk (rel_var (i := 4))) (relc_sh (RelE.chk (rel_opB rel_ixB (rel_var (i := 5)) rel_int)) relc_nil))) (rel_callN (ks := [none, none]) (relc_sh (RelE.chk (rel_var (i := 5))) (relc_sh (RelE.chk (rel_opB rel_ixB (rel_var (i := 4)) rel_int)) relc_nil))))))
  rels_nil)
  (rels_seq (rels_if (rel_test (rel_op rel_eqA (rel_var (i := 0)) rel_int))
  (rels_ret (RelE.chk (rel_andv (rel_callN (ks := [none, none]) (relc_sh (RelE.chk (rel_var (i := 4))) (relc_sh (RelE.chk (rel_opB rel_ixB (rel_var (i := 5)) rel_int)) relc_nil))) (rel_orv (rel_op rel_isn (rel_opB rel_ixB (rel_var (i := 4)) rel_int) rel_non) (rel_notv (rel_callN (ks := [none, none]) (relc_sh (RelE.chk (rel_var (i := 5))) (relc_sh (rel_call2 rel_maxA (rel_opB rel_ixB (rel_var (i := 4)) rel_int) (rel_opB rel_ixB (rel_var (i := 5)) rel_int)) relc_nil))))))))
  rels_nil)
  (rels_seq (rels_if (rel_test (rel_op rel_eqA (rel_var (i := 0)) rel_int))
  (rels_ret (rel_callN (ks := [none, none]) (relc_sh (RelE.chk (rel_var (i := 4))) (relc_sh (RelE.chk (rel_var (i := 5))) relc_nil))))
  rels_nil)
  (rels_seq (rels_if (rel_test (rel_op rel_eqA (rel_var (i := 0)) rel_int))
  (rels_ret (rel_callN (ks := [none, none]) (relc_sh (RelE.chk (rel_var (i := 4))) (relc_sh (RelE.chk (rel_var (i := 5))) relc_nil))))
  rels_nil)
  (rels_ret (rel_callN (ks := [none, none]) (relc_sh (RelE.chk (rel_var (i := 4))) (relc_sh (RelE.chk (rel_var (i := 5))) relc_nil)))))))))))))))⟩) g F.kp (F.bindsN fun _ _ _ _ _ _ us hl => match us, hl with | [_, _], _ => rfl)
abbrev st_law : Stmt := top 35
abbrev N_law : List Str := ["script", "tape", "paired", "world", "first", "second", "turns", "ask", "door"]
abbrev sp_law (K : PySem.W.Frag) : Sp := spN K 1 [] Fn_law
theorem sc_law : FnScope N_law ["script"] (defScope st_law) := ⟨rfl, rfl, rfl, by decide +kernel, rfl, by decide +kernel, by decide +kernel⟩
theorem okf_law {f : Addr} {fd : FuncData} (F : FnP K "law" st_law f fd) (o__law_tape : OkD P w K mg base "_law_tape" 1 ["script"] (sp__law_tape K)) (o__law_draw : OkD P w K mg base "_law_draw" 1 ["tape", "many"] (sp__law_draw K)) (o__law_some_ask : OkD P w K mg base "_law_some_ask" 5 ["tape", "paired"] (sp__law_some_ask K)) (o__law_turns : OkD P w K mg base "_law_turns" 2 ["tape", "many"] (sp__law_turns K)) (o__law_same : OkD P w K mg base "_law_same" 4 ["told", "wanted"] (sp__law_same K 4)) (o__law_due : OkD P w K mg base "_law_due" 2 ["door", "ask"] (sp__law_due K)) (o__law_told : OkD P w K mg base "_law_told" 4 ["door", "ask"] (sp__law_told K)) (m_range : mg "range" = none) : FnOk P w K mg base CX0 6 f fd ["script"] (sp_law K) := by
  have nd := sc_law.nd
  exact fnok F sc_law (by decide) (by decide) fun cdv A outer s H E hr => ⟨_,
  (pss_cons (ps_set (i := 1) nd rfl (by first | exact Or.inl rfl | exact Or.inr rfl) (pe_callD o__law_tape hr (by omega) (by rfl) (pa_cons (pv 0) pa_nil)))
  (pss_cons (ps_set (i := 2) nd rfl (by first | exact Or.inl rfl | exact Or.inr rfl) (pe_cmpR (op_eqP (Room.units hr)) (pe_callD o__law_draw hr (by omega) (by rfl) (pa_cons (pv 1) (pa_cons pe_int pa_nil))) pe_int (nomark _)))
  (pss_cons (ps_for PassesOwn.never rfl (pi_range1 (by rfl) m_range (pa_cons pe_int pa_nil)) (pg_name (i := 3) nd rfl (by first | exact Or.inl rfl | exact Or.inr rfl))
  (pss_cons (ps_asg (pe_callD o__law_some_ask hr (by omega) (by rfl) (pa_cons (pv 1) (pa_cons (pv 2) pa_nil))) (pg_tup rfl (pgs_cons (pg_name (i := 4) nd rfl (by first | exact Or.inl rfl | exact Or.inr rfl)) (pgs_cons (pg_name (i := 5) nd rfl (by first | exact Or.inl rfl | exact Or.inr rfl)) pgs_nil))))
  (pss_cons (ps_set (i := 6) nd rfl (by first | exact Or.inl rfl | exact Or.inr rfl) (pe_callD o__law_turns hr (by omega) (by rfl) (pa_cons (pv 1) (pa_cons pe_int pa_nil))))
  (pss_cons (ps_for PassesOwn.never rfl (FwIt.pi_seq (pe_lst (pa_cons (pv 4) (pa_cons (pv 5) (pa_cons (pv 4) pa_nil))))) (pg_name (i := 7) nd rfl (by first | exact Or.inl rfl | exact Or.inr rfl))
  (pss_one (ps_for PassesOwn.never rfl (FwIt.pi_seq (pv 6)) (pg_name (i := 8) nd rfl (by first | exact Or.inl rfl | exact Or.inr rfl))
  (pss_one (ps_if (pt_not (pt_truth (pe_callD o__law_same hr (by omega) (by rfl) (pa_cons (pe_callD o__law_told hr (by omega) (by rfl) (pa_cons (pv 8) (pa_cons (pv 7) pa_nil))) (pa_cons (pe_callD o__law_due hr (by omega) (by rfl) (pa_cons (pv 8) (pa_cons (pv 7) pa_nil))) pa_nil))) (fun _ => rfl)))
  (pss_one (ps_ret pe_bl))
  pss_nil)))))
  (pss_one (ps_set (i := 2) nd rfl (by first | exact Or.inl rfl | exact Or.inr rfl) (pe_not (pv 2))))))))
  (pss_one (ps_ret pe_bl))))),
  (rels_seq (rels_asg (rel_callN (ks := [none]) (relc_sh (RelE.chk (rel_var (i := 0))) relc_nil)) (relg_name (i := 1) (by decide)))
  (rels_seq (rels_asg (rel_give (rel_op rel_eqA (rel_callN (ks := [some 1, none]) (relc_io (i := 1) (relc_sh rel_int relc_nil))) rel_int)) (relg_name (i := 2) (by decide)))
  (rels_seq (rels_for (rel_rng1 rel_int) (relg_name (i := 3) (by decide))
  (rels_seq (rels_asg (rel_give (rel_callN (ks := [some 1, none]) (relc_io (i := 1) (relc_sh (RelE.chk (rel_var (i := 2))) relc_nil)))) (relg_tup (relgs_cons (relg_name (i := 4) (by decide)) (relgs_cons (relg_name (i := 5) (by decide)) relgs_nil))))
  (rels_seq (rels_asg (rel_give (rel_callN (ks := [some 1, none]) (relc_io (i := 1) (relc_sh rel_int relc_nil)))) (relg_name (i := 6) (by decide)))
  (rels_seq (rels_for (rel_seqI (rel_lst (rel_cons (RelE.chk (rel_var (i := 4))) (rel_cons (RelE.chk (rel_var (i := 5))) (rel_cons (RelE.chk (rel_var (i := 4))) rel_nil))))) (relg_name (i := 7) (by decide))
  (rels_for (rel_seqI (RelE.chk (rel_var (i := 6)))) (relg_name (i := 8) (by decide))
  (rels_if (rel_not (rel_tru (rel_callN (ks := [none, none]) (relc_sh (rel_callN (ks := [none, none]) (relc_sh (RelE.chk (rel_var (i := 8))) (relc_sh (RelE.chk (rel_var (i := 7))) relc_nil))) (relc_sh (rel_callN (ks := [none, none]) (relc_sh (RelE.chk (rel_var (i := 8))) (relc_sh (RelE.chk (rel_var (i := 7))) relc_nil))) relc_nil)))))
  (rels_ret rel_bl)
  rels_nil)))
  (rels_asg (rel_give (rel_notv (rel_var (i := 2)))) (relg_name (i := 2) (by decide)))))))
  (rels_ret rel_bl))))⟩
end
end K00
end

section
set_option linter.all false
set_option maxRecDepth 100000
set_option maxHeartbeats 8000000
namespace K00
open PySem L2 Fw
local macro_rules | `(tactic| walk_at "sx") => `(tactic| simp -dsimp only [↓E_c, ↓E_var, ↓E_frz, ↓E_mov, ↓A_io, ↓E_chk, ↓E_give, ↓E_bin, ↓E_un, ↓E_tup, ↓E_lst, ↓A_nil, ↓A_cons, ↓A_arg, ↓E_if, ↓S_if, ↓T_and, ↓T_or, ↓T_test, ↓T_tru, ↓T_not, ↓T_yes, ↓E_andV, ↓E_orV, ↓E_notV, ↓E_mt, ↓E_sl, ↓O_no, ↓O_part, ↓S_skip, ↓S_break, ↓S_cont, ↓S_retN, ↓S_seq, ↓S_drop, ↓S_ret, ↓S_asg, ↓E_mut, ↓S_setS, ↓E_call, ↓I_seq, ↓I_enum, ↓I_rng1, ↓I_rng2, ↓E_lstRg, ↓opt_some, ↓br_t, ↓br_f, ↓br_d, ↓br_n, ↓gg_tup, ↓ggs_cons, ↓ggs_nil, ↓fr_i, ↓fr_s, ↓fr_b, ↓fr_n, ↓at_0, ↓at_1, ↓at_2, ↓at_3, ↓at_4, ↓at_5, ↓at_6, ↓at_7, ↓at_8, ↓at_9, ↓at_10, ↓at_11, ↓at_12, ↓at_13, ↓at_14, ↓at_15, ↓at_16, ↓at_17, ↓at_18, ↓at_19, ↓at_20, ↓at_21, ↓tak_0, ↓tak_1, ↓tak_2, ↓tak_3, ↓tak_4, ↓tak_5, ↓tak_6, ↓tak_7, ↓tak_8, ↓tak_9, ↓tak_10, ↓tak_11, ↓tak_12, ↓tak_13, ↓tak_14, ↓tak_15, ↓tak_16, ↓tak_17, ↓tak_18, ↓tak_19, ↓tak_20, ↓tak_21, ↓put_0, ↓put_1, ↓put_2, ↓put_3, ↓put_4, ↓put_5, ↓put_6, ↓put_7, ↓put_8, ↓put_9, ↓put_10, ↓put_11, ↓put_12, ↓put_13, ↓put_14, ↓put_15, ↓put_16, ↓put_17, ↓put_18, ↓put_19, ↓put_20, ↓put_21, ↓own_0, ↓own_1, ↓own_2, ↓own_3, ↓own_4, ↓own_5, ↓own_6, ↓own_7, ↓own_8, ↓own_9, ↓own_10, ↓own_11, ↓own_12, ↓own_13, ↓own_14, ↓own_15, ↓own_16, ↓own_17, ↓own_18, ↓own_19, ↓own_20, ↓own_21, ↓isl_0, ↓isl_1, ↓isl_2, ↓isl_3, ↓isl_4, ↓isl_5, ↓isl_6, ↓isl_7, ↓isl_8, ↓isl_9, ↓isl_10, ↓isl_11, ↓isl_12, ↓isl_13, ↓isl_14, ↓isl_15, ↓isl_16, ↓isl_17, ↓isl_18, ↓isl_19, ↓isl_20, ↓isl_21, ↓gg_0, ↓gg_1, ↓gg_2, ↓gg_3, ↓gg_4, ↓gg_5, ↓gg_6, ↓gg_7, ↓gg_8, ↓gg_9, ↓gg_10, ↓gg_11, ↓gg_12, ↓gg_13, ↓gg_14, ↓gg_15, ↓gg_16, ↓gg_17, ↓gg_18, ↓gg_19, ↓gg_20, ↓gg_21, ↓po_0, ↓po_1, ↓po_2, ↓po_3, ↓po_4, ↓po_5, ↓po_6, ↓po_7, ↓po_8, ↓po_9, ↓po_10, ↓po_11, ↓po_12, ↓po_13, ↓po_14, ↓po_15, ↓po_16, ↓po_17, ↓po_18, ↓po_19, ↓po_20, ↓po_21, ↓and2_true, ↓O_0, ↓O_1, ↓wip_nil, ↓wip_cons, ↓X_fn, ↓mk_cons, ↓mk_nil, ↓mk_0, ↓cp_0, ↓cp_1, ↓cp_2, ↓cp_3, ↓cp_4, ↓cp_5, ↓cp_6, ↓cp_7, ↓cp_8, ↓cp_9, ↓cq_0, ↓cq_1, ↓cq_2, ↓cq_3, ↓cq_4, ↓cq_5, ↓cq_6, ↓cq_7, ↓cq_8, ↓cq_9, and2_t, v_ixN, fr_of, fr_l2, z_int, z_str, z_bl, z_non, z_tup, z_lst, z_nil, z_cons, v_add, v_sub, v_mulr, v_mull, v_div, v_neg, v_int, v_intb, v_abs, v_isB, v_isI, v_truB, v_isn, v_notn, v_len_t, v_len_l, v_len_s, v_max, v_min, v_app, v_tup_n, v_lst_n, fr_l0, v_tup_t, v_tup_l, v_lst_t, v_lst_l, v_sl_t, v_sl_l, v_sl_s, v_cat_s, v_cat_t, v_cat_l, v_it_t, v_it_l, v_sq_t, v_sq_l, v_okl, v_oks, v_ss, v_big, v_big2, v_if_t, v_if_f, v_eq_iS, v_ne_iS, v_eq_sS, v_eq_ii, v_ne_ii, v_eq_ss, v_ne_ss, v_eq_bb, v_ne_bb, v_in_l, v_in_t, okP_int, okP_str, okP_bl, okP_non, n_int, n_str, n_bl, n_non, n_nil, n_cons, q_ss, q_ii, List.any_cons, List.any_nil, beq_self_eq_true, beq_true, beq_false, Bool.true_beq, Bool.false_beq, Bool.or_false, Bool.or_true, Bool.false_or, Bool.true_or, lt_ii, gt_ii, le_ii, ge_ii, mod_ii, in_non, in_bl, in_int, in_str, in_tup, in_lst, v_i_tuple_non, v_i_tuple_bl, v_i_tuple_int, v_i_tuple_str, v_i_tuple_tup, v_i_tuple_lst, v_i_list_non, v_i_list_bl, v_i_list_int, v_i_list_str, v_i_list_tup, v_i_list_lst, v_i_str_non, v_i_str_bl, v_i_str_int, v_i_str_str, v_i_str_tup, v_i_str_lst, v_i_int_non, v_i_int_bl, v_i_int_int, v_i_int_str, v_i_int_tup, v_i_int_lst, v_i_bool_non, v_i_bool_bl, v_i_bool_int, v_i_bool_str, v_i_bool_tup, v_i_bool_lst, v_ixt_0, v_ixl_0, v_set_0, v_ixN_0, v_ixt_1, v_ixl_1, v_set_1, v_ixN_1, v_ixt_2, v_ixl_2, v_set_2, v_ixN_2, v_ixt_3, v_ixl_3, v_set_3, v_ixN_3, v_ixt_4, v_ixl_4, v_set_4, v_ixN_4, v_ixt_5, v_ixl_5, v_set_5, v_ixN_5, v_ixt_6, v_ixl_6, v_set_6, v_ixN_6, v_ixt_7, v_ixl_7, v_set_7, v_ixN_7, v_ixt_8, v_ixl_8, v_set_8, v_ixN_8, v_ixt_9, v_ixl_9, v_set_9, v_ixN_9, v_ixt_10, v_ixl_10, v_set_10, v_ixN_10, v_ixt_11, v_ixl_11, v_set_11, v_ixN_11, v_ixt_12, v_ixl_12, v_set_12, v_ixN_12, Bool.and_self, Bool.and_true, Bool.true_and, Bool.not_true, Bool.not_false, true_and, and_true, decide_true, decide_false, List.length_cons, List.length_nil, Nat.reduceAdd, Nat.reduceLeDiff, Int.reduceLT, Int.reduceLE, Int.reduceNeg, Int.reduceEq, Int.reduceAdd, Int.reduceSub, ofStr_inj, String.reduceEq, eq_self, ne_eq, not_true_eq_false, not_false_eq_true, forall_const, true_implies, false_implies, imp_self, implies_true, Int.reduceToNat, Nat.reduceLT, List.length_map, reduceIte, Bool.false_eq_true, Bool.true_eq_false])
local macro_rules | `(tactic| walk_at "sy") => `(tactic| simp -dsimp only [↓E_c, ↓E_var, ↓E_frz, ↓E_mov, ↓A_io, ↓E_chk, ↓E_give, ↓E_bin, ↓E_un, ↓E_tup, ↓E_lst, ↓A_nil, ↓A_cons, ↓A_arg, ↓E_if, ↓S_if, ↓T_and, ↓T_or, ↓T_test, ↓T_tru, ↓T_not, ↓T_yes, ↓E_andV, ↓E_orV, ↓E_notV, ↓E_mt, ↓E_sl, ↓O_no, ↓O_part, ↓S_skip, ↓S_break, ↓S_cont, ↓S_retN, ↓S_seq, ↓S_drop, ↓S_ret, ↓S_asg, ↓E_mut, ↓S_setS, ↓E_call, ↓I_seq, ↓I_enum, ↓I_rng1, ↓I_rng2, ↓E_lstRg, ↓opt_some, ↓br_t, ↓br_f, ↓br_d, ↓br_n, ↓gg_tup, ↓ggs_cons, ↓ggs_nil, ↓fr_i, ↓fr_s, ↓fr_b, ↓fr_n, ↓at_0, ↓at_1, ↓at_2, ↓at_3, ↓at_4, ↓at_5, ↓at_6, ↓at_7, ↓at_8, ↓at_9, ↓at_10, ↓at_11, ↓at_12, ↓at_13, ↓at_14, ↓at_15, ↓at_16, ↓at_17, ↓at_18, ↓at_19, ↓at_20, ↓at_21, ↓tak_0, ↓tak_1, ↓tak_2, ↓tak_3, ↓tak_4, ↓tak_5, ↓tak_6, ↓tak_7, ↓tak_8, ↓tak_9, ↓tak_10, ↓tak_11, ↓tak_12, ↓tak_13, ↓tak_14, ↓tak_15, ↓tak_16, ↓tak_17, ↓tak_18, ↓tak_19, ↓tak_20, ↓tak_21, ↓put_0, ↓put_1, ↓put_2, ↓put_3, ↓put_4, ↓put_5, ↓put_6, ↓put_7, ↓put_8, ↓put_9, ↓put_10, ↓put_11, ↓put_12, ↓put_13, ↓put_14, ↓put_15, ↓put_16, ↓put_17, ↓put_18, ↓put_19, ↓put_20, ↓put_21, ↓own_0, ↓own_1, ↓own_2, ↓own_3, ↓own_4, ↓own_5, ↓own_6, ↓own_7, ↓own_8, ↓own_9, ↓own_10, ↓own_11, ↓own_12, ↓own_13, ↓own_14, ↓own_15, ↓own_16, ↓own_17, ↓own_18, ↓own_19, ↓own_20, ↓own_21, ↓isl_0, ↓isl_1, ↓isl_2, ↓isl_3, ↓isl_4, ↓isl_5, ↓isl_6, ↓isl_7, ↓isl_8, ↓isl_9, ↓isl_10, ↓isl_11, ↓isl_12, ↓isl_13, ↓isl_14, ↓isl_15, ↓isl_16, ↓isl_17, ↓isl_18, ↓isl_19, ↓isl_20, ↓isl_21, ↓gg_0, ↓gg_1, ↓gg_2, ↓gg_3, ↓gg_4, ↓gg_5, ↓gg_6, ↓gg_7, ↓gg_8, ↓gg_9, ↓gg_10, ↓gg_11, ↓gg_12, ↓gg_13, ↓gg_14, ↓gg_15, ↓gg_16, ↓gg_17, ↓gg_18, ↓gg_19, ↓gg_20, ↓gg_21, ↓po_0, ↓po_1, ↓po_2, ↓po_3, ↓po_4, ↓po_5, ↓po_6, ↓po_7, ↓po_8, ↓po_9, ↓po_10, ↓po_11, ↓po_12, ↓po_13, ↓po_14, ↓po_15, ↓po_16, ↓po_17, ↓po_18, ↓po_19, ↓po_20, ↓po_21, ↓and2_true, ↓O_0, ↓O_1, ↓wip_nil, ↓wip_cons, ↓X_fn, ↓mk_cons, ↓mk_nil, ↓mk_0, ↓cp_0, ↓cp_1, ↓cp_2, ↓cp_3, ↓cp_4, ↓cp_5, ↓cp_6, ↓cp_7, ↓cp_8, ↓cp_9, ↓cq_0, ↓cq_1, ↓cq_2, ↓cq_3, ↓cq_4, ↓cq_5, ↓cq_6, ↓cq_7, ↓cq_8, ↓cq_9, and2_t, v_ixN, fr_of, fr_l2, z_int, z_str, z_bl, z_non, z_tup, z_lst, z_nil, z_cons, v_add, v_sub, v_mulr, v_mull, v_div, v_neg, v_int, v_intb, v_abs, v_isB, v_isI, v_truB, v_isn, v_notn, v_len_t, v_len_l, v_len_s, v_max, v_min, v_app, v_tup_n, v_lst_n, fr_l0, v_tup_t, v_tup_l, v_lst_t, v_lst_l, v_sl_t, v_sl_l, v_sl_s, v_cat_s, v_cat_t, v_cat_l, v_it_t, v_it_l, v_sq_t, v_sq_l, v_okl, v_oks, v_ss, v_big, v_big2, v_if_t, v_if_f, v_eq_iS, v_ne_iS, v_eq_sS, v_eq_ii, v_ne_ii, v_eq_ss, v_ne_ss, v_eq_bb, v_ne_bb, v_in_l, v_in_t, okP_int, okP_str, okP_bl, okP_non, n_int, n_str, n_bl, n_non, n_nil, n_cons, q_ss, q_ii, List.any_cons, List.any_nil, beq_self_eq_true, beq_true, beq_false, Bool.true_beq, Bool.false_beq, Bool.or_false, Bool.or_true, Bool.false_or, Bool.true_or, lt_ii, gt_ii, le_ii, ge_ii, mod_ii, in_non, in_bl, in_int, in_str, in_tup, in_lst, v_i_tuple_non, v_i_tuple_bl, v_i_tuple_int, v_i_tuple_str, v_i_tuple_tup, v_i_tuple_lst, v_i_list_non, v_i_list_bl, v_i_list_int, v_i_list_str, v_i_list_tup, v_i_list_lst, v_i_str_non, v_i_str_bl, v_i_str_int, v_i_str_str, v_i_str_tup, v_i_str_lst, v_i_int_non, v_i_int_bl, v_i_int_int, v_i_int_str, v_i_int_tup, v_i_int_lst, v_i_bool_non, v_i_bool_bl, v_i_bool_int, v_i_bool_str, v_i_bool_tup, v_i_bool_lst, v_ixt_0, v_ixl_0, v_set_0, v_ixN_0, v_ixt_1, v_ixl_1, v_set_1, v_ixN_1, v_ixt_2, v_ixl_2, v_set_2, v_ixN_2, v_ixt_3, v_ixl_3, v_set_3, v_ixN_3, v_ixt_4, v_ixl_4, v_set_4, v_ixN_4, v_ixt_5, v_ixl_5, v_set_5, v_ixN_5, v_ixt_6, v_ixl_6, v_set_6, v_ixN_6, v_ixt_7, v_ixl_7, v_set_7, v_ixN_7, v_ixt_8, v_ixl_8, v_set_8, v_ixN_8, v_ixt_9, v_ixl_9, v_set_9, v_ixN_9, v_ixt_10, v_ixl_10, v_set_10, v_ixN_10, v_ixt_11, v_ixl_11, v_set_11, v_ixN_11, v_ixt_12, v_ixl_12, v_set_12, v_ixN_12, Bool.and_self, Bool.and_true, Bool.true_and, Bool.not_true, Bool.not_false, true_and, and_true, decide_true, decide_false, List.length_cons, List.length_nil, Nat.reduceAdd, Nat.reduceLeDiff, Int.reduceLT, Int.reduceLE, Int.reduceNeg, Int.reduceEq, Int.reduceAdd, Int.reduceSub, ofStr_inj, String.reduceEq, eq_self, ne_eq, not_true_eq_false, not_false_eq_true, forall_const, true_implies, false_implies, imp_self, implies_true, Int.reduceToNat, Nat.reduceLT, List.length_map, reduceIte, Bool.false_eq_true, Bool.true_eq_false, *])
local macro_rules | `(tactic| walk_at "fn") => `(tactic| ((with_reducible apply F_env); (· repeat constructor)))
/-- a tape as it may stand -/
def Tp (t : D) : Prop := ∃ (ns : List Int) (a b c : Int), t = .lst true [.lst true (ns.map .int), .int a, .int b, .int c] ∧ 0 ≤ a
theorem tp_mk {ns : List Int} {a b c : Int} (h : 0 ≤ a) : Tp (.lst true [.lst true (ns.map .int), .int a, .int b, .int c]) := ⟨ns, a, b, c, rfl, h⟩
theorem draw_ok {t : D} {m : Int} {P : D → List D → Prop} {as : List D} (e0 : as = [t, .int m]) (h : Tp t) (hm : m < 1000000000) (k : ∀ (i : Int) (t' : D), Tp t' → 0 ≤ i → (i < m ∨ i = 0) → P (.int i) [t']) : OkF Fn__law_draw as P := by
  subst e0
  obtain ⟨ns, a, b, c, rfl, ha⟩ := h
  have h1 : 0 < max m 2 := by omega
  have h2 : max m 2 ≤ 1000000000 := by omega
  have h3 : 0 < max m 1 := by omega
  have p1 := v_p1018
  unfold Fn__law_draw B__law_draw
  walk_at "fn"
  walk_at "sy"
  refine ⟨fun e => ⟨fun c => ?_, fun c => ⟨fun _ => ?_, fun _ => ?_⟩⟩, fun e => ?_⟩
  · have q : (ns.map D.int)[a.toNat]? = some (.int (ns[a.toNat]'(by omega))) := by
      rw [List.getElem?_map, List.getElem?_eq_getElem (show a.toNat < ns.length by omega)]
      rfl
    have p2 : ixD (.lst true (ns.map D.int)) (.int a) = some (.int (ns[a.toNat]'(by omega))) := ix_l ha q
    walk_at "sy"
    exact ⟨fun _ => k _ _ (tp_mk (by omega)) mod_nn mod_lt, fun _ => k _ _ (tp_mk (by omega)) mod_nn mod_lt⟩
  all_goals exact k _ _ (tp_mk (by omega)) mod_nn mod_lt
theorem tape_ok {ns : List Int} {P : D → List D → Prop} {as : List D} (e0 : as = [.lst false (ns.map .int)]) (k : ∀ t, Tp t → P t []) : OkF Fn__law_tape as P := by
  subst e0
  have hf : frzs (ns.map D.int) = true := frzs_all fun d hd => by
    obtain ⟨i, _, rfl⟩ := List.mem_map.mp hd
    rfl
  unfold Fn__law_tape B__law_tape
  walk_at "fn"
  walk_at "sy"
  refine S_for2 ?_
  walk_at "sy"
  refine lpS (fun ds e => (∀ d ∈ ds, ∃ i : Int, d = .int i) ∧ ∃ m c, e = [some (.lst false (ns.map .int)), some (.int m), c]) ⟨fun d hd => ?_, 7, none, rfl⟩ (fun d rest e h => ?_) (fun e h => ?_)
  · obtain ⟨i, _, rfl⟩ := List.mem_map.mp hd
    exact ⟨i, rfl⟩
  · obtain ⟨h1, m, c, rfl⟩ := h
    obtain ⟨i, rfl⟩ := h1 d List.mem_cons_self
    walk_at "sx"
    exact ⟨fun d hd => h1 d (List.mem_cons_of_mem _ hd), _, _, rfl⟩
  · obtain ⟨_, m, c, rfl⟩ := h
    walk_at "sy"
    exact k _ (tp_mk (Int.le_refl 0))
theorem pick_ok {t : D} {xs : List D} {P : D → List D → Prop} {as : List D} (e0 : as = [t, .lst false xs]) (h : Tp t) (hn : xs ≠ []) (hl : xs.length < 1000000) (hf : frzs xs = true) (k : ∀ x t', x ∈ xs → Tp t' → P x [t']) : OkF Fn__law_pick as P := by
  subst e0
  unfold Fn__law_pick B__law_pick
  walk_at "fn"
  walk_at "sy"
  refine X_F (draw_ok rfl h (by omega) fun i t' h1 h2 h3 => ?_)
  have hp : 0 < xs.length := List.length_pos_iff.mpr hn
  have hi : i.toNat < xs.length := by omega
  have p1 : ixD (.lst false xs) (.int i) = some xs[i.toNat] := ix_l h2 (List.getElem?_eq_getElem hi)
  have z1 := frzs_mem hf _ (List.getElem_mem hi)
  walk_at "sy"
  exact k _ _ (List.getElem_mem hi) h1
def allI : List D → Prop
  | [] => True
  | .int _ :: r => allI r
  | _ => False
theorem allI_mem : ∀ {xs : List D}, allI xs → ∀ x ∈ xs, ∃ i : Int, x = .int i
  | [], _, x, h => by cases h
  | .int i :: r, h, x, hx => by
    rcases List.mem_cons.mp hx with e | e
    · exact ⟨i, e⟩
    · exact allI_mem (xs := r) h x e
  | .non :: _, h, _, _ => h.elim
  | .bl _ :: _, h, _, _ => h.elim
  | .str _ :: _, h, _, _ => h.elim
  | .tup _ :: _, h, _, _ => h.elim
  | .lst _ _ :: _, h, _, _ => h.elim
  | .dic _ _ _ :: _, h, _, _ => h.elim
theorem pickI_ok {t : D} {xs : List D} {P : D → List D → Prop} {as : List D} (e0 : as = [t, .lst false xs]) (h : Tp t) (hn : xs ≠ []) (hl : xs.length < 1000000) (hi : allI xs) (k : ∀ (i : Int) t', D.int i ∈ xs → Tp t' → P (.int i) [t']) : OkF Fn__law_pick as P :=
  pick_ok e0 h hn hl (frzs_all fun d hd => by obtain ⟨i, rfl⟩ := allI_mem hi d hd; rfl) fun x t' hx ht => by
    obtain ⟨i, rfl⟩ := allI_mem hi x hx
    exact k i t' hx ht
end K00
end

section
set_option linter.all false
set_option maxRecDepth 100000
set_option maxHeartbeats 8000000
namespace K00
open PySem L2 Fw
local macro_rules | `(tactic| walk_at "sx") => `(tactic| simp -dsimp only [↓E_c, ↓E_var, ↓E_frz, ↓E_mov, ↓A_io, ↓E_chk, ↓E_give, ↓E_bin, ↓E_un, ↓E_tup, ↓E_lst, ↓A_nil, ↓A_cons, ↓A_arg, ↓E_if, ↓S_if, ↓T_and, ↓T_or, ↓T_test, ↓T_tru, ↓T_not, ↓T_yes, ↓E_andV, ↓E_orV, ↓E_notV, ↓E_mt, ↓E_sl, ↓O_no, ↓O_part, ↓S_skip, ↓S_break, ↓S_cont, ↓S_retN, ↓S_seq, ↓S_drop, ↓S_ret, ↓S_asg, ↓E_mut, ↓S_setS, ↓E_call, ↓I_seq, ↓I_enum, ↓I_rng1, ↓I_rng2, ↓E_lstRg, ↓opt_some, ↓br_t, ↓br_f, ↓br_d, ↓br_n, ↓gg_tup, ↓ggs_cons, ↓ggs_nil, ↓fr_i, ↓fr_s, ↓fr_b, ↓fr_n, ↓at_0, ↓at_1, ↓at_2, ↓at_3, ↓at_4, ↓at_5, ↓at_6, ↓at_7, ↓at_8, ↓at_9, ↓at_10, ↓at_11, ↓at_12, ↓at_13, ↓at_14, ↓at_15, ↓at_16, ↓at_17, ↓at_18, ↓at_19, ↓at_20, ↓at_21, ↓tak_0, ↓tak_1, ↓tak_2, ↓tak_3, ↓tak_4, ↓tak_5, ↓tak_6, ↓tak_7, ↓tak_8, ↓tak_9, ↓tak_10, ↓tak_11, ↓tak_12, ↓tak_13, ↓tak_14, ↓tak_15, ↓tak_16, ↓tak_17, ↓tak_18, ↓tak_19, ↓tak_20, ↓tak_21, ↓put_0, ↓put_1, ↓put_2, ↓put_3, ↓put_4, ↓put_5, ↓put_6, ↓put_7, ↓put_8, ↓put_9, ↓put_10, ↓put_11, ↓put_12, ↓put_13, ↓put_14, ↓put_15, ↓put_16, ↓put_17, ↓put_18, ↓put_19, ↓put_20, ↓put_21, ↓own_0, ↓own_1, ↓own_2, ↓own_3, ↓own_4, ↓own_5, ↓own_6, ↓own_7, ↓own_8, ↓own_9, ↓own_10, ↓own_11, ↓own_12, ↓own_13, ↓own_14, ↓own_15, ↓own_16, ↓own_17, ↓own_18, ↓own_19, ↓own_20, ↓own_21, ↓isl_0, ↓isl_1, ↓isl_2, ↓isl_3, ↓isl_4, ↓isl_5, ↓isl_6, ↓isl_7, ↓isl_8, ↓isl_9, ↓isl_10, ↓isl_11, ↓isl_12, ↓isl_13, ↓isl_14, ↓isl_15, ↓isl_16, ↓isl_17, ↓isl_18, ↓isl_19, ↓isl_20, ↓isl_21, ↓gg_0, ↓gg_1, ↓gg_2, ↓gg_3, ↓gg_4, ↓gg_5, ↓gg_6, ↓gg_7, ↓gg_8, ↓gg_9, ↓gg_10, ↓gg_11, ↓gg_12, ↓gg_13, ↓gg_14, ↓gg_15, ↓gg_16, ↓gg_17, ↓gg_18, ↓gg_19, ↓gg_20, ↓gg_21, ↓po_0, ↓po_1, ↓po_2, ↓po_3, ↓po_4, ↓po_5, ↓po_6, ↓po_7, ↓po_8, ↓po_9, ↓po_10, ↓po_11, ↓po_12, ↓po_13, ↓po_14, ↓po_15, ↓po_16, ↓po_17, ↓po_18, ↓po_19, ↓po_20, ↓po_21, ↓and2_true, ↓O_0, ↓O_1, ↓wip_nil, ↓wip_cons, ↓X_fn, ↓mk_cons, ↓mk_nil, ↓mk_0, ↓cp_0, ↓cp_1, ↓cp_2, ↓cp_3, ↓cp_4, ↓cp_5, ↓cp_6, ↓cp_7, ↓cp_8, ↓cp_9, ↓cq_0, ↓cq_1, ↓cq_2, ↓cq_3, ↓cq_4, ↓cq_5, ↓cq_6, ↓cq_7, ↓cq_8, ↓cq_9, and2_t, v_ixN, fr_of, fr_l2, z_int, z_str, z_bl, z_non, z_tup, z_lst, z_nil, z_cons, v_add, v_sub, v_mulr, v_mull, v_div, v_neg, v_int, v_intb, v_abs, v_isB, v_isI, v_truB, v_isn, v_notn, v_len_t, v_len_l, v_len_s, v_max, v_min, v_app, v_tup_n, v_lst_n, fr_l0, v_tup_t, v_tup_l, v_lst_t, v_lst_l, v_sl_t, v_sl_l, v_sl_s, v_cat_s, v_cat_t, v_cat_l, v_it_t, v_it_l, v_sq_t, v_sq_l, v_okl, v_oks, v_ss, v_big, v_big2, v_if_t, v_if_f, v_eq_iS, v_ne_iS, v_eq_sS, v_eq_ii, v_ne_ii, v_eq_ss, v_ne_ss, v_eq_bb, v_ne_bb, v_in_l, v_in_t, okP_int, okP_str, okP_bl, okP_non, n_int, n_str, n_bl, n_non, n_nil, n_cons, q_ss, q_ii, List.any_cons, List.any_nil, beq_self_eq_true, beq_true, beq_false, Bool.true_beq, Bool.false_beq, Bool.or_false, Bool.or_true, Bool.false_or, Bool.true_or, lt_ii, gt_ii, le_ii, ge_ii, mod_ii, in_non, in_bl, in_int, in_str, in_tup, in_lst, v_i_tuple_non, v_i_tuple_bl, v_i_tuple_int, v_i_tuple_str, v_i_tuple_tup, v_i_tuple_lst, v_i_list_non, v_i_list_bl, v_i_list_int, v_i_list_str, v_i_list_tup, v_i_list_lst, v_i_str_non, v_i_str_bl, v_i_str_int, v_i_str_str, v_i_str_tup, v_i_str_lst, v_i_int_non, v_i_int_bl, v_i_int_int, v_i_int_str, v_i_int_tup, v_i_int_lst, v_i_bool_non, v_i_bool_bl, v_i_bool_int, v_i_bool_str, v_i_bool_tup, v_i_bool_lst, v_ixt_0, v_ixl_0, v_set_0, v_ixN_0, v_ixt_1, v_ixl_1, v_set_1, v_ixN_1, v_ixt_2, v_ixl_2, v_set_2, v_ixN_2, v_ixt_3, v_ixl_3, v_set_3, v_ixN_3, v_ixt_4, v_ixl_4, v_set_4, v_ixN_4, v_ixt_5, v_ixl_5, v_set_5, v_ixN_5, v_ixt_6, v_ixl_6, v_set_6, v_ixN_6, v_ixt_7, v_ixl_7, v_set_7, v_ixN_7, v_ixt_8, v_ixl_8, v_set_8, v_ixN_8, v_ixt_9, v_ixl_9, v_set_9, v_ixN_9, v_ixt_10, v_ixl_10, v_set_10, v_ixN_10, v_ixt_11, v_ixl_11, v_set_11, v_ixN_11, v_ixt_12, v_ixl_12, v_set_12, v_ixN_12, Bool.and_self, Bool.and_true, Bool.true_and, Bool.not_true, Bool.not_false, true_and, and_true, decide_true, decide_false, List.length_cons, List.length_nil, Nat.reduceAdd, Nat.reduceLeDiff, Int.reduceLT, Int.reduceLE, Int.reduceNeg, Int.reduceEq, Int.reduceAdd, Int.reduceSub, ofStr_inj, String.reduceEq, eq_self, ne_eq, not_true_eq_false, not_false_eq_true, forall_const, true_implies, false_implies, imp_self, implies_true, Int.reduceToNat, Nat.reduceLT, List.length_map, reduceIte, Bool.false_eq_true, Bool.true_eq_false])
local macro_rules | `(tactic| walk_at "sy") => `(tactic| simp -dsimp only [↓E_c, ↓E_var, ↓E_frz, ↓E_mov, ↓A_io, ↓E_chk, ↓E_give, ↓E_bin, ↓E_un, ↓E_tup, ↓E_lst, ↓A_nil, ↓A_cons, ↓A_arg, ↓E_if, ↓S_if, ↓T_and, ↓T_or, ↓T_test, ↓T_tru, ↓T_not, ↓T_yes, ↓E_andV, ↓E_orV, ↓E_notV, ↓E_mt, ↓E_sl, ↓O_no, ↓O_part, ↓S_skip, ↓S_break, ↓S_cont, ↓S_retN, ↓S_seq, ↓S_drop, ↓S_ret, ↓S_asg, ↓E_mut, ↓S_setS, ↓E_call, ↓I_seq, ↓I_enum, ↓I_rng1, ↓I_rng2, ↓E_lstRg, ↓opt_some, ↓br_t, ↓br_f, ↓br_d, ↓br_n, ↓gg_tup, ↓ggs_cons, ↓ggs_nil, ↓fr_i, ↓fr_s, ↓fr_b, ↓fr_n, ↓at_0, ↓at_1, ↓at_2, ↓at_3, ↓at_4, ↓at_5, ↓at_6, ↓at_7, ↓at_8, ↓at_9, ↓at_10, ↓at_11, ↓at_12, ↓at_13, ↓at_14, ↓at_15, ↓at_16, ↓at_17, ↓at_18, ↓at_19, ↓at_20, ↓at_21, ↓tak_0, ↓tak_1, ↓tak_2, ↓tak_3, ↓tak_4, ↓tak_5, ↓tak_6, ↓tak_7, ↓tak_8, ↓tak_9, ↓tak_10, ↓tak_11, ↓tak_12, ↓tak_13, ↓tak_14, ↓tak_15, ↓tak_16, ↓tak_17, ↓tak_18, ↓tak_19, ↓tak_20, ↓tak_21, ↓put_0, ↓put_1, ↓put_2, ↓put_3, ↓put_4, ↓put_5, ↓put_6, ↓put_7, ↓put_8, ↓put_9, ↓put_10, ↓put_11, ↓put_12, ↓put_13, ↓put_14, ↓put_15, ↓put_16, ↓put_17, ↓put_18, ↓put_19, ↓put_20, ↓put_21, ↓own_0, ↓own_1, ↓own_2, ↓own_3, ↓own_4, ↓own_5, ↓own_6, ↓own_7, ↓own_8, ↓own_9, ↓own_10, ↓own_11, ↓own_12, ↓own_13, ↓own_14, ↓own_15, ↓own_16, ↓own_17, ↓own_18, ↓own_19, ↓own_20, ↓own_21, ↓isl_0, ↓isl_1, ↓isl_2, ↓isl_3, ↓isl_4, ↓isl_5, ↓isl_6, ↓isl_7, ↓isl_8, ↓isl_9, ↓isl_10, ↓isl_11, ↓isl_12, ↓isl_13, ↓isl_14, ↓isl_15, ↓isl_16, ↓isl_17, ↓isl_18, ↓isl_19, ↓isl_20, ↓isl_21, ↓gg_0, ↓gg_1, ↓gg_2, ↓gg_3, ↓gg_4, ↓gg_5, ↓gg_6, ↓gg_7, ↓gg_8, ↓gg_9, ↓gg_10, ↓gg_11, ↓gg_12, ↓gg_13, ↓gg_14, ↓gg_15, ↓gg_16, ↓gg_17, ↓gg_18, ↓gg_19, ↓gg_20, ↓gg_21, ↓po_0, ↓po_1, ↓po_2, ↓po_3, ↓po_4, ↓po_5, ↓po_6, ↓po_7, ↓po_8, ↓po_9, ↓po_10, ↓po_11, ↓po_12, ↓po_13, ↓po_14, ↓po_15, ↓po_16, ↓po_17, ↓po_18, ↓po_19, ↓po_20, ↓po_21, ↓and2_true, ↓O_0, ↓O_1, ↓wip_nil, ↓wip_cons, ↓X_fn, ↓mk_cons, ↓mk_nil, ↓mk_0, ↓cp_0, ↓cp_1, ↓cp_2, ↓cp_3, ↓cp_4, ↓cp_5, ↓cp_6, ↓cp_7, ↓cp_8, ↓cp_9, ↓cq_0, ↓cq_1, ↓cq_2, ↓cq_3, ↓cq_4, ↓cq_5, ↓cq_6, ↓cq_7, ↓cq_8, ↓cq_9, and2_t, v_ixN, fr_of, fr_l2, z_int, z_str, z_bl, z_non, z_tup, z_lst, z_nil, z_cons, v_add, v_sub, v_mulr, v_mull, v_div, v_neg, v_int, v_intb, v_abs, v_isB, v_isI, v_truB, v_isn, v_notn, v_len_t, v_len_l, v_len_s, v_max, v_min, v_app, v_tup_n, v_lst_n, fr_l0, v_tup_t, v_tup_l, v_lst_t, v_lst_l, v_sl_t, v_sl_l, v_sl_s, v_cat_s, v_cat_t, v_cat_l, v_it_t, v_it_l, v_sq_t, v_sq_l, v_okl, v_oks, v_ss, v_big, v_big2, v_if_t, v_if_f, v_eq_iS, v_ne_iS, v_eq_sS, v_eq_ii, v_ne_ii, v_eq_ss, v_ne_ss, v_eq_bb, v_ne_bb, v_in_l, v_in_t, okP_int, okP_str, okP_bl, okP_non, n_int, n_str, n_bl, n_non, n_nil, n_cons, q_ss, q_ii, List.any_cons, List.any_nil, beq_self_eq_true, beq_true, beq_false, Bool.true_beq, Bool.false_beq, Bool.or_false, Bool.or_true, Bool.false_or, Bool.true_or, lt_ii, gt_ii, le_ii, ge_ii, mod_ii, in_non, in_bl, in_int, in_str, in_tup, in_lst, v_i_tuple_non, v_i_tuple_bl, v_i_tuple_int, v_i_tuple_str, v_i_tuple_tup, v_i_tuple_lst, v_i_list_non, v_i_list_bl, v_i_list_int, v_i_list_str, v_i_list_tup, v_i_list_lst, v_i_str_non, v_i_str_bl, v_i_str_int, v_i_str_str, v_i_str_tup, v_i_str_lst, v_i_int_non, v_i_int_bl, v_i_int_int, v_i_int_str, v_i_int_tup, v_i_int_lst, v_i_bool_non, v_i_bool_bl, v_i_bool_int, v_i_bool_str, v_i_bool_tup, v_i_bool_lst, v_ixt_0, v_ixl_0, v_set_0, v_ixN_0, v_ixt_1, v_ixl_1, v_set_1, v_ixN_1, v_ixt_2, v_ixl_2, v_set_2, v_ixN_2, v_ixt_3, v_ixl_3, v_set_3, v_ixN_3, v_ixt_4, v_ixl_4, v_set_4, v_ixN_4, v_ixt_5, v_ixl_5, v_set_5, v_ixN_5, v_ixt_6, v_ixl_6, v_set_6, v_ixN_6, v_ixt_7, v_ixl_7, v_set_7, v_ixN_7, v_ixt_8, v_ixl_8, v_set_8, v_ixN_8, v_ixt_9, v_ixl_9, v_set_9, v_ixN_9, v_ixt_10, v_ixl_10, v_set_10, v_ixN_10, v_ixt_11, v_ixl_11, v_set_11, v_ixN_11, v_ixt_12, v_ixl_12, v_set_12, v_ixN_12, Bool.and_self, Bool.and_true, Bool.true_and, Bool.not_true, Bool.not_false, true_and, and_true, decide_true, decide_false, List.length_cons, List.length_nil, Nat.reduceAdd, Nat.reduceLeDiff, Int.reduceLT, Int.reduceLE, Int.reduceNeg, Int.reduceEq, Int.reduceAdd, Int.reduceSub, ofStr_inj, String.reduceEq, eq_self, ne_eq, not_true_eq_false, not_false_eq_true, forall_const, true_implies, false_implies, imp_self, implies_true, Int.reduceToNat, Nat.reduceLT, List.length_map, reduceIte, Bool.false_eq_true, Bool.true_eq_false, *])
local macro_rules | `(tactic| walk_at "fn") => `(tactic| ((with_reducible apply F_env); (· repeat constructor)))
theorem shuffled_ok {t : D} {xs : List D} {p : D → Prop} {P : D → List D → Prop} {as : List D} (e0 : as = [t, .lst false xs]) (h : Tp t) (hp : ∀ x ∈ xs, p x) (hf : frzs xs = true) (hl : xs.length < 1000) (k : ∀ ys t', (∀ y ∈ ys, p y) → frzs ys = true → ys.length = xs.length → Tp t' → P (.lst true ys) [t']) : OkF Fn__law_shuffled as P := by
  subst e0
  have q1 : small62 (xs.length : Nat) = true := v_ss (by omega) (by omega)
  unfold Fn__law_shuffled B__law_shuffled
  walk_at "fn"
  walk_at "sy"
  refine S_for2 ?_
  walk_at "sy"
  refine lpS (fun ds e => ∃ t held turned c, e = [some t, some (.lst false xs), some (.lst true held), some (.lst true turned), c] ∧ Tp t ∧ (∀ r ∈ held, p r) ∧ (∀ r ∈ turned, p r) ∧ frzs held = true ∧ frzs turned = true ∧ held.length = ds.length ∧ turned.length + ds.length = xs.length)
    ⟨t, xs, [], none, rfl, h, hp, fun r hr => (nomatch hr), hf, rfl, by rw [rng_len]; omega, by rw [rng_len]; simp only [List.length_nil]; omega⟩ (fun d rest e h => ?_) (fun e h => ?_)
  · obtain ⟨t, held, turned, c, rfl, ht, h1, h2, h3, h4, h5, h6⟩ := h
    rw [List.length_cons] at h5 h6
    walk_at "sx"
    refine X_F (draw_ok rfl ht (by omega) fun i t1 ht1 hi0 hi1 => ?_)
    obtain ⟨d1, m1, e1⟩ := popAt_o (xs := held) hi0 (by omega) (by omega)
    have e2 : gAppend turned [d1] = some (.non, turned ++ [d1]) := v_app (by omega)
    walk_at "sy"
    exact ⟨_, _, _, _, rfl, ht1, fun r hr => h1 r (List.mem_of_mem_eraseIdx hr), rows_turn h2 (h1 d1 m1), frzs_all fun r hr => frzs_mem h3 r (List.mem_of_mem_eraseIdx hr), frzs_snoc h4 (frzs_mem h3 d1 m1), by rw [List.length_eraseIdx_of_lt (by omega)]; omega, by rw [List.length_append]; simp only [List.length_cons, List.length_nil]; omega⟩
  · obtain ⟨t, held, turned, c, rfl, ht, h1, h2, h3, h4, h5, h6⟩ := h
    walk_at "sx"
    exact k _ _ h2 h4 (by simp only [List.length_nil] at h6; omega) ht
theorem turns_ok {t : D} {n : Int} {P : D → List D → Prop} {as : List D} (e0 : as = [t, .int n]) (h : Tp t) (hn0 : 0 ≤ n) (hn : n < 1000) (k : ∀ ys t', (∀ y ∈ ys, ∃ i : Int, y = .int i ∧ 0 ≤ i ∧ i < n) → Tp t' → P (.lst true ys) [t']) : OkF Fn__law_turns as P := by
  subst e0
  have q1 : small62 n = true := v_ss (by omega) (by omega)
  have q2 : n.toNat ≤ big := show n.toNat ≤ 16777216 by omega
  unfold Fn__law_turns B__law_turns
  walk_at "fn"
  walk_at "sy"
  refine S_for2 ?_
  walk_at "sy"
  refine lpS (fun ds e => ∃ t held turned c, e = [some t, some (.int n), some (.lst true held), some (.lst true turned), c] ∧ Tp t ∧ (∀ r ∈ held, ∃ i : Int, r = .int i ∧ 0 ≤ i ∧ i < n) ∧ (∀ r ∈ turned, ∃ i : Int, r = .int i ∧ 0 ≤ i ∧ i < n) ∧ held.length = ds.length ∧ turned.length + ds.length = n.toNat)
    ⟨t, rangeD 0 n.toNat, [], none, rfl, h, fun r hr => by obtain ⟨i, rfl, h0, h1⟩ := rng_mem hr; exact ⟨i, rfl, h0, by omega⟩, fun r hr => (nomatch hr), rfl, by rw [rng_len]; simp only [List.length_nil]; omega⟩ (fun d rest e h => ?_) (fun e h => ?_)
  · obtain ⟨t, held, turned, c, rfl, ht, h1, h2, h5, h6⟩ := h
    rw [List.length_cons] at h5 h6
    walk_at "sx"
    refine X_F (draw_ok rfl ht (by omega) fun i t1 ht1 hi0 hi1 => ?_)
    obtain ⟨d1, m1, e1⟩ := popAt_o (xs := held) hi0 (by omega) (by omega)
    have e2 : gAppend turned [d1] = some (.non, turned ++ [d1]) := v_app (by omega)
    walk_at "sy"
    exact ⟨_, _, _, _, rfl, ht1, fun r hr => h1 r (List.mem_of_mem_eraseIdx hr), rows_turn h2 (h1 d1 m1), by rw [List.length_eraseIdx_of_lt (by omega)]; omega, by rw [List.length_append]; simp only [List.length_cons, List.length_nil]; omega⟩
  · obtain ⟨t, held, turned, c, rfl, ht, h1, h2, h5, h6⟩ := h
    have hz : frzs turned = true := frzs_all fun d hd => by obtain ⟨i, rfl, _⟩ := h2 d hd; rfl
    walk_at "sy"
    refine X_F (draw_ok rfl ht (by decide) fun i t1 ht1 hi0 hi1 => ?_)
    have key : ∃ j : Int, ixD (.lst true [.int n, .int n, .int 1]) (.int i) = some (.int j) := by
      rcases (by omega : i = 0 ∨ i = 1 ∨ i = 2) with rfl | rfl | rfl <;> exact ⟨_, rfl⟩
    obtain ⟨j, ej⟩ := key
    walk_at "sy"
    exact k _ _ (fun y hy => h2 y (mem_cut hy)) ht1
/-- the same value, told twice -/
def Sm (n : Nat) (d : D) : Prop := d.frz = true ∧ Fn__law_same n [d, d] = .ok (.bl true, [])
theorem sm_non {n : Nat} : Sm (n + 1) .non := by
  refine ⟨rfl, ok_eq2 ?_⟩
  unfold Fn__law_same B__law_same
  walk_at "fn"
  walk_at "sx"
theorem sm_bl {n : Nat} {b : Bool} : Sm (n + 1) (.bl b) := by
  refine ⟨rfl, ok_eq2 ?_⟩
  unfold Fn__law_same B__law_same
  cases b
  · walk_at "fn"
    walk_at "sy"
  · walk_at "fn"
    walk_at "sy"
theorem sm_int {n : Nat} {i : Int} : Sm (n + 1) (.int i) := by
  refine ⟨rfl, ok_eq2 ?_⟩
  unfold Fn__law_same B__law_same
  walk_at "fn"
  walk_at "sy"
theorem sm_str {n : Nat} {i : Str} : Sm (n + 1) (.str i) := by
  refine ⟨rfl, ok_eq2 ?_⟩
  unfold Fn__law_same B__law_same
  walk_at "fn"
  walk_at "sx"
theorem sm_tup {n : Nat} {xs : List D} (h : ∀ x ∈ xs, Sm n x) (hl : xs.length < 1000000) : Sm (n + 1) (.tup xs) := by
  have hz : frzs xs = true := frzs_all fun x hx => (h x hx).1
  have q1 : small62 (xs.length : Nat) = true := v_ss (by omega) (by omega)
  refine ⟨hz, ok_eq2 ?_⟩
  unfold Fn__law_same B__law_same
  walk_at "fn"
  walk_at "sy"
  refine S_for2 ?_
  walk_at "sy"
  refine lpS (fun ds e => (∀ d ∈ ds, ∃ i : Int, d = .int i ∧ 0 ≤ i ∧ i < 0 + (xs.length : Int)) ∧ ∃ c, e = [some (.tup xs), some (.tup xs), c]) ⟨fun d hd => rng_mem (by simpa using hd), none, rfl⟩ (fun d rest e h1 => ?_) (fun e h1 => ?_)
  · obtain ⟨h1, c, rfl⟩ := h1
    obtain ⟨i, rfl, h0, h2⟩ := h1 _ List.mem_cons_self
    have hi : i.toNat < xs.length := by omega
    have ei : ixD (.tup xs) (.int i) = some xs[i.toNat] := ix_t h0 (List.getElem?_eq_getElem hi)
    obtain ⟨z1, s1⟩ := h _ (List.getElem_mem hi)
    walk_at "sy"
    rw [X_eq s1]
    walk_at "sx"
    exact ⟨fun d hd => h1 d (List.mem_cons_of_mem _ hd), _, rfl⟩
  · obtain ⟨h1, c, rfl⟩ := h1
    walk_at "sx"
end K00
end

section
set_option linter.all false
set_option maxRecDepth 100000
set_option maxHeartbeats 8000000
namespace K00
open PySem L2 Fw
local macro_rules | `(tactic| walk_at "sx") => `(tactic| simp -dsimp only [↓E_c, ↓E_var, ↓E_frz, ↓E_mov, ↓A_io, ↓E_chk, ↓E_give, ↓E_bin, ↓E_un, ↓E_tup, ↓E_lst, ↓A_nil, ↓A_cons, ↓A_arg, ↓E_if, ↓S_if, ↓T_and, ↓T_or, ↓T_test, ↓T_tru, ↓T_not, ↓T_yes, ↓E_andV, ↓E_orV, ↓E_notV, ↓E_mt, ↓E_sl, ↓O_no, ↓O_part, ↓S_skip, ↓S_break, ↓S_cont, ↓S_retN, ↓S_seq, ↓S_drop, ↓S_ret, ↓S_asg, ↓E_mut, ↓S_setS, ↓E_call, ↓I_seq, ↓I_enum, ↓I_rng1, ↓I_rng2, ↓E_lstRg, ↓opt_some, ↓br_t, ↓br_f, ↓br_d, ↓br_n, ↓gg_tup, ↓ggs_cons, ↓ggs_nil, ↓fr_i, ↓fr_s, ↓fr_b, ↓fr_n, ↓at_0, ↓at_1, ↓at_2, ↓at_3, ↓at_4, ↓at_5, ↓at_6, ↓at_7, ↓at_8, ↓at_9, ↓at_10, ↓at_11, ↓at_12, ↓at_13, ↓at_14, ↓at_15, ↓at_16, ↓at_17, ↓at_18, ↓at_19, ↓at_20, ↓at_21, ↓tak_0, ↓tak_1, ↓tak_2, ↓tak_3, ↓tak_4, ↓tak_5, ↓tak_6, ↓tak_7, ↓tak_8, ↓tak_9, ↓tak_10, ↓tak_11, ↓tak_12, ↓tak_13, ↓tak_14, ↓tak_15, ↓tak_16, ↓tak_17, ↓tak_18, ↓tak_19, ↓tak_20, ↓tak_21, ↓put_0, ↓put_1, ↓put_2, ↓put_3, ↓put_4, ↓put_5, ↓put_6, ↓put_7, ↓put_8, ↓put_9, ↓put_10, ↓put_11, ↓put_12, ↓put_13, ↓put_14, ↓put_15, ↓put_16, ↓put_17, ↓put_18, ↓put_19, ↓put_20, ↓put_21, ↓own_0, ↓own_1, ↓own_2, ↓own_3, ↓own_4, ↓own_5, ↓own_6, ↓own_7, ↓own_8, ↓own_9, ↓own_10, ↓own_11, ↓own_12, ↓own_13, ↓own_14, ↓own_15, ↓own_16, ↓own_17, ↓own_18, ↓own_19, ↓own_20, ↓own_21, ↓isl_0, ↓isl_1, ↓isl_2, ↓isl_3, ↓isl_4, ↓isl_5, ↓isl_6, ↓isl_7, ↓isl_8, ↓isl_9, ↓isl_10, ↓isl_11, ↓isl_12, ↓isl_13, ↓isl_14, ↓isl_15, ↓isl_16, ↓isl_17, ↓isl_18, ↓isl_19, ↓isl_20, ↓isl_21, ↓gg_0, ↓gg_1, ↓gg_2, ↓gg_3, ↓gg_4, ↓gg_5, ↓gg_6, ↓gg_7, ↓gg_8, ↓gg_9, ↓gg_10, ↓gg_11, ↓gg_12, ↓gg_13, ↓gg_14, ↓gg_15, ↓gg_16, ↓gg_17, ↓gg_18, ↓gg_19, ↓gg_20, ↓gg_21, ↓po_0, ↓po_1, ↓po_2, ↓po_3, ↓po_4, ↓po_5, ↓po_6, ↓po_7, ↓po_8, ↓po_9, ↓po_10, ↓po_11, ↓po_12, ↓po_13, ↓po_14, ↓po_15, ↓po_16, ↓po_17, ↓po_18, ↓po_19, ↓po_20, ↓po_21, ↓and2_true, ↓O_0, ↓O_1, ↓wip_nil, ↓wip_cons, ↓X_fn, ↓mk_cons, ↓mk_nil, ↓mk_0, ↓cp_0, ↓cp_1, ↓cp_2, ↓cp_3, ↓cp_4, ↓cp_5, ↓cp_6, ↓cp_7, ↓cp_8, ↓cp_9, ↓cq_0, ↓cq_1, ↓cq_2, ↓cq_3, ↓cq_4, ↓cq_5, ↓cq_6, ↓cq_7, ↓cq_8, ↓cq_9, and2_t, v_ixN, fr_of, fr_l2, z_int, z_str, z_bl, z_non, z_tup, z_lst, z_nil, z_cons, v_add, v_sub, v_mulr, v_mull, v_div, v_neg, v_int, v_intb, v_abs, v_isB, v_isI, v_truB, v_isn, v_notn, v_len_t, v_len_l, v_len_s, v_max, v_min, v_app, v_tup_n, v_lst_n, fr_l0, v_tup_t, v_tup_l, v_lst_t, v_lst_l, v_sl_t, v_sl_l, v_sl_s, v_cat_s, v_cat_t, v_cat_l, v_it_t, v_it_l, v_sq_t, v_sq_l, v_okl, v_oks, v_ss, v_big, v_big2, v_if_t, v_if_f, v_eq_iS, v_ne_iS, v_eq_sS, v_eq_ii, v_ne_ii, v_eq_ss, v_ne_ss, v_eq_bb, v_ne_bb, v_in_l, v_in_t, okP_int, okP_str, okP_bl, okP_non, n_int, n_str, n_bl, n_non, n_nil, n_cons, q_ss, q_ii, List.any_cons, List.any_nil, beq_self_eq_true, beq_true, beq_false, Bool.true_beq, Bool.false_beq, Bool.or_false, Bool.or_true, Bool.false_or, Bool.true_or, lt_ii, gt_ii, le_ii, ge_ii, mod_ii, in_non, in_bl, in_int, in_str, in_tup, in_lst, v_i_tuple_non, v_i_tuple_bl, v_i_tuple_int, v_i_tuple_str, v_i_tuple_tup, v_i_tuple_lst, v_i_list_non, v_i_list_bl, v_i_list_int, v_i_list_str, v_i_list_tup, v_i_list_lst, v_i_str_non, v_i_str_bl, v_i_str_int, v_i_str_str, v_i_str_tup, v_i_str_lst, v_i_int_non, v_i_int_bl, v_i_int_int, v_i_int_str, v_i_int_tup, v_i_int_lst, v_i_bool_non, v_i_bool_bl, v_i_bool_int, v_i_bool_str, v_i_bool_tup, v_i_bool_lst, v_ixt_0, v_ixl_0, v_set_0, v_ixN_0, v_ixt_1, v_ixl_1, v_set_1, v_ixN_1, v_ixt_2, v_ixl_2, v_set_2, v_ixN_2, v_ixt_3, v_ixl_3, v_set_3, v_ixN_3, v_ixt_4, v_ixl_4, v_set_4, v_ixN_4, v_ixt_5, v_ixl_5, v_set_5, v_ixN_5, v_ixt_6, v_ixl_6, v_set_6, v_ixN_6, v_ixt_7, v_ixl_7, v_set_7, v_ixN_7, v_ixt_8, v_ixl_8, v_set_8, v_ixN_8, v_ixt_9, v_ixl_9, v_set_9, v_ixN_9, v_ixt_10, v_ixl_10, v_set_10, v_ixN_10, v_ixt_11, v_ixl_11, v_set_11, v_ixN_11, v_ixt_12, v_ixl_12, v_set_12, v_ixN_12, Bool.and_self, Bool.and_true, Bool.true_and, Bool.not_true, Bool.not_false, true_and, and_true, decide_true, decide_false, List.length_cons, List.length_nil, Nat.reduceAdd, Nat.reduceLeDiff, Int.reduceLT, Int.reduceLE, Int.reduceNeg, Int.reduceEq, Int.reduceAdd, Int.reduceSub, ofStr_inj, String.reduceEq, eq_self, ne_eq, not_true_eq_false, not_false_eq_true, forall_const, true_implies, false_implies, imp_self, implies_true, Int.reduceToNat, Nat.reduceLT, List.length_map, reduceIte, Bool.false_eq_true, Bool.true_eq_false])
local macro_rules | `(tactic| walk_at "sy") => `(tactic| simp -dsimp only [↓E_c, ↓E_var, ↓E_frz, ↓E_mov, ↓A_io, ↓E_chk, ↓E_give, ↓E_bin, ↓E_un, ↓E_tup, ↓E_lst, ↓A_nil, ↓A_cons, ↓A_arg, ↓E_if, ↓S_if, ↓T_and, ↓T_or, ↓T_test, ↓T_tru, ↓T_not, ↓T_yes, ↓E_andV, ↓E_orV, ↓E_notV, ↓E_mt, ↓E_sl, ↓O_no, ↓O_part, ↓S_skip, ↓S_break, ↓S_cont, ↓S_retN, ↓S_seq, ↓S_drop, ↓S_ret, ↓S_asg, ↓E_mut, ↓S_setS, ↓E_call, ↓I_seq, ↓I_enum, ↓I_rng1, ↓I_rng2, ↓E_lstRg, ↓opt_some, ↓br_t, ↓br_f, ↓br_d, ↓br_n, ↓gg_tup, ↓ggs_cons, ↓ggs_nil, ↓fr_i, ↓fr_s, ↓fr_b, ↓fr_n, ↓at_0, ↓at_1, ↓at_2, ↓at_3, ↓at_4, ↓at_5, ↓at_6, ↓at_7, ↓at_8, ↓at_9, ↓at_10, ↓at_11, ↓at_12, ↓at_13, ↓at_14, ↓at_15, ↓at_16, ↓at_17, ↓at_18, ↓at_19, ↓at_20, ↓at_21, ↓tak_0, ↓tak_1, ↓tak_2, ↓tak_3, ↓tak_4, ↓tak_5, ↓tak_6, ↓tak_7, ↓tak_8, ↓tak_9, ↓tak_10, ↓tak_11, ↓tak_12, ↓tak_13, ↓tak_14, ↓tak_15, ↓tak_16, ↓tak_17, ↓tak_18, ↓tak_19, ↓tak_20, ↓tak_21, ↓put_0, ↓put_1, ↓put_2, ↓put_3, ↓put_4, ↓put_5, ↓put_6, ↓put_7, ↓put_8, ↓put_9, ↓put_10, ↓put_11, ↓put_12, ↓put_13, ↓put_14, ↓put_15, ↓put_16, ↓put_17, ↓put_18, ↓put_19, ↓put_20, ↓put_21, ↓own_0, ↓own_1, ↓own_2, ↓own_3, ↓own_4, ↓own_5, ↓own_6, ↓own_7, ↓own_8, ↓own_9, ↓own_10, ↓own_11, ↓own_12, ↓own_13, ↓own_14, ↓own_15, ↓own_16, ↓own_17, ↓own_18, ↓own_19, ↓own_20, ↓own_21, ↓isl_0, ↓isl_1, ↓isl_2, ↓isl_3, ↓isl_4, ↓isl_5, ↓isl_6, ↓isl_7, ↓isl_8, ↓isl_9, ↓isl_10, ↓isl_11, ↓isl_12, ↓isl_13, ↓isl_14, ↓isl_15, ↓isl_16, ↓isl_17, ↓isl_18, ↓isl_19, ↓isl_20, ↓isl_21, ↓gg_0, ↓gg_1, ↓gg_2, ↓gg_3, ↓gg_4, ↓gg_5, ↓gg_6, ↓gg_7, ↓gg_8, ↓gg_9, ↓gg_10, ↓gg_11, ↓gg_12, ↓gg_13, ↓gg_14, ↓gg_15, ↓gg_16, ↓gg_17, ↓gg_18, ↓gg_19, ↓gg_20, ↓gg_21, ↓po_0, ↓po_1, ↓po_2, ↓po_3, ↓po_4, ↓po_5, ↓po_6, ↓po_7, ↓po_8, ↓po_9, ↓po_10, ↓po_11, ↓po_12, ↓po_13, ↓po_14, ↓po_15, ↓po_16, ↓po_17, ↓po_18, ↓po_19, ↓po_20, ↓po_21, ↓and2_true, ↓O_0, ↓O_1, ↓wip_nil, ↓wip_cons, ↓X_fn, ↓mk_cons, ↓mk_nil, ↓mk_0, ↓cp_0, ↓cp_1, ↓cp_2, ↓cp_3, ↓cp_4, ↓cp_5, ↓cp_6, ↓cp_7, ↓cp_8, ↓cp_9, ↓cq_0, ↓cq_1, ↓cq_2, ↓cq_3, ↓cq_4, ↓cq_5, ↓cq_6, ↓cq_7, ↓cq_8, ↓cq_9, and2_t, v_ixN, fr_of, fr_l2, z_int, z_str, z_bl, z_non, z_tup, z_lst, z_nil, z_cons, v_add, v_sub, v_mulr, v_mull, v_div, v_neg, v_int, v_intb, v_abs, v_isB, v_isI, v_truB, v_isn, v_notn, v_len_t, v_len_l, v_len_s, v_max, v_min, v_app, v_tup_n, v_lst_n, fr_l0, v_tup_t, v_tup_l, v_lst_t, v_lst_l, v_sl_t, v_sl_l, v_sl_s, v_cat_s, v_cat_t, v_cat_l, v_it_t, v_it_l, v_sq_t, v_sq_l, v_okl, v_oks, v_ss, v_big, v_big2, v_if_t, v_if_f, v_eq_iS, v_ne_iS, v_eq_sS, v_eq_ii, v_ne_ii, v_eq_ss, v_ne_ss, v_eq_bb, v_ne_bb, v_in_l, v_in_t, okP_int, okP_str, okP_bl, okP_non, n_int, n_str, n_bl, n_non, n_nil, n_cons, q_ss, q_ii, List.any_cons, List.any_nil, beq_self_eq_true, beq_true, beq_false, Bool.true_beq, Bool.false_beq, Bool.or_false, Bool.or_true, Bool.false_or, Bool.true_or, lt_ii, gt_ii, le_ii, ge_ii, mod_ii, in_non, in_bl, in_int, in_str, in_tup, in_lst, v_i_tuple_non, v_i_tuple_bl, v_i_tuple_int, v_i_tuple_str, v_i_tuple_tup, v_i_tuple_lst, v_i_list_non, v_i_list_bl, v_i_list_int, v_i_list_str, v_i_list_tup, v_i_list_lst, v_i_str_non, v_i_str_bl, v_i_str_int, v_i_str_str, v_i_str_tup, v_i_str_lst, v_i_int_non, v_i_int_bl, v_i_int_int, v_i_int_str, v_i_int_tup, v_i_int_lst, v_i_bool_non, v_i_bool_bl, v_i_bool_int, v_i_bool_str, v_i_bool_tup, v_i_bool_lst, v_ixt_0, v_ixl_0, v_set_0, v_ixN_0, v_ixt_1, v_ixl_1, v_set_1, v_ixN_1, v_ixt_2, v_ixl_2, v_set_2, v_ixN_2, v_ixt_3, v_ixl_3, v_set_3, v_ixN_3, v_ixt_4, v_ixl_4, v_set_4, v_ixN_4, v_ixt_5, v_ixl_5, v_set_5, v_ixN_5, v_ixt_6, v_ixl_6, v_set_6, v_ixN_6, v_ixt_7, v_ixl_7, v_set_7, v_ixN_7, v_ixt_8, v_ixl_8, v_set_8, v_ixN_8, v_ixt_9, v_ixl_9, v_set_9, v_ixN_9, v_ixt_10, v_ixl_10, v_set_10, v_ixN_10, v_ixt_11, v_ixl_11, v_set_11, v_ixN_11, v_ixt_12, v_ixl_12, v_set_12, v_ixN_12, Bool.and_self, Bool.and_true, Bool.true_and, Bool.not_true, Bool.not_false, true_and, and_true, decide_true, decide_false, List.length_cons, List.length_nil, Nat.reduceAdd, Nat.reduceLeDiff, Int.reduceLT, Int.reduceLE, Int.reduceNeg, Int.reduceEq, Int.reduceAdd, Int.reduceSub, ofStr_inj, String.reduceEq, eq_self, ne_eq, not_true_eq_false, not_false_eq_true, forall_const, true_implies, false_implies, imp_self, implies_true, Int.reduceToNat, Nat.reduceLT, List.length_map, reduceIte, Bool.false_eq_true, Bool.true_eq_false, *])
local macro_rules | `(tactic| walk_at "fn") => `(tactic| ((with_reducible apply F_env); (· repeat constructor)))
def SG : Str := " !\"#$&'()*+,-./0123456789:;<=>?@ABCDEFGHIJKLMNOPQRSTUVWXYZ[\\]^_" ++ "`abcdefghijklmnopqrstuvwxyz{|}~"
theorem sg_len : SG.length = 94 := by decide +kernel
theorem signs_eq : Fn__law_signs [] = .ok (.str SG, []) := by
  refine ok_eq2 ?_
  have e1 : addD (.str " !\"#$&'()*+,-./0123456789:;<=>?@ABCDEFGHIJKLMNOPQRSTUVWXYZ[\\]^_") (.str "`abcdefghijklmnopqrstuvwxyz{|}~") = some (.str SG) := v_cat_s (by decide +kernel)
  unfold Fn__law_signs B__law_signs
  walk_at "fn"
  walk_at "sy"
theorem pickS_ok {t : D} {s : Str} {P : D → List D → Prop} {as : List D} (e0 : as = [t, .str s]) (h : Tp t) (hn : 0 < s.length) (hl : s.length ≤ 1000) (k : ∀ (x : Str) t', x.length = 1 → Tp t' → P (.str x) [t']) : OkF Fn__law_pick as P := by
  subst e0
  have q1 : s.length ≤ 1000000 := by omega
  unfold Fn__law_pick B__law_pick
  walk_at "fn"
  walk_at "sy"
  refine X_F (draw_ok rfl h (by omega) fun i t' h1 h2 h3 => ?_)
  have hs : s.cps.toList.length = s.length := Array.length_toList
  have hi : i.toNat < s.cps.toList.length := by omega
  have e2 : atI s.cps.toList i = some s.cps.toList[i.toNat] := by
    have e : (i.toNat : Int) = i := by omega
    have := atI_nat (List.getElem?_eq_getElem hi)
    rw [e] at this
    exact this
  have p1 : ixD (.str s) (.int i) = some (.str ⟨#[s.cps.toList[i.toNat]]⟩) := by
    show (if s.length ≤ 16777216 then (atI s.cps.toList i).map fun c => D.str ⟨#[c]⟩ else none) = _
    rw [if_pos (by omega), e2]
    rfl
  walk_at "sy"
  exact k _ _ rfl h1
theorem isS_z {n : Nat} {x : D} (h : IsS n x) : x.frz = true := by obtain ⟨s, rfl, _⟩ := h; rfl
theorem isS_k {n : Nat} {x : D} (h : IsS n x) : Kp false n x := .inl ⟨rfl, h⟩
theorem join_nil {ys : List Str} : (Txt.join "" ys).length = (ys.map (·.length)).sum := by
  rw [TL.join_eq]
  induction ys with
  | nil => rfl
  | cons y r ih =>
    cases r with
    | nil => simp [Str.join]
    | cons z r =>
      show (y ++ "" ++ Str.join "" (z :: r)).length = _
      rw [len_cat, len_cat, ih]
      rfl
theorem sum_le {ys : List Str} {n : Nat} (h : ∀ y ∈ ys, y.length ≤ n) : (ys.map (·.length)).sum ≤ ys.length * n := by
  induction ys with
  | nil => simp
  | cons y r ih =>
    have h1 := h y List.mem_cons_self
    have h2 := ih fun z hz => h z (List.mem_cons_of_mem _ hz)
    rw [List.map_cons, List.sum_cons, List.length_cons, Nat.add_mul, Nat.one_mul]
    omega
theorem strings_ok {t : D} {most : Int} {P : D → List D → Prop} {as : List D} (e0 : as = [t, .int most]) (h : Tp t) (h0 : 0 < most) (h1 : most < 100) (k : ∀ ys t', (∀ y ∈ ys, IsS 300 y) → ys ≠ [] → ys.length ≤ 10 → Tp t' → P (.lst true ys) [t']) : OkF Fn__law_a_strings as P := by
  subst e0
  have g1 := signs_eq
  have g2 := sg_len
  unfold Fn__law_a_strings B__law_a_strings
  walk_at "fn"
  refine S_cut (fun e => e = [some t, some (.int most), some (.str SG), none, none, none, none, none, none]) ?_ fun e h => ?_
  · walk_at "sx"
    rw [X_eq g1]
    walk_at "sx"
  subst h
  refine S_cut (fun e => ∃ t s, e = [some t, some (.int most), some (.str SG), some (.str s), none, none, none, none, none] ∧ Tp t ∧ s.length ≤ 100) ?_ fun e h => ?_
  · walk_at "sx"
    refine E_lc ?_
    walk_at "sx"
    refine X_F (draw_ok rfl h (by omega) fun n t1 ht1 hn0 hn1 => ?_)
    have q1 : small62 n = true := v_ss (by omega) (by omega)
    walk_at "sy"
    refine lpE (fun ds acc e => ∃ t, e = [some t, some (.int most), some (.str SG), none, none, none, none, none, none] ∧ Tp t ∧ (∀ d ∈ acc, IsS 1 d) ∧ acc.length + ds.length ≤ 100) ?_ (fun d rest acc e h => ?_) (fun acc e h => ?_)
    · walk_at "sx"
      exact ⟨_, rfl, ht1, fun d hd => (nomatch hd), by rw [rng_len]; show 0 + _ ≤ 100; omega⟩
    · obtain ⟨t, rfl, ht, h2, h3⟩ := h
      rw [List.length_cons] at h3
      walk_at "sx"
      refine X_F (pickS_ok rfl ht (by omega) (by omega) fun x t2 hx ht2 => ?_)
      have q2 : (acc.length < big) = True := v_big2 (by omega)
      walk_at "sy"
      exact ⟨_, rfl, ht2, rows_turn h2 ⟨_, rfl, by omega⟩, by rw [List.length_append]; simp only [List.length_cons, List.length_nil]; omega⟩
    · obtain ⟨t, rfl, ht, h2, h3⟩ := h
      obtain ⟨ys, rfl, hy⟩ := strs_of h2
      have hl : ys.length ≤ 100 := by rw [List.length_map] at h3; simp only [List.length_nil] at h3; omega
      have hs := sum_le hy
      have q3 : joinD (.str "") (.lst true (ys.map D.str)) = some (.str (Txt.join "" ys)) := by
        show joinL _ _ = _
        unfold joinL
        rw [allS_map]
        exact if_pos (by show _ + ys.length * 0 ≤ 16777216; omega)
      walk_at "sy"
      exact ⟨_, _, rfl, ht, by rw [join_nil]; omega⟩
  obtain ⟨t, s, rfl, ht, hs⟩ := h
  refine S_cut (fun e => ∃ t c, e = [some t, some (.int most), some (.str SG), some (.str s), some (.str c), none, none, none, none] ∧ Tp t ∧ c.length = 1) ?_ fun e h => ?_
  · walk_at "sx"
    refine X_F (pickS_ok rfl ht (by omega) (by omega) fun x t2 hx ht2 => ?_)
    walk_at "sx"
    exact ⟨_, _, rfl, ht2, hx⟩
  obtain ⟨t, c, rfl, ht, hc⟩ := h
  refine S_cut (fun e => ∃ ms, e = [some t, some (.int most), some (.str SG), some (.str s), some (.str c), some (.lst false ms), none, none, none] ∧ (∀ d ∈ ms, IsS 300 d) ∧ ms ≠ [] ∧ ms.length = 10) ?_ fun e h => ?_
  · have l1 : ("" : Str).length = 0 := rfl
    have l2 : (" " : Str).length = 1 := rfl
    have l3 : ("!" : Str).length = 1 := rfl
    have l4 : ("   ~~~~" : Str).length = 7 := rfl
    have b1 : s.length ≤ 1000000 := by omega
    have a1 : addD (.str s) (.str " ") = some (.str (s ++ " ")) := v_cat_s (by omega)
    have a2 : addD (.str s) (.str c) = some (.str (s ++ c)) := v_cat_s (by omega)
    have a3 : addD (.str s) (.str "!") = some (.str (s ++ "!")) := v_cat_s (by omega)
    have a4 : addD (.str (s ++ c)) (.str "   ~~~~") = some (.str (s ++ c ++ "   ~~~~")) := v_cat_s (by rw [len_cat]; omega)
    have a5 : addD (.str c) (.str s) = some (.str (c ++ s)) := v_cat_s (by omega)
    have b2 : (s ++ c ++ "   ~~~~").length ≤ 1000000 := by rw [len_cat, len_cat]; omega
    have b3 : (c ++ s).length ≤ 1000000 := by rw [len_cat]; omega
    walk_at "sy"
    refine ⟨_, rfl, fun d hd => ?_, List.cons_ne_nil _ _, rfl⟩
    have c1 := @len_cutS s
    have c2 := @len_cutS (s ++ c ++ "   ~~~~")
    have c3 := @len_cutS (c ++ s)
    simp only [len_cat] at c2 c3
    simp only [List.mem_cons, List.not_mem_nil, or_false] at hd
    rcases hd with rfl | rfl | rfl | rfl | rfl | rfl | rfl | rfl | rfl | rfl
    · exact ⟨_, rfl, by omega⟩
    · exact ⟨_, rfl, by rw [len_cat]; omega⟩
    · exact ⟨_, rfl, by rw [len_cat]; omega⟩
    · exact ⟨_, rfl, by rw [len_cat]; omega⟩
    · exact ⟨_, rfl, by have := c1 (lo := none) (hi := some (max ((s.length : Int) - 1) 0)); omega⟩
    · exact ⟨_, rfl, by omega⟩
    · exact ⟨_, rfl, by have := c2 (lo := none) (hi := some most); omega⟩
    · exact ⟨_, rfl, by show 1 ≤ 300; omega⟩
    · exact ⟨_, rfl, by have := c3 (lo := none) (hi := some most); omega⟩
    · exact ⟨_, rfl, by show 1 ≤ 300; omega⟩
  obtain ⟨ms, rfl, hm, hm2, hm3⟩ := h
  have hmz : frzs ms = true := frzs_all fun d hd => isS_z (hm d hd)
  walk_at "sx"
  refine S_for2 ?_
  walk_at "sy"
  refine lpS (fun ds e => (∀ d ∈ ds, IsS 300 d) ∧ ∃ told z, e = [some t, some (.int most), some (.str SG), some (.str s), some (.str c), some (.lst false ms), some (.lst true told), z, none] ∧ (∀ d ∈ told, IsS 300 d) ∧ told.length + ds.length ≤ 10 ∧ (told ≠ [] ∨ ds = ms)) ⟨hm, [], none, rfl, fun d hd => (nomatch hd), by show 0 + _ ≤ 10; omega, .inr rfl⟩ (fun d rest e h => ?_) (fun e h => ?_)
  · obtain ⟨h1, told, z, rfl, h2, h3, h4⟩ := h
    rw [List.length_cons] at h3
    have hd := h1 d List.mem_cons_self
    have q1 := kp_in (neg := true) (o := true) (isS_k hd) fun y hy => isS_k (h2 y hy)
    have hz := isS_z hd
    have q2 : gAppend told [d] = some (.non, told ++ [d]) := v_app (by omega)
    walk_at "sy"
    cases hq : (told.any fun z => z.eqv d) with
    | true =>
      walk_at "sx"
      refine ⟨fun d hd => h1 d (List.mem_cons_of_mem _ hd), told, _, rfl, h2, by omega, .inl fun h => ?_⟩
      rw [h] at hq
      cases hq
    | false =>
      walk_at "sy"
      exact ⟨fun d hd => h1 d (List.mem_cons_of_mem _ hd), _, _, rfl, rows_turn h2 hd, by rw [List.length_append]; simp only [List.length_cons, List.length_nil]; omega, .inl (List.append_ne_nil_of_right_ne_nil _ (List.cons_ne_nil _ _))⟩
  · obtain ⟨h1, told, z, rfl, h2, h3, h4⟩ := h
    walk_at "sx"
    refine k _ _ h2 (h4.resolve_right fun h => hm2 h.symm) (by simpa using h3) ht
end K00
end

section
set_option linter.all false
set_option maxRecDepth 100000
set_option maxHeartbeats 8000000
namespace K00
open PySem L2 Fw
local macro_rules | `(tactic| walk_at "sx") => `(tactic| simp -dsimp only [↓E_c, ↓E_var, ↓E_frz, ↓E_mov, ↓A_io, ↓E_chk, ↓E_give, ↓E_bin, ↓E_un, ↓E_tup, ↓E_lst, ↓A_nil, ↓A_cons, ↓A_arg, ↓E_if, ↓S_if, ↓T_and, ↓T_or, ↓T_test, ↓T_tru, ↓T_not, ↓T_yes, ↓E_andV, ↓E_orV, ↓E_notV, ↓E_mt, ↓E_sl, ↓O_no, ↓O_part, ↓S_skip, ↓S_break, ↓S_cont, ↓S_retN, ↓S_seq, ↓S_drop, ↓S_ret, ↓S_asg, ↓E_mut, ↓S_setS, ↓E_call, ↓I_seq, ↓I_enum, ↓I_rng1, ↓I_rng2, ↓E_lstRg, ↓opt_some, ↓br_t, ↓br_f, ↓br_d, ↓br_n, ↓gg_tup, ↓ggs_cons, ↓ggs_nil, ↓fr_i, ↓fr_s, ↓fr_b, ↓fr_n, ↓at_0, ↓at_1, ↓at_2, ↓at_3, ↓at_4, ↓at_5, ↓at_6, ↓at_7, ↓at_8, ↓at_9, ↓at_10, ↓at_11, ↓at_12, ↓at_13, ↓at_14, ↓at_15, ↓at_16, ↓at_17, ↓at_18, ↓at_19, ↓at_20, ↓at_21, ↓tak_0, ↓tak_1, ↓tak_2, ↓tak_3, ↓tak_4, ↓tak_5, ↓tak_6, ↓tak_7, ↓tak_8, ↓tak_9, ↓tak_10, ↓tak_11, ↓tak_12, ↓tak_13, ↓tak_14, ↓tak_15, ↓tak_16, ↓tak_17, ↓tak_18, ↓tak_19, ↓tak_20, ↓tak_21, ↓put_0, ↓put_1, ↓put_2, ↓put_3, ↓put_4, ↓put_5, ↓put_6, ↓put_7, ↓put_8, ↓put_9, ↓put_10, ↓put_11, ↓put_12, ↓put_13, ↓put_14, ↓put_15, ↓put_16, ↓put_17, ↓put_18, ↓put_19, ↓put_20, ↓put_21, ↓own_0, ↓own_1, ↓own_2, ↓own_3, ↓own_4, ↓own_5, ↓own_6, ↓own_7, ↓own_8, ↓own_9, ↓own_10, ↓own_11, ↓own_12, ↓own_13, ↓own_14, ↓own_15, ↓own_16, ↓own_17, ↓own_18, ↓own_19, ↓own_20, ↓own_21, ↓isl_0, ↓isl_1, ↓isl_2, ↓isl_3, ↓isl_4, ↓isl_5, ↓isl_6, ↓isl_7, ↓isl_8, ↓isl_9, ↓isl_10, ↓isl_11, ↓isl_12, ↓isl_13, ↓isl_14, ↓isl_15, ↓isl_16, ↓isl_17, ↓isl_18, ↓isl_19, ↓isl_20, ↓isl_21, ↓gg_0, ↓gg_1, ↓gg_2, ↓gg_3, ↓gg_4, ↓gg_5, ↓gg_6, ↓gg_7, ↓gg_8, ↓gg_9, ↓gg_10, ↓gg_11, ↓gg_12, ↓gg_13, ↓gg_14, ↓gg_15, ↓gg_16, ↓gg_17, ↓gg_18, ↓gg_19, ↓gg_20, ↓gg_21, ↓po_0, ↓po_1, ↓po_2, ↓po_3, ↓po_4, ↓po_5, ↓po_6, ↓po_7, ↓po_8, ↓po_9, ↓po_10, ↓po_11, ↓po_12, ↓po_13, ↓po_14, ↓po_15, ↓po_16, ↓po_17, ↓po_18, ↓po_19, ↓po_20, ↓po_21, ↓and2_true, ↓O_0, ↓O_1, ↓wip_nil, ↓wip_cons, ↓X_fn, ↓mk_cons, ↓mk_nil, ↓mk_0, ↓cp_0, ↓cp_1, ↓cp_2, ↓cp_3, ↓cp_4, ↓cp_5, ↓cp_6, ↓cp_7, ↓cp_8, ↓cp_9, ↓cq_0, ↓cq_1, ↓cq_2, ↓cq_3, ↓cq_4, ↓cq_5, ↓cq_6, ↓cq_7, ↓cq_8, ↓cq_9, and2_t, v_ixN, fr_of, fr_l2, z_int, z_str, z_bl, z_non, z_tup, z_lst, z_nil, z_cons, v_add, v_sub, v_mulr, v_mull, v_div, v_neg, v_int, v_intb, v_abs, v_isB, v_isI, v_truB, v_isn, v_notn, v_len_t, v_len_l, v_len_s, v_max, v_min, v_app, v_tup_n, v_lst_n, fr_l0, v_tup_t, v_tup_l, v_lst_t, v_lst_l, v_sl_t, v_sl_l, v_sl_s, v_cat_s, v_cat_t, v_cat_l, v_it_t, v_it_l, v_sq_t, v_sq_l, v_okl, v_oks, v_ss, v_big, v_big2, v_if_t, v_if_f, v_eq_iS, v_ne_iS, v_eq_sS, v_eq_ii, v_ne_ii, v_eq_ss, v_ne_ss, v_eq_bb, v_ne_bb, v_in_l, v_in_t, okP_int, okP_str, okP_bl, okP_non, n_int, n_str, n_bl, n_non, n_nil, n_cons, q_ss, q_ii, List.any_cons, List.any_nil, beq_self_eq_true, beq_true, beq_false, Bool.true_beq, Bool.false_beq, Bool.or_false, Bool.or_true, Bool.false_or, Bool.true_or, lt_ii, gt_ii, le_ii, ge_ii, mod_ii, in_non, in_bl, in_int, in_str, in_tup, in_lst, v_i_tuple_non, v_i_tuple_bl, v_i_tuple_int, v_i_tuple_str, v_i_tuple_tup, v_i_tuple_lst, v_i_list_non, v_i_list_bl, v_i_list_int, v_i_list_str, v_i_list_tup, v_i_list_lst, v_i_str_non, v_i_str_bl, v_i_str_int, v_i_str_str, v_i_str_tup, v_i_str_lst, v_i_int_non, v_i_int_bl, v_i_int_int, v_i_int_str, v_i_int_tup, v_i_int_lst, v_i_bool_non, v_i_bool_bl, v_i_bool_int, v_i_bool_str, v_i_bool_tup, v_i_bool_lst, v_ixt_0, v_ixl_0, v_set_0, v_ixN_0, v_ixt_1, v_ixl_1, v_set_1, v_ixN_1, v_ixt_2, v_ixl_2, v_set_2, v_ixN_2, v_ixt_3, v_ixl_3, v_set_3, v_ixN_3, v_ixt_4, v_ixl_4, v_set_4, v_ixN_4, v_ixt_5, v_ixl_5, v_set_5, v_ixN_5, v_ixt_6, v_ixl_6, v_set_6, v_ixN_6, v_ixt_7, v_ixl_7, v_set_7, v_ixN_7, v_ixt_8, v_ixl_8, v_set_8, v_ixN_8, v_ixt_9, v_ixl_9, v_set_9, v_ixN_9, v_ixt_10, v_ixl_10, v_set_10, v_ixN_10, v_ixt_11, v_ixl_11, v_set_11, v_ixN_11, v_ixt_12, v_ixl_12, v_set_12, v_ixN_12, Bool.and_self, Bool.and_true, Bool.true_and, Bool.not_true, Bool.not_false, true_and, and_true, decide_true, decide_false, List.length_cons, List.length_nil, Nat.reduceAdd, Nat.reduceLeDiff, Int.reduceLT, Int.reduceLE, Int.reduceNeg, Int.reduceEq, Int.reduceAdd, Int.reduceSub, ofStr_inj, String.reduceEq, eq_self, ne_eq, not_true_eq_false, not_false_eq_true, forall_const, true_implies, false_implies, imp_self, implies_true, Int.reduceToNat, Nat.reduceLT, List.length_map, reduceIte, Bool.false_eq_true, Bool.true_eq_false])
local macro_rules | `(tactic| walk_at "sy") => `(tactic| simp -dsimp only [↓E_c, ↓E_var, ↓E_frz, ↓E_mov, ↓A_io, ↓E_chk, ↓E_give, ↓E_bin, ↓E_un, ↓E_tup, ↓E_lst, ↓A_nil, ↓A_cons, ↓A_arg, ↓E_if, ↓S_if, ↓T_and, ↓T_or, ↓T_test, ↓T_tru, ↓T_not, ↓T_yes, ↓E_andV, ↓E_orV, ↓E_notV, ↓E_mt, ↓E_sl, ↓O_no, ↓O_part, ↓S_skip, ↓S_break, ↓S_cont, ↓S_retN, ↓S_seq, ↓S_drop, ↓S_ret, ↓S_asg, ↓E_mut, ↓S_setS, ↓E_call, ↓I_seq, ↓I_enum, ↓I_rng1, ↓I_rng2, ↓E_lstRg, ↓opt_some, ↓br_t, ↓br_f, ↓br_d, ↓br_n, ↓gg_tup, ↓ggs_cons, ↓ggs_nil, ↓fr_i, ↓fr_s, ↓fr_b, ↓fr_n, ↓at_0, ↓at_1, ↓at_2, ↓at_3, ↓at_4, ↓at_5, ↓at_6, ↓at_7, ↓at_8, ↓at_9, ↓at_10, ↓at_11, ↓at_12, ↓at_13, ↓at_14, ↓at_15, ↓at_16, ↓at_17, ↓at_18, ↓at_19, ↓at_20, ↓at_21, ↓tak_0, ↓tak_1, ↓tak_2, ↓tak_3, ↓tak_4, ↓tak_5, ↓tak_6, ↓tak_7, ↓tak_8, ↓tak_9, ↓tak_10, ↓tak_11, ↓tak_12, ↓tak_13, ↓tak_14, ↓tak_15, ↓tak_16, ↓tak_17, ↓tak_18, ↓tak_19, ↓tak_20, ↓tak_21, ↓put_0, ↓put_1, ↓put_2, ↓put_3, ↓put_4, ↓put_5, ↓put_6, ↓put_7, ↓put_8, ↓put_9, ↓put_10, ↓put_11, ↓put_12, ↓put_13, ↓put_14, ↓put_15, ↓put_16, ↓put_17, ↓put_18, ↓put_19, ↓put_20, ↓put_21, ↓own_0, ↓own_1, ↓own_2, ↓own_3, ↓own_4, ↓own_5, ↓own_6, ↓own_7, ↓own_8, ↓own_9, ↓own_10, ↓own_11, ↓own_12, ↓own_13, ↓own_14, ↓own_15, ↓own_16, ↓own_17, ↓own_18, ↓own_19, ↓own_20, ↓own_21, ↓isl_0, ↓isl_1, ↓isl_2, ↓isl_3, ↓isl_4, ↓isl_5, ↓isl_6, ↓isl_7, ↓isl_8, ↓isl_9, ↓isl_10, ↓isl_11, ↓isl_12, ↓isl_13, ↓isl_14, ↓isl_15, ↓isl_16, ↓isl_17, ↓isl_18, ↓isl_19, ↓isl_20, ↓isl_21, ↓gg_0, ↓gg_1, ↓gg_2, ↓gg_3, ↓gg_4, ↓gg_5, ↓gg_6, ↓gg_7, ↓gg_8, ↓gg_9, ↓gg_10, ↓gg_11, ↓gg_12, ↓gg_13, ↓gg_14, ↓gg_15, ↓gg_16, ↓gg_17, ↓gg_18, ↓gg_19, ↓gg_20, ↓gg_21, ↓po_0, ↓po_1, ↓po_2, ↓po_3, ↓po_4, ↓po_5, ↓po_6, ↓po_7, ↓po_8, ↓po_9, ↓po_10, ↓po_11, ↓po_12, ↓po_13, ↓po_14, ↓po_15, ↓po_16, ↓po_17, ↓po_18, ↓po_19, ↓po_20, ↓po_21, ↓and2_true, ↓O_0, ↓O_1, ↓wip_nil, ↓wip_cons, ↓X_fn, ↓mk_cons, ↓mk_nil, ↓mk_0, ↓cp_0, ↓cp_1, ↓cp_2, ↓cp_3, ↓cp_4, ↓cp_5, ↓cp_6, ↓cp_7, ↓cp_8, ↓cp_9, ↓cq_0, ↓cq_1, ↓cq_2, ↓cq_3, ↓cq_4, ↓cq_5, ↓cq_6, ↓cq_7, ↓cq_8, ↓cq_9, and2_t, v_ixN, fr_of, fr_l2, z_int, z_str, z_bl, z_non, z_tup, z_lst, z_nil, z_cons, v_add, v_sub, v_mulr, v_mull, v_div, v_neg, v_int, v_intb, v_abs, v_isB, v_isI, v_truB, v_isn, v_notn, v_len_t, v_len_l, v_len_s, v_max, v_min, v_app, v_tup_n, v_lst_n, fr_l0, v_tup_t, v_tup_l, v_lst_t, v_lst_l, v_sl_t, v_sl_l, v_sl_s, v_cat_s, v_cat_t, v_cat_l, v_it_t, v_it_l, v_sq_t, v_sq_l, v_okl, v_oks, v_ss, v_big, v_big2, v_if_t, v_if_f, v_eq_iS, v_ne_iS, v_eq_sS, v_eq_ii, v_ne_ii, v_eq_ss, v_ne_ss, v_eq_bb, v_ne_bb, v_in_l, v_in_t, okP_int, okP_str, okP_bl, okP_non, n_int, n_str, n_bl, n_non, n_nil, n_cons, q_ss, q_ii, List.any_cons, List.any_nil, beq_self_eq_true, beq_true, beq_false, Bool.true_beq, Bool.false_beq, Bool.or_false, Bool.or_true, Bool.false_or, Bool.true_or, lt_ii, gt_ii, le_ii, ge_ii, mod_ii, in_non, in_bl, in_int, in_str, in_tup, in_lst, v_i_tuple_non, v_i_tuple_bl, v_i_tuple_int, v_i_tuple_str, v_i_tuple_tup, v_i_tuple_lst, v_i_list_non, v_i_list_bl, v_i_list_int, v_i_list_str, v_i_list_tup, v_i_list_lst, v_i_str_non, v_i_str_bl, v_i_str_int, v_i_str_str, v_i_str_tup, v_i_str_lst, v_i_int_non, v_i_int_bl, v_i_int_int, v_i_int_str, v_i_int_tup, v_i_int_lst, v_i_bool_non, v_i_bool_bl, v_i_bool_int, v_i_bool_str, v_i_bool_tup, v_i_bool_lst, v_ixt_0, v_ixl_0, v_set_0, v_ixN_0, v_ixt_1, v_ixl_1, v_set_1, v_ixN_1, v_ixt_2, v_ixl_2, v_set_2, v_ixN_2, v_ixt_3, v_ixl_3, v_set_3, v_ixN_3, v_ixt_4, v_ixl_4, v_set_4, v_ixN_4, v_ixt_5, v_ixl_5, v_set_5, v_ixN_5, v_ixt_6, v_ixl_6, v_set_6, v_ixN_6, v_ixt_7, v_ixl_7, v_set_7, v_ixN_7, v_ixt_8, v_ixl_8, v_set_8, v_ixN_8, v_ixt_9, v_ixl_9, v_set_9, v_ixN_9, v_ixt_10, v_ixl_10, v_set_10, v_ixN_10, v_ixt_11, v_ixl_11, v_set_11, v_ixN_11, v_ixt_12, v_ixl_12, v_set_12, v_ixN_12, Bool.and_self, Bool.and_true, Bool.true_and, Bool.not_true, Bool.not_false, true_and, and_true, decide_true, decide_false, List.length_cons, List.length_nil, Nat.reduceAdd, Nat.reduceLeDiff, Int.reduceLT, Int.reduceLE, Int.reduceNeg, Int.reduceEq, Int.reduceAdd, Int.reduceSub, ofStr_inj, String.reduceEq, eq_self, ne_eq, not_true_eq_false, not_false_eq_true, forall_const, true_implies, false_implies, imp_self, implies_true, Int.reduceToNat, Nat.reduceLT, List.length_map, reduceIte, Bool.false_eq_true, Bool.true_eq_false, *])
local macro_rules | `(tactic| walk_at "fn") => `(tactic| ((with_reducible apply F_env); (· repeat constructor)))
theorem keys_ok {t : D} {b : Bool} {many : Int} {P : D → List D → Prop} {as : List D} (e0 : as = [t, .bl b, .int many]) (h : Tp t) (h0 : 0 < many) (h1 : many < 100) (k : ∀ ys t', (∀ y ∈ ys, Kp b 300 y) → ys ≠ [] → ys.length ≤ 100 → Tp t' → P (.lst true ys) [t']) : OkF Fn__law_a_keys as P := by
  subst e0
  unfold Fn__law_a_keys B__law_a_keys
  walk_at "fn"
  refine S_cut (fun e => ∃ t ns, e = [some t, some (.bl b), some (.int many), some (.lst false ns), none, none, none, none] ∧ Tp t ∧ (∀ d ∈ ns, IsS 300 d) ∧ ns ≠ [] ∧ ns.length ≤ 10) ?_ fun e h => ?_
  · walk_at "sx"
    refine X_F (strings_ok rfl h (by decide) (by decide) fun ys t1 g1 g2 g3 ht1 => ?_)
    have z1 : frzs ys = true := frzs_all fun d hd => isS_z (g1 d hd)
    walk_at "sy"
    refine X_F (shuffled_ok rfl ht1 g1 z1 (by omega) fun zs t2 e1 e2 e3 ht2 => ?_)
    walk_at "sy"
    exact ⟨_, _, rfl, ht2, e1, fun q => g2 (List.eq_nil_of_length_eq_zero (by rw [← e3, q]; rfl)), by omega⟩
  obtain ⟨t, ns, rfl, ht, g1, g2, g3⟩ := h
  have z1 : frzs ns = true := frzs_all fun d hd => isS_z (g1 d hd)
  cases b with
  | false =>
    walk_at "sy"
    refine k _ _ (fun y hy => isS_k (g1 y (mem_cut hy))) (cut_ne h0 g2) (Nat.le_trans len_cut (by omega)) ht
  | true =>
    refine S_cut (fun e => e = [some t, some (.bl true), some (.int many), some (.lst false ns), none, none, none, none]) ?_ fun e h => ?_
    · walk_at "sx"
    subst h
    refine S_cut (fun e => ∃ t ts, e = [some t, some (.bl true), some (.int many), some (.lst false ns), some (.lst false ts), none, none, none] ∧ Tp t ∧ (∀ d ∈ ts, IsS 300 d) ∧ ts ≠ [] ∧ ts.length ≤ 10) ?_ fun e h => ?_
    · walk_at "sx"
      refine X_F (strings_ok rfl ht (by decide) (by decide) fun ys t1 u1 u2 u3 ht1 => ?_)
      have z2 : frzs ys = true := frzs_all fun d hd => isS_z (u1 d hd)
      walk_at "sy"
      refine X_F (shuffled_ok rfl ht1 u1 z2 (by omega) fun zs t2 e1 e2 e3 ht2 => ?_)
      walk_at "sy"
      refine X_F (draw_ok rfl ht2 (by decide) fun i t3 ht3 i0 i1 => ?_)
      have z3 : frzs (cutA zs none (some (1 + i))) = true := frzs_all fun d hd => frzs_mem e2 d (mem_cut hd)
      walk_at "sy"
      exact ⟨_, _, rfl, ht3, fun y hy => e1 y (mem_cut hy), cut_ne (by omega) fun q => u2 (List.eq_nil_of_length_eq_zero (by rw [← e3, q]; rfl)), Nat.le_trans len_cut (by omega)⟩
    obtain ⟨t, ts, rfl, ht, u1, u2, u3⟩ := h
    have z2 : frzs ts = true := frzs_all fun d hd => isS_z (u1 d hd)
    have q1 : small62 many = true := v_ss (by omega) (by omega)
    walk_at "sx"
    refine S_for2 ?_
    walk_at "sy"
    refine lpS (fun ds e => (∀ d ∈ ds, IsI d) ∧ ∃ t told y z, e = [some t, some (.bl true), some (.int many), some (.lst false ns), some (.lst false ts), some (.lst true told), y, z] ∧ Tp t ∧ (∀ d ∈ told, Kp true 300 d) ∧ told.length + ds.length ≤ 100 ∧ (told ≠ [] ∨ ds ≠ [])) ⟨fun d hd => by obtain ⟨i, rfl, _⟩ := rng_mem hd; exact ⟨i, rfl⟩, t, [], none, none, rfl, ht, fun d hd => (nomatch hd), by rw [rng_len]; show 0 + _ ≤ 100; omega, .inr fun q => ?_⟩ (fun d rest e h => ?_) (fun e h => ?_)
    · have := congrArg List.length q
      rw [rng_len] at this
      simp only [List.length_nil] at this
      omega
    · obtain ⟨h1, t, told, y, z, rfl, ht, h2, h3, h4⟩ := h
      rw [List.length_cons] at h3
      obtain ⟨i, rfl⟩ := h1 d List.mem_cons_self
      have hn : 0 < (ns.length : Int) := by have := List.length_pos_iff.mpr g2; omega
      have m0 := Int.emod_nonneg i (Int.ne_of_gt hn)
      have m1 := Int.emod_lt_of_pos i hn
      have hi : (i % (ns.length : Int)).toNat < ns.length := by omega
      have p1 : ixD (.lst false ns) (.int (i % (ns.length : Int))) = some ns[(i % (ns.length : Int)).toNat] := ix_l m0 (List.getElem?_eq_getElem hi)
      have k1 := g1 _ (List.getElem_mem hi)
      obtain ⟨s, e1, l1⟩ := k1
      rw [e1] at p1
      walk_at "sy"
      refine X_F (pick_ok rfl ht u2 (by omega) z2 fun x t2 hx ht2 => ?_)
      obtain ⟨u, rfl, l2⟩ := u1 x hx
      have hk : Kp true 300 (.tup [.str u, .str s]) := .inr ⟨rfl, u, s, rfl, l2, l1⟩
      have q2 := kp_in (neg := true) (o := true) hk h2
      have q3 : gAppend told [.tup [.str u, .str s]] = some (.non, told ++ [.tup [.str u, .str s]]) := v_app (by omega)
      walk_at "sy"
      cases hq : (told.any fun z => z.eqv (.tup [.str u, .str s])) with
      | true =>
        walk_at "sx"
        refine ⟨fun d hd => h1 d (List.mem_cons_of_mem _ hd), _, told, _, _, rfl, ht2, h2, by omega, .inl fun h => ?_⟩
        rw [h] at hq
        cases hq
      | false =>
        walk_at "sy"
        exact ⟨fun d hd => h1 d (List.mem_cons_of_mem _ hd), _, _, _, _, rfl, ht2, rows_turn h2 hk, by rw [List.length_append]; simp only [List.length_cons, List.length_nil]; omega, .inl (List.append_ne_nil_of_right_ne_nil _ (List.cons_ne_nil _ _))⟩
    · obtain ⟨h1, t, told, y, z, rfl, ht, h2, h3, h4⟩ := h
      walk_at "sx"
      exact k _ _ h2 (h4.resolve_right fun h => h rfl) (by simpa using h3) ht
end K00
end

section
set_option linter.all false
set_option maxRecDepth 100000
set_option maxHeartbeats 8000000
namespace K00
open PySem L2 Fw
local macro_rules | `(tactic| walk_at "sx") => `(tactic| simp -dsimp only [↓E_c, ↓E_var, ↓E_frz, ↓E_mov, ↓A_io, ↓E_chk, ↓E_give, ↓E_bin, ↓E_un, ↓E_tup, ↓E_lst, ↓A_nil, ↓A_cons, ↓A_arg, ↓E_if, ↓S_if, ↓T_and, ↓T_or, ↓T_test, ↓T_tru, ↓T_not, ↓T_yes, ↓E_andV, ↓E_orV, ↓E_notV, ↓E_mt, ↓E_sl, ↓O_no, ↓O_part, ↓S_skip, ↓S_break, ↓S_cont, ↓S_retN, ↓S_seq, ↓S_drop, ↓S_ret, ↓S_asg, ↓E_mut, ↓S_setS, ↓E_call, ↓I_seq, ↓I_enum, ↓I_rng1, ↓I_rng2, ↓E_lstRg, ↓opt_some, ↓br_t, ↓br_f, ↓br_d, ↓br_n, ↓gg_tup, ↓ggs_cons, ↓ggs_nil, ↓fr_i, ↓fr_s, ↓fr_b, ↓fr_n, ↓at_0, ↓at_1, ↓at_2, ↓at_3, ↓at_4, ↓at_5, ↓at_6, ↓at_7, ↓at_8, ↓at_9, ↓at_10, ↓at_11, ↓at_12, ↓at_13, ↓at_14, ↓at_15, ↓at_16, ↓at_17, ↓at_18, ↓at_19, ↓at_20, ↓at_21, ↓tak_0, ↓tak_1, ↓tak_2, ↓tak_3, ↓tak_4, ↓tak_5, ↓tak_6, ↓tak_7, ↓tak_8, ↓tak_9, ↓tak_10, ↓tak_11, ↓tak_12, ↓tak_13, ↓tak_14, ↓tak_15, ↓tak_16, ↓tak_17, ↓tak_18, ↓tak_19, ↓tak_20, ↓tak_21, ↓put_0, ↓put_1, ↓put_2, ↓put_3, ↓put_4, ↓put_5, ↓put_6, ↓put_7, ↓put_8, ↓put_9, ↓put_10, ↓put_11, ↓put_12, ↓put_13, ↓put_14, ↓put_15, ↓put_16, ↓put_17, ↓put_18, ↓put_19, ↓put_20, ↓put_21, ↓own_0, ↓own_1, ↓own_2, ↓own_3, ↓own_4, ↓own_5, ↓own_6, ↓own_7, ↓own_8, ↓own_9, ↓own_10, ↓own_11, ↓own_12, ↓own_13, ↓own_14, ↓own_15, ↓own_16, ↓own_17, ↓own_18, ↓own_19, ↓own_20, ↓own_21, ↓isl_0, ↓isl_1, ↓isl_2, ↓isl_3, ↓isl_4, ↓isl_5, ↓isl_6, ↓isl_7, ↓isl_8, ↓isl_9, ↓isl_10, ↓isl_11, ↓isl_12, ↓isl_13, ↓isl_14, ↓isl_15, ↓isl_16, ↓isl_17, ↓isl_18, ↓isl_19, ↓isl_20, ↓isl_21, ↓gg_0, ↓gg_1, ↓gg_2, ↓gg_3, ↓gg_4, ↓gg_5, ↓gg_6, ↓gg_7, ↓gg_8, ↓gg_9, ↓gg_10, ↓gg_11, ↓gg_12, ↓gg_13, ↓gg_14, ↓gg_15, ↓gg_16, ↓gg_17, ↓gg_18, ↓gg_19, ↓gg_20, ↓gg_21, ↓po_0, ↓po_1, ↓po_2, ↓po_3, ↓po_4, ↓po_5, ↓po_6, ↓po_7, ↓po_8, ↓po_9, ↓po_10, ↓po_11, ↓po_12, ↓po_13, ↓po_14, ↓po_15, ↓po_16, ↓po_17, ↓po_18, ↓po_19, ↓po_20, ↓po_21, ↓and2_true, ↓O_0, ↓O_1, ↓wip_nil, ↓wip_cons, ↓X_fn, ↓mk_cons, ↓mk_nil, ↓mk_0, ↓cp_0, ↓cp_1, ↓cp_2, ↓cp_3, ↓cp_4, ↓cp_5, ↓cp_6, ↓cp_7, ↓cp_8, ↓cp_9, ↓cq_0, ↓cq_1, ↓cq_2, ↓cq_3, ↓cq_4, ↓cq_5, ↓cq_6, ↓cq_7, ↓cq_8, ↓cq_9, and2_t, v_ixN, fr_of, fr_l2, z_int, z_str, z_bl, z_non, z_tup, z_lst, z_nil, z_cons, v_add, v_sub, v_mulr, v_mull, v_div, v_neg, v_int, v_intb, v_abs, v_isB, v_isI, v_truB, v_isn, v_notn, v_len_t, v_len_l, v_len_s, v_max, v_min, v_app, v_tup_n, v_lst_n, fr_l0, v_tup_t, v_tup_l, v_lst_t, v_lst_l, v_sl_t, v_sl_l, v_sl_s, v_cat_s, v_cat_t, v_cat_l, v_it_t, v_it_l, v_sq_t, v_sq_l, v_okl, v_oks, v_ss, v_big, v_big2, v_if_t, v_if_f, v_eq_iS, v_ne_iS, v_eq_sS, v_eq_ii, v_ne_ii, v_eq_ss, v_ne_ss, v_eq_bb, v_ne_bb, v_in_l, v_in_t, okP_int, okP_str, okP_bl, okP_non, n_int, n_str, n_bl, n_non, n_nil, n_cons, q_ss, q_ii, List.any_cons, List.any_nil, beq_self_eq_true, beq_true, beq_false, Bool.true_beq, Bool.false_beq, Bool.or_false, Bool.or_true, Bool.false_or, Bool.true_or, lt_ii, gt_ii, le_ii, ge_ii, mod_ii, in_non, in_bl, in_int, in_str, in_tup, in_lst, v_i_tuple_non, v_i_tuple_bl, v_i_tuple_int, v_i_tuple_str, v_i_tuple_tup, v_i_tuple_lst, v_i_list_non, v_i_list_bl, v_i_list_int, v_i_list_str, v_i_list_tup, v_i_list_lst, v_i_str_non, v_i_str_bl, v_i_str_int, v_i_str_str, v_i_str_tup, v_i_str_lst, v_i_int_non, v_i_int_bl, v_i_int_int, v_i_int_str, v_i_int_tup, v_i_int_lst, v_i_bool_non, v_i_bool_bl, v_i_bool_int, v_i_bool_str, v_i_bool_tup, v_i_bool_lst, v_ixt_0, v_ixl_0, v_set_0, v_ixN_0, v_ixt_1, v_ixl_1, v_set_1, v_ixN_1, v_ixt_2, v_ixl_2, v_set_2, v_ixN_2, v_ixt_3, v_ixl_3, v_set_3, v_ixN_3, v_ixt_4, v_ixl_4, v_set_4, v_ixN_4, v_ixt_5, v_ixl_5, v_set_5, v_ixN_5, v_ixt_6, v_ixl_6, v_set_6, v_ixN_6, v_ixt_7, v_ixl_7, v_set_7, v_ixN_7, v_ixt_8, v_ixl_8, v_set_8, v_ixN_8, v_ixt_9, v_ixl_9, v_set_9, v_ixN_9, v_ixt_10, v_ixl_10, v_set_10, v_ixN_10, v_ixt_11, v_ixl_11, v_set_11, v_ixN_11, v_ixt_12, v_ixl_12, v_set_12, v_ixN_12, Bool.and_self, Bool.and_true, Bool.true_and, Bool.not_true, Bool.not_false, true_and, and_true, decide_true, decide_false, List.length_cons, List.length_nil, Nat.reduceAdd, Nat.reduceLeDiff, Int.reduceLT, Int.reduceLE, Int.reduceNeg, Int.reduceEq, Int.reduceAdd, Int.reduceSub, ofStr_inj, String.reduceEq, eq_self, ne_eq, not_true_eq_false, not_false_eq_true, forall_const, true_implies, false_implies, imp_self, implies_true, Int.reduceToNat, Nat.reduceLT, List.length_map, reduceIte, Bool.false_eq_true, Bool.true_eq_false])
local macro_rules | `(tactic| walk_at "sy") => `(tactic| simp -dsimp only [↓E_c, ↓E_var, ↓E_frz, ↓E_mov, ↓A_io, ↓E_chk, ↓E_give, ↓E_bin, ↓E_un, ↓E_tup, ↓E_lst, ↓A_nil, ↓A_cons, ↓A_arg, ↓E_if, ↓S_if, ↓T_and, ↓T_or, ↓T_test, ↓T_tru, ↓T_not, ↓T_yes, ↓E_andV, ↓E_orV, ↓E_notV, ↓E_mt, ↓E_sl, ↓O_no, ↓O_part, ↓S_skip, ↓S_break, ↓S_cont, ↓S_retN, ↓S_seq, ↓S_drop, ↓S_ret, ↓S_asg, ↓E_mut, ↓S_setS, ↓E_call, ↓I_seq, ↓I_enum, ↓I_rng1, ↓I_rng2, ↓E_lstRg, ↓opt_some, ↓br_t, ↓br_f, ↓br_d, ↓br_n, ↓gg_tup, ↓ggs_cons, ↓ggs_nil, ↓fr_i, ↓fr_s, ↓fr_b, ↓fr_n, ↓at_0, ↓at_1, ↓at_2, ↓at_3, ↓at_4, ↓at_5, ↓at_6, ↓at_7, ↓at_8, ↓at_9, ↓at_10, ↓at_11, ↓at_12, ↓at_13, ↓at_14, ↓at_15, ↓at_16, ↓at_17, ↓at_18, ↓at_19, ↓at_20, ↓at_21, ↓tak_0, ↓tak_1, ↓tak_2, ↓tak_3, ↓tak_4, ↓tak_5, ↓tak_6, ↓tak_7, ↓tak_8, ↓tak_9, ↓tak_10, ↓tak_11, ↓tak_12, ↓tak_13, ↓tak_14, ↓tak_15, ↓tak_16, ↓tak_17, ↓tak_18, ↓tak_19, ↓tak_20, ↓tak_21, ↓put_0, ↓put_1, ↓put_2, ↓put_3, ↓put_4, ↓put_5, ↓put_6, ↓put_7, ↓put_8, ↓put_9, ↓put_10, ↓put_11, ↓put_12, ↓put_13, ↓put_14, ↓put_15, ↓put_16, ↓put_17, ↓put_18, ↓put_19, ↓put_20, ↓put_21, ↓own_0, ↓own_1, ↓own_2, ↓own_3, ↓own_4, ↓own_5, ↓own_6, ↓own_7, ↓own_8, ↓own_9, ↓own_10, ↓own_11, ↓own_12, ↓own_13, ↓own_14, ↓own_15, ↓own_16, ↓own_17, ↓own_18, ↓own_19, ↓own_20, ↓own_21, ↓isl_0, ↓isl_1, ↓isl_2, ↓isl_3, ↓isl_4, ↓isl_5, ↓isl_6, ↓isl_7, ↓isl_8, ↓isl_9, ↓isl_10, ↓isl_11, ↓isl_12, ↓isl_13, ↓isl_14, ↓isl_15, ↓isl_16, ↓isl_17, ↓isl_18, ↓isl_19, ↓isl_20, ↓isl_21, ↓gg_0, ↓gg_1, ↓gg_2, ↓gg_3, ↓gg_4, ↓gg_5, ↓gg_6, ↓gg_7, ↓gg_8, ↓gg_9, ↓gg_10, ↓gg_11, ↓gg_12, ↓gg_13, ↓gg_14, ↓gg_15, ↓gg_16, ↓gg_17, ↓gg_18, ↓gg_19, ↓gg_20, ↓gg_21, ↓po_0, ↓po_1, ↓po_2, ↓po_3, ↓po_4, ↓po_5, ↓po_6, ↓po_7, ↓po_8, ↓po_9, ↓po_10, ↓po_11, ↓po_12, ↓po_13, ↓po_14, ↓po_15, ↓po_16, ↓po_17, ↓po_18, ↓po_19, ↓po_20, ↓po_21, ↓and2_true, ↓O_0, ↓O_1, ↓wip_nil, ↓wip_cons, ↓X_fn, ↓mk_cons, ↓mk_nil, ↓mk_0, ↓cp_0, ↓cp_1, ↓cp_2, ↓cp_3, ↓cp_4, ↓cp_5, ↓cp_6, ↓cp_7, ↓cp_8, ↓cp_9, ↓cq_0, ↓cq_1, ↓cq_2, ↓cq_3, ↓cq_4, ↓cq_5, ↓cq_6, ↓cq_7, ↓cq_8, ↓cq_9, and2_t, v_ixN, fr_of, fr_l2, z_int, z_str, z_bl, z_non, z_tup, z_lst, z_nil, z_cons, v_add, v_sub, v_mulr, v_mull, v_div, v_neg, v_int, v_intb, v_abs, v_isB, v_isI, v_truB, v_isn, v_notn, v_len_t, v_len_l, v_len_s, v_max, v_min, v_app, v_tup_n, v_lst_n, fr_l0, v_tup_t, v_tup_l, v_lst_t, v_lst_l, v_sl_t, v_sl_l, v_sl_s, v_cat_s, v_cat_t, v_cat_l, v_it_t, v_it_l, v_sq_t, v_sq_l, v_okl, v_oks, v_ss, v_big, v_big2, v_if_t, v_if_f, v_eq_iS, v_ne_iS, v_eq_sS, v_eq_ii, v_ne_ii, v_eq_ss, v_ne_ss, v_eq_bb, v_ne_bb, v_in_l, v_in_t, okP_int, okP_str, okP_bl, okP_non, n_int, n_str, n_bl, n_non, n_nil, n_cons, q_ss, q_ii, List.any_cons, List.any_nil, beq_self_eq_true, beq_true, beq_false, Bool.true_beq, Bool.false_beq, Bool.or_false, Bool.or_true, Bool.false_or, Bool.true_or, lt_ii, gt_ii, le_ii, ge_ii, mod_ii, in_non, in_bl, in_int, in_str, in_tup, in_lst, v_i_tuple_non, v_i_tuple_bl, v_i_tuple_int, v_i_tuple_str, v_i_tuple_tup, v_i_tuple_lst, v_i_list_non, v_i_list_bl, v_i_list_int, v_i_list_str, v_i_list_tup, v_i_list_lst, v_i_str_non, v_i_str_bl, v_i_str_int, v_i_str_str, v_i_str_tup, v_i_str_lst, v_i_int_non, v_i_int_bl, v_i_int_int, v_i_int_str, v_i_int_tup, v_i_int_lst, v_i_bool_non, v_i_bool_bl, v_i_bool_int, v_i_bool_str, v_i_bool_tup, v_i_bool_lst, v_ixt_0, v_ixl_0, v_set_0, v_ixN_0, v_ixt_1, v_ixl_1, v_set_1, v_ixN_1, v_ixt_2, v_ixl_2, v_set_2, v_ixN_2, v_ixt_3, v_ixl_3, v_set_3, v_ixN_3, v_ixt_4, v_ixl_4, v_set_4, v_ixN_4, v_ixt_5, v_ixl_5, v_set_5, v_ixN_5, v_ixt_6, v_ixl_6, v_set_6, v_ixN_6, v_ixt_7, v_ixl_7, v_set_7, v_ixN_7, v_ixt_8, v_ixl_8, v_set_8, v_ixN_8, v_ixt_9, v_ixl_9, v_set_9, v_ixN_9, v_ixt_10, v_ixl_10, v_set_10, v_ixN_10, v_ixt_11, v_ixl_11, v_set_11, v_ixN_11, v_ixt_12, v_ixl_12, v_set_12, v_ixN_12, Bool.and_self, Bool.and_true, Bool.true_and, Bool.not_true, Bool.not_false, true_and, and_true, decide_true, decide_false, List.length_cons, List.length_nil, Nat.reduceAdd, Nat.reduceLeDiff, Int.reduceLT, Int.reduceLE, Int.reduceNeg, Int.reduceEq, Int.reduceAdd, Int.reduceSub, ofStr_inj, String.reduceEq, eq_self, ne_eq, not_true_eq_false, not_false_eq_true, forall_const, true_implies, false_implies, imp_self, implies_true, Int.reduceToNat, Nat.reduceLT, List.length_map, reduceIte, Bool.false_eq_true, Bool.true_eq_false, *])
local macro_rules | `(tactic| walk_at "fn") => `(tactic| ((with_reducible apply F_env); (· repeat constructor)))
theorem next_eq {b : Bool} {x : D} (h : Kp b 300 x) : ∃ y, Kp b 301 y ∧ Fn__law_a_next [x] = .ok (y, []) ∧ Fn_successor_of [x] = .ok (y, []) := by
  have l2 : (" " : Str).length = 1 := rfl
  rcases h with ⟨hb, s, rfl, l⟩ | ⟨hb, s, u, rfl, l, l3⟩
  · have a1 : addD (.str s) (.str " ") = some (.str (s ++ " ")) := v_cat_s (by omega)
    refine ⟨.str (s ++ " "), .inl ⟨hb, _, rfl, by rw [len_cat]; omega⟩, ok_eq2 ?_, ok_eq2 ?_⟩
    · unfold Fn__law_a_next B__law_a_next
      walk_at "fn"
      walk_at "sy"
    · unfold Fn_successor_of B_successor_of
      walk_at "fn"
      walk_at "sy"
  · have a1 : addD (.str u) (.str " ") = some (.str (u ++ " ")) := v_cat_s (by omega)
    refine ⟨.tup [.str s, .str (u ++ " ")], .inr ⟨hb, _, _, rfl, by omega, by rw [len_cat]; omega⟩, ok_eq2 ?_, ok_eq2 ?_⟩
    · unfold Fn__law_a_next B__law_a_next
      walk_at "fn"
      walk_at "sy"
    · unfold Fn_successor_of B_successor_of
      walk_at "fn"
      walk_at "sy"
theorem ends_ok {b : Bool} {ks : List D} {P : D → List D → Prop} {as : List D} (e0 : as = [.lst false ks]) (hk : ∀ y ∈ ks, Kp b 300 y) (hn : ks ≠ []) (hl : ks.length ≤ 100) (k : ∀ ys, (∀ y ∈ ys, Kp b 301 y) → ys ≠ [] → ys.length ≤ 200 → P (.lst true ys) []) : OkF Fn__law_a_ends as P := by
  subst e0
  have z1 : frzs ks = true := frzs_all fun d hd => (hk d hd).frz
  unfold Fn__law_a_ends B__law_a_ends
  walk_at "fn"
  walk_at "sx"
  refine S_for2 ?_
  walk_at "sy"
  refine lpS (fun ds e => (∀ d ∈ ds, Kp b 300 d) ∧ ∃ told y z, e = [some (.lst false ks), some (.lst true told), y, z] ∧ (∀ d ∈ told, Kp b 301 d) ∧ told.length + 2 * ds.length ≤ 200 ∧ (told ≠ [] ∨ ds ≠ [])) ⟨hk, [], none, none, rfl, fun d hd => (nomatch hd), by show 0 + _ ≤ 200; omega, .inr hn⟩ (fun d rest e h => ?_) (fun e h => ?_)
  · obtain ⟨h1, told, y, z, rfl, h2, h3, h4⟩ := h
    rw [List.length_cons] at h3
    have hd := h1 d List.mem_cons_self
    obtain ⟨d2, hd2, n1, _⟩ := next_eq hd
    have z2 := hd.frz
    have z3 := hd2.frz
    walk_at "sx"
    refine S_for2 ?_
    walk_at "sy"
    rw [X_eq n1]
    walk_at "sy"
    refine lpS (fun ds e => (∀ d ∈ ds, Kp b 301 d) ∧ ∃ told z, e = [some (.lst false ks), some (.lst true told), some d, z] ∧ (∀ d ∈ told, Kp b 301 d) ∧ told.length + ds.length + 2 * rest.length ≤ 200 ∧ (told ≠ [] ∨ ds ≠ [])) ⟨fun x hx => ?_, told, _, rfl, h2, by simp only [List.length_cons, List.length_nil]; omega, .inr (List.cons_ne_nil _ _)⟩ (fun d3 rest2 e h => ?_) (fun e h => ?_)
    · simp only [List.mem_cons, List.not_mem_nil, or_false] at hx
      rcases hx with rfl | rfl
      · exact hd.mono (by omega)
      · exact hd2
    · obtain ⟨g1, told, z, rfl, g2, g3, g4⟩ := h
      rw [List.length_cons] at g3
      have hd3 := g1 d3 List.mem_cons_self
      have z4 := hd3.frz
      have q1 := kp_in (neg := true) (o := true) hd3 g2
      have q2 : gAppend told [d3] = some (.non, told ++ [d3]) := v_app (by omega)
      walk_at "sy"
      cases hq : (told.any fun z => z.eqv d3) with
      | true =>
        walk_at "sx"
        refine ⟨fun d hd => g1 d (List.mem_cons_of_mem _ hd), told, _, rfl, g2, by omega, .inl fun h => ?_⟩
        rw [h] at hq
        cases hq
      | false =>
        walk_at "sy"
        exact ⟨fun d hd => g1 d (List.mem_cons_of_mem _ hd), _, _, rfl, rows_turn g2 hd3, by rw [List.length_append]; simp only [List.length_cons, List.length_nil]; omega, .inl (List.append_ne_nil_of_right_ne_nil _ (List.cons_ne_nil _ _))⟩
    · obtain ⟨g1, told, z, rfl, g2, g3, g4⟩ := h
      exact ⟨fun d hd => h1 d (List.mem_cons_of_mem _ hd), told, _, _, rfl, g2, by simpa using g3, .inl (g4.resolve_right fun h => h rfl)⟩
  · obtain ⟨h1, told, y, z, rfl, h2, h3, h4⟩ := h
    have q3 : sortedD (.lst true told) = some (.lst true (srtD told)) := kp_sorted h2 (by omega)
    walk_at "sy"
    refine k _ (fun y hy => h2 y (mem_srt.mp hy)) (fun q => ?_) (by rw [len_srt]; omega)
    have := congrArg List.length q
    rw [len_srt] at this
    exact (h4.resolve_right fun h => h rfl) (List.eq_nil_of_length_eq_zero this)
def Iv (b : Bool) (x : D) : Prop := ∃ lo hi, x = .tup [lo, hi] ∧ Kp b 301 lo ∧ (hi = .non ∨ (Kp b 301 hi ∧ ltB lo hi = true))
def Iw (b : Bool) (x : D) : Prop := ∃ lo hi, x = .tup [lo, hi] ∧ Kp b 301 lo ∧ (hi = .non ∨ Kp b 301 hi)
theorem Iv.w {b : Bool} {x : D} (h : Iv b x) : Iw b x := by
  obtain ⟨lo, hi, rfl, h1, h2⟩ := h
  exact ⟨lo, hi, rfl, h1, h2.elim .inl fun q => .inr q.1⟩
theorem Iw.frz {b : Bool} {x : D} (h : Iw b x) : x.frz = true := by
  obtain ⟨lo, hi, rfl, h1, h2⟩ := h
  have z2 : hi.frz = true := by
    rcases h2 with rfl | h2
    · rfl
    · exact h2.frz
  simp [D.frz, frzs, h1.frz, z2]
def Es (b : Bool) (es : List D) : Prop := (∀ y ∈ es, Kp b 301 y) ∧ es ≠ [] ∧ es.length ≤ 200
theorem Es.frz {b : Bool} {es : List D} (h : Es b es) : frzs es = true := frzs_all fun d hd => (h.1 d hd).frz
theorem interval_ok {b : Bool} {t : D} {es : List D} {P : D → List D → Prop} {as : List D} (e0 : as = [t, .lst false es]) (h : Tp t) (he : Es b es) (k : ∀ x t', Iv b x → Tp t' → P x [t']) : OkF Fn__law_a_interval as P := by
  subst e0
  have z1 := he.frz
  have n1 := he.2.1
  have n2 := he.2.2
  unfold Fn__law_a_interval B__law_a_interval
  walk_at "fn"
  refine S_cut (fun e => ∃ t lo, e = [some t, some (.lst false es), some lo, none, none] ∧ Tp t ∧ Kp b 301 lo) ?_ fun e h => ?_
  · walk_at "sy"
    refine X_F (pick_ok rfl h n1 (by omega) z1 fun x t2 hx ht2 => ?_)
    have hk := he.1 x hx
    have z2 := hk.frz
    walk_at "sy"
    exact ⟨_, _, rfl, ht2, hk⟩
  obtain ⟨t, lo, rfl, ht, hlo⟩ := h
  have z2 := hlo.frz
  refine S_cut (fun e => ∃ hs, e = [some t, some (.lst false es), some lo, some (.lst false hs), none] ∧ (∀ d ∈ hs, Kp b 301 d ∧ ltB lo d = true) ∧ hs.length ≤ 200) ?_ fun e h => ?_
  · walk_at "sx"
    refine E_lc ?_
    walk_at "sy"
    refine lpE (fun ds acc e => (∀ d ∈ ds, Kp b 301 d) ∧ e = [some t, some (.lst false es), some lo, none, none] ∧ (∀ d ∈ acc, Kp b 301 d ∧ ltB lo d = true) ∧ acc.length + ds.length ≤ 200) ?_ (fun d rest acc e h => ?_) (fun acc e h => ?_)
    · walk_at "sx"
      exact ⟨he.1, fun d hd => (nomatch hd), by show 0 + _ ≤ 200; omega⟩
    · obtain ⟨h1, rfl, h2, h3⟩ := h
      rw [List.length_cons] at h3
      have hd := h1 d List.mem_cons_self
      have z3 := hd.frz
      have c1 : ltD lo d = some (.bl (ltB lo d)) := kp_cmp hlo hd
      have q2 : (acc.length < big) = True := v_big2 (by omega)
      walk_at "sy"
      cases hq : ltB lo d with
      | true =>
        walk_at "sy"
        exact ⟨fun d hd => h1 d (List.mem_cons_of_mem _ hd), rows_turn h2 ⟨hd, hq⟩, by rw [List.length_append]; simp only [List.length_cons, List.length_nil]; omega⟩
      | false =>
        walk_at "sy"
        exact ⟨fun d hd => h1 d (List.mem_cons_of_mem _ hd), h2, by omega⟩
    · obtain ⟨h1, rfl, h2, h3⟩ := h
      have z3 : frzs acc = true := frzs_all fun d hd => (h2 d hd).1.frz
      walk_at "sy"
      exact ⟨_, rfl, h2, by simpa using h3⟩
  obtain ⟨hs, rfl, h2, h3⟩ := h
  have z3 : frzs hs = true := frzs_all fun d hd => (h2 d hd).1.frz
  by_cases hne : (hs.length : Int) = 0
  · walk_at "sy"
    exact k _ _ ⟨_, _, rfl, hlo, .inl rfl⟩ ht
  · walk_at "sy"
    refine X_F (draw_ok rfl ht (by decide) fun i t1 ht1 i0 i1 => ?_)
    walk_at "sy"
    refine ⟨fun _ => k _ _ ⟨_, _, rfl, hlo, .inl rfl⟩ ht1, fun _ => ?_⟩
    refine X_F (pick_ok rfl ht1 (fun q => hne (by rw [q]; rfl)) (by omega) z3 fun x t2 hx ht2 => ?_)
    have hk := h2 x hx
    have z4 := hk.1.frz
    walk_at "sy"
    exact k _ _ ⟨_, _, rfl, hlo, .inr hk⟩ ht2
theorem any_ok {b : Bool} {t : D} {es : List D} {P : D → List D → Prop} {as : List D} (e0 : as = [t, .lst false es]) (h : Tp t) (he : Es b es) (k : ∀ x t', Iw b x → Tp t' → P x [t']) : OkF Fn__law_any as P := by
  subst e0
  have z1 := he.frz
  have n1 := he.2.1
  have n2 := he.2.2
  unfold Fn__law_any B__law_any
  walk_at "fn"
  walk_at "sy"
  refine X_F (pick_ok rfl h n1 (by omega) z1 fun x t2 hx ht2 => ?_)
  have z2 := (he.1 x hx).frz
  walk_at "sy"
  refine X_F (pick_ok rfl ht2 n1 (by omega) z1 fun x3 t3 hx3 ht3 => ?_)
  have z3 := (he.1 x3 hx3).frz
  walk_at "sy"
  refine X_F (pick_ok rfl ht3 n1 (by omega) z1 fun x4 t4 hx4 ht4 => ?_)
  have z4 := (he.1 x4 hx4).frz
  walk_at "sy"
  refine X_F (pick_ok rfl ht4 (List.cons_ne_nil _ _) (show 4 < 1000000 by decide) (by simp [frzs, z2, z3, z4, D.frz]) fun x5 t5 hx5 ht5 => ?_)
  have hk : x5 = .non ∨ Kp b 301 x5 := by
    simp only [List.mem_cons, List.not_mem_nil, or_false] at hx5
    rcases hx5 with rfl | rfl | rfl | rfl
    · exact .inl rfl
    · exact .inr (he.1 _ hx)
    · exact .inr (he.1 _ hx3)
    · exact .inr (he.1 _ hx4)
  have z5 : x5.frz = true := by
    rcases hk with rfl | hk
    · rfl
    · exact hk.frz
  walk_at "sy"
  exact k _ _ ⟨_, _, rfl, he.1 x hx, hk⟩ ht5
theorem beside_ok {b : Bool} {t a : D} {es : List D} {P : D → List D → Prop} {as : List D} (e0 : as = [t, a, .lst false es]) (h : Tp t) (ha : Iv b a) (he : Es b es) (k : ∀ x t', Iv b x → Tp t' → P x [t']) : OkF Fn__law_beside as P := by
  subst e0
  have z0 := ha.w.frz
  obtain ⟨lo, hi, rfl, hlo, hhi⟩ := ha
  have z1 := he.frz
  have n1 := he.2.1
  have n2 := he.2.2
  have z2 := hlo.frz
  have z3 : hi.frz = true := by
    rcases hhi with rfl | hhi
    · rfl
    · exact hhi.1.frz
  unfold Fn__law_beside B__law_beside
  walk_at "fn"
  refine S_cut (fun e => ∃ t i, e = [some t, some (.tup [lo, hi]), some (.lst false es), some (.int i), none, none, none] ∧ Tp t ∧ 0 ≤ i) ?_ fun e h => ?_
  · walk_at "sx"
    refine X_F (draw_ok rfl h (by decide) fun i t1 ht1 i0 i1 => ?_)
    walk_at "sx"
    exact ⟨_, _, rfl, ht1, i0⟩
  obtain ⟨t, i, rfl, ht, hi0⟩ := h
  refine S_cut (fun e => e = [some t, some (.tup [lo, hi]), some (.lst false es), some (.int i), none, none, none]) ?_ fun e h => ?_
  · walk_at "sy"
    exact fun _ => k _ _ ⟨_, _, rfl, hlo, hhi⟩ ht
  subst h
  refine S_cut (fun e => e = [some t, some (.tup [lo, hi]), some (.lst false es), some (.int i), none, none, none]) ?_ fun e h => ?_
  · rcases hhi with rfl | ⟨hk, hlt⟩
    · walk_at "sy"
    · have e1 := hk.notN
      walk_at "sy"
      refine fun hi1 => ?_
      subst hi1
      refine E_lc ?_
      walk_at "sy"
      refine lpE (fun ds acc e => (∀ d ∈ ds, Kp b 301 d) ∧ e = [some t, some (.tup [lo, hi]), some (.lst false es), some (.int 1), none, none, none] ∧ (∀ d ∈ acc, Kp b 301 d ∧ ltB hi d = true) ∧ acc.length + ds.length ≤ 200) ?_ (fun d rest acc e h => ?_) (fun acc e h => ?_)
      · walk_at "sx"
        exact ⟨he.1, fun d hd => (nomatch hd), by show 0 + _ ≤ 200; omega⟩
      · obtain ⟨h1, rfl, h2, h3⟩ := h
        rw [List.length_cons] at h3
        have hd := h1 d List.mem_cons_self
        have z3 := hd.frz
        have c1 : ltD hi d = some (.bl (ltB hi d)) := kp_cmp hk hd
        have q2 : (acc.length < big) = True := v_big2 (by omega)
        walk_at "sy"
        cases hq : ltB hi d with
        | true =>
          walk_at "sy"
          exact ⟨fun d hd => h1 d (List.mem_cons_of_mem _ hd), rows_turn h2 ⟨hd, hq⟩, by rw [List.length_append]; simp only [List.length_cons, List.length_nil]; omega⟩
        | false =>
          walk_at "sy"
          exact ⟨fun d hd => h1 d (List.mem_cons_of_mem _ hd), h2, by omega⟩
      · obtain ⟨h1, rfl, h2, h3⟩ := h
        have z4 : frzs acc = true := frzs_all fun d hd => (h2 d hd).1.frz
        have z5 : frzs (acc ++ [.non]) = true := frzs_snoc z4 rfl
        have h5 : acc.length ≤ 200 := by simpa using h3
        have h4 : acc.length + [D.non].length ≤ 1000000 := by show acc.length + 1 ≤ 1000000; omega
        have a1 : addD (.lst false acc) (.lst true [.non]) = some (.lst true (acc ++ [.non])) := v_cat_l h4 z4 rfl
        walk_at "sy"
        refine X_F (pick_ok rfl ht (List.append_ne_nil_of_right_ne_nil _ (List.cons_ne_nil _ _)) (by rw [List.length_append]; show acc.length + 1 < 1000000; omega) z5 fun x t2 hx ht2 => ?_)
        have hx2 : x = .non ∨ (Kp b 301 x ∧ ltB hi x = true) := by
          rcases List.mem_append.mp hx with q | q
          · exact .inr (h2 x q)
          · exact .inl (List.mem_singleton.mp q)
        have z6 : x.frz = true := by
          rcases hx2 with rfl | hx2
          · rfl
          · exact hx2.1.frz
        walk_at "sy"
        exact k _ _ ⟨_, _, rfl, hk, hx2⟩ ht2
  subst h
  refine S_cut (fun e => ∃ ls, e = [some t, some (.tup [lo, hi]), some (.lst false es), some (.int i), some (.lst false ls), none, none] ∧ (∀ d ∈ ls, Kp b 301 d ∧ ltB d lo = true) ∧ ls.length ≤ 200) ?_ fun e h => ?_
  · walk_at "sx"
    refine E_lc ?_
    walk_at "sy"
    refine lpE (fun ds acc e => (∀ d ∈ ds, Kp b 301 d) ∧ e = [some t, some (.tup [lo, hi]), some (.lst false es), some (.int i), none, none, none] ∧ (∀ d ∈ acc, Kp b 301 d ∧ ltB d lo = true) ∧ acc.length + ds.length ≤ 200) ?_ (fun d rest acc e h => ?_) (fun acc e h => ?_)
    · walk_at "sx"
      exact ⟨he.1, fun d hd => (nomatch hd), by show 0 + _ ≤ 200; omega⟩
    · obtain ⟨h1, rfl, h2, h3⟩ := h
      rw [List.length_cons] at h3
      have hd := h1 d List.mem_cons_self
      have z3 := hd.frz
      have c1 : ltD d lo = some (.bl (ltB d lo)) := kp_cmp hd hlo
      have q2 : (acc.length < big) = True := v_big2 (by omega)
      walk_at "sy"
      cases hq : ltB d lo with
      | true =>
        walk_at "sy"
        exact ⟨fun d hd => h1 d (List.mem_cons_of_mem _ hd), rows_turn h2 ⟨hd, hq⟩, by rw [List.length_append]; simp only [List.length_cons, List.length_nil]; omega⟩
      | false =>
        walk_at "sy"
        exact ⟨fun d hd => h1 d (List.mem_cons_of_mem _ hd), h2, by omega⟩
    · obtain ⟨h1, rfl, h2, h3⟩ := h
      have z3 : frzs acc = true := frzs_all fun d hd => (h2 d hd).1.frz
      walk_at "sy"
      exact ⟨_, rfl, h2, by simpa using h3⟩
  obtain ⟨ls, rfl, h2, h3⟩ := h
  have z4 : frzs ls = true := frzs_all fun d hd => (h2 d hd).1.frz
  refine S_cut (fun e => e = [some t, some (.tup [lo, hi]), some (.lst false es), some (.int i), some (.lst false ls), none, none]) ?_ fun e h => ?_
  · walk_at "sy"
    refine fun _ c => ?_
    refine X_F (pick_ok rfl ht (fun q => by rw [q] at c; exact absurd c (by decide)) (by omega) z4 fun x t2 hx ht2 => ?_)
    have hx2 := h2 x hx
    have z6 := hx2.1.frz
    walk_at "sy"
    exact k _ _ ⟨_, _, rfl, hx2.1, .inr ⟨hlo, hx2.2⟩⟩ ht2
  subst h
  walk_at "sy"
  refine X_F (interval_ok rfl ht he fun x t2 hx ht2 => ?_)
  walk_at "sx"
  exact k _ _ hx ht2
end K00
end

section
set_option linter.all false
set_option maxRecDepth 100000
set_option maxHeartbeats 8000000
namespace K00
open PySem L2 Fw
local macro_rules | `(tactic| walk_at "sx") => `(tactic| simp -dsimp only [↓E_c, ↓E_var, ↓E_frz, ↓E_mov, ↓A_io, ↓E_chk, ↓E_give, ↓E_bin, ↓E_un, ↓E_tup, ↓E_lst, ↓A_nil, ↓A_cons, ↓A_arg, ↓E_if, ↓S_if, ↓T_and, ↓T_or, ↓T_test, ↓T_tru, ↓T_not, ↓T_yes, ↓E_andV, ↓E_orV, ↓E_notV, ↓E_mt, ↓E_sl, ↓O_no, ↓O_part, ↓S_skip, ↓S_break, ↓S_cont, ↓S_retN, ↓S_seq, ↓S_drop, ↓S_ret, ↓S_asg, ↓E_mut, ↓S_setS, ↓E_call, ↓I_seq, ↓I_enum, ↓I_rng1, ↓I_rng2, ↓E_lstRg, ↓opt_some, ↓br_t, ↓br_f, ↓br_d, ↓br_n, ↓gg_tup, ↓ggs_cons, ↓ggs_nil, ↓fr_i, ↓fr_s, ↓fr_b, ↓fr_n, ↓at_0, ↓at_1, ↓at_2, ↓at_3, ↓at_4, ↓at_5, ↓at_6, ↓at_7, ↓at_8, ↓at_9, ↓at_10, ↓at_11, ↓at_12, ↓at_13, ↓at_14, ↓at_15, ↓at_16, ↓at_17, ↓at_18, ↓at_19, ↓at_20, ↓at_21, ↓tak_0, ↓tak_1, ↓tak_2, ↓tak_3, ↓tak_4, ↓tak_5, ↓tak_6, ↓tak_7, ↓tak_8, ↓tak_9, ↓tak_10, ↓tak_11, ↓tak_12, ↓tak_13, ↓tak_14, ↓tak_15, ↓tak_16, ↓tak_17, ↓tak_18, ↓tak_19, ↓tak_20, ↓tak_21, ↓put_0, ↓put_1, ↓put_2, ↓put_3, ↓put_4, ↓put_5, ↓put_6, ↓put_7, ↓put_8, ↓put_9, ↓put_10, ↓put_11, ↓put_12, ↓put_13, ↓put_14, ↓put_15, ↓put_16, ↓put_17, ↓put_18, ↓put_19, ↓put_20, ↓put_21, ↓own_0, ↓own_1, ↓own_2, ↓own_3, ↓own_4, ↓own_5, ↓own_6, ↓own_7, ↓own_8, ↓own_9, ↓own_10, ↓own_11, ↓own_12, ↓own_13, ↓own_14, ↓own_15, ↓own_16, ↓own_17, ↓own_18, ↓own_19, ↓own_20, ↓own_21, ↓isl_0, ↓isl_1, ↓isl_2, ↓isl_3, ↓isl_4, ↓isl_5, ↓isl_6, ↓isl_7, ↓isl_8, ↓isl_9, ↓isl_10, ↓isl_11, ↓isl_12, ↓isl_13, ↓isl_14, ↓isl_15, ↓isl_16, ↓isl_17, ↓isl_18, ↓isl_19, ↓isl_20, ↓isl_21, ↓gg_0, ↓gg_1, ↓gg_2, ↓gg_3, ↓gg_4, ↓gg_5, ↓gg_6, ↓gg_7, ↓gg_8, ↓gg_9, ↓gg_10, ↓gg_11, ↓gg_12, ↓gg_13, ↓gg_14, ↓gg_15, ↓gg_16, ↓gg_17, ↓gg_18, ↓gg_19, ↓gg_20, ↓gg_21, ↓po_0, ↓po_1, ↓po_2, ↓po_3, ↓po_4, ↓po_5, ↓po_6, ↓po_7, ↓po_8, ↓po_9, ↓po_10, ↓po_11, ↓po_12, ↓po_13, ↓po_14, ↓po_15, ↓po_16, ↓po_17, ↓po_18, ↓po_19, ↓po_20, ↓po_21, ↓and2_true, ↓O_0, ↓O_1, ↓wip_nil, ↓wip_cons, ↓X_fn, ↓mk_cons, ↓mk_nil, ↓mk_0, ↓cp_0, ↓cp_1, ↓cp_2, ↓cp_3, ↓cp_4, ↓cp_5, ↓cp_6, ↓cp_7, ↓cp_8, ↓cp_9, ↓cq_0, ↓cq_1, ↓cq_2, ↓cq_3, ↓cq_4, ↓cq_5, ↓cq_6, ↓cq_7, ↓cq_8, ↓cq_9, and2_t, v_ixN, fr_of, fr_l2, z_int, z_str, z_bl, z_non, z_tup, z_lst, z_nil, z_cons, v_add, v_sub, v_mulr, v_mull, v_div, v_neg, v_int, v_intb, v_abs, v_isB, v_isI, v_truB, v_isn, v_notn, v_len_t, v_len_l, v_len_s, v_max, v_min, v_app, v_tup_n, v_lst_n, fr_l0, v_tup_t, v_tup_l, v_lst_t, v_lst_l, v_sl_t, v_sl_l, v_sl_s, v_cat_s, v_cat_t, v_cat_l, v_it_t, v_it_l, v_sq_t, v_sq_l, v_okl, v_oks, v_ss, v_big, v_big2, v_if_t, v_if_f, v_eq_iS, v_ne_iS, v_eq_sS, v_eq_ii, v_ne_ii, v_eq_ss, v_ne_ss, v_eq_bb, v_ne_bb, v_in_l, v_in_t, okP_int, okP_str, okP_bl, okP_non, n_int, n_str, n_bl, n_non, n_nil, n_cons, q_ss, q_ii, List.any_cons, List.any_nil, beq_self_eq_true, beq_true, beq_false, Bool.true_beq, Bool.false_beq, Bool.or_false, Bool.or_true, Bool.false_or, Bool.true_or, lt_ii, gt_ii, le_ii, ge_ii, mod_ii, in_non, in_bl, in_int, in_str, in_tup, in_lst, v_i_tuple_non, v_i_tuple_bl, v_i_tuple_int, v_i_tuple_str, v_i_tuple_tup, v_i_tuple_lst, v_i_list_non, v_i_list_bl, v_i_list_int, v_i_list_str, v_i_list_tup, v_i_list_lst, v_i_str_non, v_i_str_bl, v_i_str_int, v_i_str_str, v_i_str_tup, v_i_str_lst, v_i_int_non, v_i_int_bl, v_i_int_int, v_i_int_str, v_i_int_tup, v_i_int_lst, v_i_bool_non, v_i_bool_bl, v_i_bool_int, v_i_bool_str, v_i_bool_tup, v_i_bool_lst, v_ixt_0, v_ixl_0, v_set_0, v_ixN_0, v_ixt_1, v_ixl_1, v_set_1, v_ixN_1, v_ixt_2, v_ixl_2, v_set_2, v_ixN_2, v_ixt_3, v_ixl_3, v_set_3, v_ixN_3, v_ixt_4, v_ixl_4, v_set_4, v_ixN_4, v_ixt_5, v_ixl_5, v_set_5, v_ixN_5, v_ixt_6, v_ixl_6, v_set_6, v_ixN_6, v_ixt_7, v_ixl_7, v_set_7, v_ixN_7, v_ixt_8, v_ixl_8, v_set_8, v_ixN_8, v_ixt_9, v_ixl_9, v_set_9, v_ixN_9, v_ixt_10, v_ixl_10, v_set_10, v_ixN_10, v_ixt_11, v_ixl_11, v_set_11, v_ixN_11, v_ixt_12, v_ixl_12, v_set_12, v_ixN_12, Bool.and_self, Bool.and_true, Bool.true_and, Bool.not_true, Bool.not_false, true_and, and_true, decide_true, decide_false, List.length_cons, List.length_nil, Nat.reduceAdd, Nat.reduceLeDiff, Int.reduceLT, Int.reduceLE, Int.reduceNeg, Int.reduceEq, Int.reduceAdd, Int.reduceSub, ofStr_inj, String.reduceEq, eq_self, ne_eq, not_true_eq_false, not_false_eq_true, forall_const, true_implies, false_implies, imp_self, implies_true, Int.reduceToNat, Nat.reduceLT, List.length_map, reduceIte, Bool.false_eq_true, Bool.true_eq_false])
local macro_rules | `(tactic| walk_at "sy") => `(tactic| simp -dsimp only [↓E_c, ↓E_var, ↓E_frz, ↓E_mov, ↓A_io, ↓E_chk, ↓E_give, ↓E_bin, ↓E_un, ↓E_tup, ↓E_lst, ↓A_nil, ↓A_cons, ↓A_arg, ↓E_if, ↓S_if, ↓T_and, ↓T_or, ↓T_test, ↓T_tru, ↓T_not, ↓T_yes, ↓E_andV, ↓E_orV, ↓E_notV, ↓E_mt, ↓E_sl, ↓O_no, ↓O_part, ↓S_skip, ↓S_break, ↓S_cont, ↓S_retN, ↓S_seq, ↓S_drop, ↓S_ret, ↓S_asg, ↓E_mut, ↓S_setS, ↓E_call, ↓I_seq, ↓I_enum, ↓I_rng1, ↓I_rng2, ↓E_lstRg, ↓opt_some, ↓br_t, ↓br_f, ↓br_d, ↓br_n, ↓gg_tup, ↓ggs_cons, ↓ggs_nil, ↓fr_i, ↓fr_s, ↓fr_b, ↓fr_n, ↓at_0, ↓at_1, ↓at_2, ↓at_3, ↓at_4, ↓at_5, ↓at_6, ↓at_7, ↓at_8, ↓at_9, ↓at_10, ↓at_11, ↓at_12, ↓at_13, ↓at_14, ↓at_15, ↓at_16, ↓at_17, ↓at_18, ↓at_19, ↓at_20, ↓at_21, ↓tak_0, ↓tak_1, ↓tak_2, ↓tak_3, ↓tak_4, ↓tak_5, ↓tak_6, ↓tak_7, ↓tak_8, ↓tak_9, ↓tak_10, ↓tak_11, ↓tak_12, ↓tak_13, ↓tak_14, ↓tak_15, ↓tak_16, ↓tak_17, ↓tak_18, ↓tak_19, ↓tak_20, ↓tak_21, ↓put_0, ↓put_1, ↓put_2, ↓put_3, ↓put_4, ↓put_5, ↓put_6, ↓put_7, ↓put_8, ↓put_9, ↓put_10, ↓put_11, ↓put_12, ↓put_13, ↓put_14, ↓put_15, ↓put_16, ↓put_17, ↓put_18, ↓put_19, ↓put_20, ↓put_21, ↓own_0, ↓own_1, ↓own_2, ↓own_3, ↓own_4, ↓own_5, ↓own_6, ↓own_7, ↓own_8, ↓own_9, ↓own_10, ↓own_11, ↓own_12, ↓own_13, ↓own_14, ↓own_15, ↓own_16, ↓own_17, ↓own_18, ↓own_19, ↓own_20, ↓own_21, ↓isl_0, ↓isl_1, ↓isl_2, ↓isl_3, ↓isl_4, ↓isl_5, ↓isl_6, ↓isl_7, ↓isl_8, ↓isl_9, ↓isl_10, ↓isl_11, ↓isl_12, ↓isl_13, ↓isl_14, ↓isl_15, ↓isl_16, ↓isl_17, ↓isl_18, ↓isl_19, ↓isl_20, ↓isl_21, ↓gg_0, ↓gg_1, ↓gg_2, ↓gg_3, ↓gg_4, ↓gg_5, ↓gg_6, ↓gg_7, ↓gg_8, ↓gg_9, ↓gg_10, ↓gg_11, ↓gg_12, ↓gg_13, ↓gg_14, ↓gg_15, ↓gg_16, ↓gg_17, ↓gg_18, ↓gg_19, ↓gg_20, ↓gg_21, ↓po_0, ↓po_1, ↓po_2, ↓po_3, ↓po_4, ↓po_5, ↓po_6, ↓po_7, ↓po_8, ↓po_9, ↓po_10, ↓po_11, ↓po_12, ↓po_13, ↓po_14, ↓po_15, ↓po_16, ↓po_17, ↓po_18, ↓po_19, ↓po_20, ↓po_21, ↓and2_true, ↓O_0, ↓O_1, ↓wip_nil, ↓wip_cons, ↓X_fn, ↓mk_cons, ↓mk_nil, ↓mk_0, ↓cp_0, ↓cp_1, ↓cp_2, ↓cp_3, ↓cp_4, ↓cp_5, ↓cp_6, ↓cp_7, ↓cp_8, ↓cp_9, ↓cq_0, ↓cq_1, ↓cq_2, ↓cq_3, ↓cq_4, ↓cq_5, ↓cq_6, ↓cq_7, ↓cq_8, ↓cq_9, and2_t, v_ixN, fr_of, fr_l2, z_int, z_str, z_bl, z_non, z_tup, z_lst, z_nil, z_cons, v_add, v_sub, v_mulr, v_mull, v_div, v_neg, v_int, v_intb, v_abs, v_isB, v_isI, v_truB, v_isn, v_notn, v_len_t, v_len_l, v_len_s, v_max, v_min, v_app, v_tup_n, v_lst_n, fr_l0, v_tup_t, v_tup_l, v_lst_t, v_lst_l, v_sl_t, v_sl_l, v_sl_s, v_cat_s, v_cat_t, v_cat_l, v_it_t, v_it_l, v_sq_t, v_sq_l, v_okl, v_oks, v_ss, v_big, v_big2, v_if_t, v_if_f, v_eq_iS, v_ne_iS, v_eq_sS, v_eq_ii, v_ne_ii, v_eq_ss, v_ne_ss, v_eq_bb, v_ne_bb, v_in_l, v_in_t, okP_int, okP_str, okP_bl, okP_non, n_int, n_str, n_bl, n_non, n_nil, n_cons, q_ss, q_ii, List.any_cons, List.any_nil, beq_self_eq_true, beq_true, beq_false, Bool.true_beq, Bool.false_beq, Bool.or_false, Bool.or_true, Bool.false_or, Bool.true_or, lt_ii, gt_ii, le_ii, ge_ii, mod_ii, in_non, in_bl, in_int, in_str, in_tup, in_lst, v_i_tuple_non, v_i_tuple_bl, v_i_tuple_int, v_i_tuple_str, v_i_tuple_tup, v_i_tuple_lst, v_i_list_non, v_i_list_bl, v_i_list_int, v_i_list_str, v_i_list_tup, v_i_list_lst, v_i_str_non, v_i_str_bl, v_i_str_int, v_i_str_str, v_i_str_tup, v_i_str_lst, v_i_int_non, v_i_int_bl, v_i_int_int, v_i_int_str, v_i_int_tup, v_i_int_lst, v_i_bool_non, v_i_bool_bl, v_i_bool_int, v_i_bool_str, v_i_bool_tup, v_i_bool_lst, v_ixt_0, v_ixl_0, v_set_0, v_ixN_0, v_ixt_1, v_ixl_1, v_set_1, v_ixN_1, v_ixt_2, v_ixl_2, v_set_2, v_ixN_2, v_ixt_3, v_ixl_3, v_set_3, v_ixN_3, v_ixt_4, v_ixl_4, v_set_4, v_ixN_4, v_ixt_5, v_ixl_5, v_set_5, v_ixN_5, v_ixt_6, v_ixl_6, v_set_6, v_ixN_6, v_ixt_7, v_ixl_7, v_set_7, v_ixN_7, v_ixt_8, v_ixl_8, v_set_8, v_ixN_8, v_ixt_9, v_ixl_9, v_set_9, v_ixN_9, v_ixt_10, v_ixl_10, v_set_10, v_ixN_10, v_ixt_11, v_ixl_11, v_set_11, v_ixN_11, v_ixt_12, v_ixl_12, v_set_12, v_ixN_12, Bool.and_self, Bool.and_true, Bool.true_and, Bool.not_true, Bool.not_false, true_and, and_true, decide_true, decide_false, List.length_cons, List.length_nil, Nat.reduceAdd, Nat.reduceLeDiff, Int.reduceLT, Int.reduceLE, Int.reduceNeg, Int.reduceEq, Int.reduceAdd, Int.reduceSub, ofStr_inj, String.reduceEq, eq_self, ne_eq, not_true_eq_false, not_false_eq_true, forall_const, true_implies, false_implies, imp_self, implies_true, Int.reduceToNat, Nat.reduceLT, List.length_map, reduceIte, Bool.false_eq_true, Bool.true_eq_false, *])
local macro_rules | `(tactic| walk_at "fn") => `(tactic| ((with_reducible apply F_env); (· repeat constructor)))
def Ask (b : Bool) (x : D) : Prop := ∃ key a d c, x = .tup [.bl b, key, a, d, c] ∧ Kp b 300 key ∧ Iv b a ∧ Iv b d ∧ Iw b c
theorem Ask.frz {b : Bool} {x : D} (h : Ask b x) : x.frz = true := by
  obtain ⟨key, a, d, c, rfl, h1, h2, h3, h4⟩ := h
  simp [D.frz, frzs, h1.frz, h2.w.frz, h3.w.frz, h4.frz]
theorem some_ask_ok {b : Bool} {t : D} {P : D → List D → Prop} {as : List D} (e0 : as = [t, .bl b]) (h : Tp t) (k : ∀ x y t', Ask b x → Ask b y → Tp t' → P (.tup [x, y]) [t']) : OkF Fn__law_some_ask as P := by
  subst e0
  unfold Fn__law_some_ask B__law_some_ask
  walk_at "fn"
  refine S_cut (fun e => ∃ t ks, e = [some t, some (.bl b), some (.lst false ks), none, none, none, none] ∧ Tp t ∧ (∀ y ∈ ks, Kp b 300 y) ∧ ks ≠ [] ∧ ks.length ≤ 100) ?_ fun e h => ?_
  · walk_at "sx"
    refine X_F (draw_ok rfl h (by decide) fun i t1 ht1 i0 i1 => ?_)
    walk_at "sx"
    refine X_F (keys_ok rfl ht1 (by omega) (by omega) fun ys t2 g1 g2 g3 ht2 => ?_)
    have z1 : frzs ys = true := frzs_all fun d hd => (g1 d hd).frz
    walk_at "sy"
    exact ⟨_, _, rfl, ht2, g1, g2, g3⟩
  obtain ⟨t, ks, rfl, ht, g1, g2, g3⟩ := h
  have z1 : frzs ks = true := frzs_all fun d hd => (g1 d hd).frz
  refine S_cut (fun e => ∃ es, e = [some t, some (.bl b), some (.lst false ks), some (.lst false es), none, none, none] ∧ Es b es) ?_ fun e h => ?_
  · walk_at "sy"
    refine X_F (ends_ok rfl g1 g2 g3 fun ys u1 u2 u3 => ?_)
    have z2 : frzs ys = true := frzs_all fun d hd => (u1 d hd).frz
    walk_at "sy"
    exact ⟨_, rfl, u1, u2, u3⟩
  obtain ⟨es, rfl, he⟩ := h
  have z2 := he.frz
  refine S_cut (fun e => ∃ t a, e = [some t, some (.bl b), some (.lst false ks), some (.lst false es), some a, none, none] ∧ Tp t ∧ Iv b a) ?_ fun e h => ?_
  · walk_at "sy"
    refine X_F (interval_ok rfl ht he fun x t2 hx ht2 => ?_)
    have z3 := hx.w.frz
    walk_at "sy"
    exact ⟨_, _, rfl, ht2, hx⟩
  obtain ⟨t, a, rfl, ht, ha⟩ := h
  have z3 := ha.w.frz
  refine S_cut (fun e => ∃ t key d c, e = [some t, some (.bl b), some (.lst false ks), some (.lst false es), some a, some (.tup [.bl b, key, a, d, c]), none] ∧ Tp t ∧ Kp b 300 key ∧ Iv b d ∧ Iw b c) ?_ fun e h => ?_
  · walk_at "sy"
    refine X_F (pick_ok rfl ht g2 (by omega) z1 fun key t2 hx ht2 => ?_)
    have hk := g1 key hx
    have z4 := hk.frz
    walk_at "sy"
    refine X_F (beside_ok rfl ht2 ha he fun d t3 hd ht3 => ?_)
    have z5 := hd.w.frz
    walk_at "sy"
    refine X_F (any_ok rfl ht3 he fun c t4 hc ht4 => ?_)
    have z6 := hc.frz
    walk_at "sy"
    exact ⟨_, _, _, _, rfl, ht4, hk, hd, hc⟩
  obtain ⟨t, key, d, c, rfl, ht, hk, hd, hc⟩ := h
  have z4 := hk.frz
  have z5 := hd.w.frz
  have z6 := hc.frz
  have A1 : Ask b (.tup [.bl b, key, a, d, c]) := ⟨_, _, _, _, rfl, hk, ha, hd, hc⟩
  refine S_cut (fun e => ∃ t i, e = [some t, some (.bl b), some (.lst false ks), some (.lst false es), some a, some (.tup [.bl b, key, a, d, c]), some (.int i)] ∧ Tp t ∧ 0 ≤ i) ?_ fun e h => ?_
  · walk_at "sx"
    refine X_F (draw_ok rfl ht (by decide) fun i t1 ht1 i0 i1 => ?_)
    walk_at "sx"
    exact ⟨_, _, rfl, ht1, i0⟩
  obtain ⟨t, i, rfl, ht, hi⟩ := h
  walk_at "sy"
  refine ⟨fun _ => ?_, fun _ => ⟨fun _ => ?_, fun _ => ⟨fun _ => ?_, fun _ => ?_⟩⟩⟩
  · refine X_F (pick_ok rfl ht g2 (by omega) z1 fun key2 t2 hx ht2 => ?_)
    have hk := g1 key2 hx
    have z7 := hk.frz
    walk_at "sy"
    exact k _ _ _ A1 ⟨_, _, _, _, rfl, hk, ha, hd, hc⟩ ht2
  · refine X_F (interval_ok rfl ht he fun x t2 hx ht2 => ?_)
    have z7 := hx.w.frz
    walk_at "sy"
    exact k _ _ _ A1 ⟨_, _, _, _, rfl, hk, hx, hd, hc⟩ ht2
  · refine X_F (beside_ok rfl ht ha he fun x t2 hx ht2 => ?_)
    have z7 := hx.w.frz
    walk_at "sy"
    exact k _ _ _ A1 ⟨_, _, _, _, rfl, hk, ha, hx, hc⟩ ht2
  · refine X_F (any_ok rfl ht he fun x t2 hx ht2 => ?_)
    have z7 := hx.frz
    walk_at "sy"
    exact k _ _ _ A1 ⟨_, _, _, _, rfl, hk, hd, ha, hx⟩ ht2
end K00
end

section
set_option linter.all false
set_option maxRecDepth 100000
set_option maxHeartbeats 8000000
namespace K00
open PySem L2 Fw
local macro_rules | `(tactic| walk_at "sx") => `(tactic| simp -dsimp only [↓E_c, ↓E_var, ↓E_frz, ↓E_mov, ↓A_io, ↓E_chk, ↓E_give, ↓E_bin, ↓E_un, ↓E_tup, ↓E_lst, ↓A_nil, ↓A_cons, ↓A_arg, ↓E_if, ↓S_if, ↓T_and, ↓T_or, ↓T_test, ↓T_tru, ↓T_not, ↓T_yes, ↓E_andV, ↓E_orV, ↓E_notV, ↓E_mt, ↓E_sl, ↓O_no, ↓O_part, ↓S_skip, ↓S_break, ↓S_cont, ↓S_retN, ↓S_seq, ↓S_drop, ↓S_ret, ↓S_asg, ↓E_mut, ↓S_setS, ↓E_call, ↓I_seq, ↓I_enum, ↓I_rng1, ↓I_rng2, ↓E_lstRg, ↓opt_some, ↓br_t, ↓br_f, ↓br_d, ↓br_n, ↓gg_tup, ↓ggs_cons, ↓ggs_nil, ↓fr_i, ↓fr_s, ↓fr_b, ↓fr_n, ↓at_0, ↓at_1, ↓at_2, ↓at_3, ↓at_4, ↓at_5, ↓at_6, ↓at_7, ↓at_8, ↓at_9, ↓at_10, ↓at_11, ↓at_12, ↓at_13, ↓at_14, ↓at_15, ↓at_16, ↓at_17, ↓at_18, ↓at_19, ↓at_20, ↓at_21, ↓tak_0, ↓tak_1, ↓tak_2, ↓tak_3, ↓tak_4, ↓tak_5, ↓tak_6, ↓tak_7, ↓tak_8, ↓tak_9, ↓tak_10, ↓tak_11, ↓tak_12, ↓tak_13, ↓tak_14, ↓tak_15, ↓tak_16, ↓tak_17, ↓tak_18, ↓tak_19, ↓tak_20, ↓tak_21, ↓put_0, ↓put_1, ↓put_2, ↓put_3, ↓put_4, ↓put_5, ↓put_6, ↓put_7, ↓put_8, ↓put_9, ↓put_10, ↓put_11, ↓put_12, ↓put_13, ↓put_14, ↓put_15, ↓put_16, ↓put_17, ↓put_18, ↓put_19, ↓put_20, ↓put_21, ↓own_0, ↓own_1, ↓own_2, ↓own_3, ↓own_4, ↓own_5, ↓own_6, ↓own_7, ↓own_8, ↓own_9, ↓own_10, ↓own_11, ↓own_12, ↓own_13, ↓own_14, ↓own_15, ↓own_16, ↓own_17, ↓own_18, ↓own_19, ↓own_20, ↓own_21, ↓isl_0, ↓isl_1, ↓isl_2, ↓isl_3, ↓isl_4, ↓isl_5, ↓isl_6, ↓isl_7, ↓isl_8, ↓isl_9, ↓isl_10, ↓isl_11, ↓isl_12, ↓isl_13, ↓isl_14, ↓isl_15, ↓isl_16, ↓isl_17, ↓isl_18, ↓isl_19, ↓isl_20, ↓isl_21, ↓gg_0, ↓gg_1, ↓gg_2, ↓gg_3, ↓gg_4, ↓gg_5, ↓gg_6, ↓gg_7, ↓gg_8, ↓gg_9, ↓gg_10, ↓gg_11, ↓gg_12, ↓gg_13, ↓gg_14, ↓gg_15, ↓gg_16, ↓gg_17, ↓gg_18, ↓gg_19, ↓gg_20, ↓gg_21, ↓po_0, ↓po_1, ↓po_2, ↓po_3, ↓po_4, ↓po_5, ↓po_6, ↓po_7, ↓po_8, ↓po_9, ↓po_10, ↓po_11, ↓po_12, ↓po_13, ↓po_14, ↓po_15, ↓po_16, ↓po_17, ↓po_18, ↓po_19, ↓po_20, ↓po_21, ↓and2_true, ↓O_0, ↓O_1, ↓wip_nil, ↓wip_cons, ↓X_fn, ↓mk_cons, ↓mk_nil, ↓mk_0, ↓cp_0, ↓cp_1, ↓cp_2, ↓cp_3, ↓cp_4, ↓cp_5, ↓cp_6, ↓cp_7, ↓cp_8, ↓cp_9, ↓cq_0, ↓cq_1, ↓cq_2, ↓cq_3, ↓cq_4, ↓cq_5, ↓cq_6, ↓cq_7, ↓cq_8, ↓cq_9, and2_t, v_ixN, fr_of, fr_l2, z_int, z_str, z_bl, z_non, z_tup, z_lst, z_nil, z_cons, v_add, v_sub, v_mulr, v_mull, v_div, v_neg, v_int, v_intb, v_abs, v_isB, v_isI, v_truB, v_isn, v_notn, v_len_t, v_len_l, v_len_s, v_max, v_min, v_app, v_tup_n, v_lst_n, fr_l0, v_tup_t, v_tup_l, v_lst_t, v_lst_l, v_sl_t, v_sl_l, v_sl_s, v_cat_s, v_cat_t, v_cat_l, v_it_t, v_it_l, v_sq_t, v_sq_l, v_okl, v_oks, v_ss, v_big, v_big2, v_if_t, v_if_f, v_eq_iS, v_ne_iS, v_eq_sS, v_eq_ii, v_ne_ii, v_eq_ss, v_ne_ss, v_eq_bb, v_ne_bb, v_in_l, v_in_t, okP_int, okP_str, okP_bl, okP_non, n_int, n_str, n_bl, n_non, n_nil, n_cons, q_ss, q_ii, List.any_cons, List.any_nil, beq_self_eq_true, beq_true, beq_false, Bool.true_beq, Bool.false_beq, Bool.or_false, Bool.or_true, Bool.false_or, Bool.true_or, lt_ii, gt_ii, le_ii, ge_ii, mod_ii, in_non, in_bl, in_int, in_str, in_tup, in_lst, v_i_tuple_non, v_i_tuple_bl, v_i_tuple_int, v_i_tuple_str, v_i_tuple_tup, v_i_tuple_lst, v_i_list_non, v_i_list_bl, v_i_list_int, v_i_list_str, v_i_list_tup, v_i_list_lst, v_i_str_non, v_i_str_bl, v_i_str_int, v_i_str_str, v_i_str_tup, v_i_str_lst, v_i_int_non, v_i_int_bl, v_i_int_int, v_i_int_str, v_i_int_tup, v_i_int_lst, v_i_bool_non, v_i_bool_bl, v_i_bool_int, v_i_bool_str, v_i_bool_tup, v_i_bool_lst, v_ixt_0, v_ixl_0, v_set_0, v_ixN_0, v_ixt_1, v_ixl_1, v_set_1, v_ixN_1, v_ixt_2, v_ixl_2, v_set_2, v_ixN_2, v_ixt_3, v_ixl_3, v_set_3, v_ixN_3, v_ixt_4, v_ixl_4, v_set_4, v_ixN_4, v_ixt_5, v_ixl_5, v_set_5, v_ixN_5, v_ixt_6, v_ixl_6, v_set_6, v_ixN_6, v_ixt_7, v_ixl_7, v_set_7, v_ixN_7, v_ixt_8, v_ixl_8, v_set_8, v_ixN_8, v_ixt_9, v_ixl_9, v_set_9, v_ixN_9, v_ixt_10, v_ixl_10, v_set_10, v_ixN_10, v_ixt_11, v_ixl_11, v_set_11, v_ixN_11, v_ixt_12, v_ixl_12, v_set_12, v_ixN_12, Bool.and_self, Bool.and_true, Bool.true_and, Bool.not_true, Bool.not_false, true_and, and_true, decide_true, decide_false, List.length_cons, List.length_nil, Nat.reduceAdd, Nat.reduceLeDiff, Int.reduceLT, Int.reduceLE, Int.reduceNeg, Int.reduceEq, Int.reduceAdd, Int.reduceSub, ofStr_inj, String.reduceEq, eq_self, ne_eq, not_true_eq_false, not_false_eq_true, forall_const, true_implies, false_implies, imp_self, implies_true, Int.reduceToNat, Nat.reduceLT, List.length_map, reduceIte, Bool.false_eq_true, Bool.true_eq_false])
local macro_rules | `(tactic| walk_at "sy") => `(tactic| simp -dsimp only [↓E_c, ↓E_var, ↓E_frz, ↓E_mov, ↓A_io, ↓E_chk, ↓E_give, ↓E_bin, ↓E_un, ↓E_tup, ↓E_lst, ↓A_nil, ↓A_cons, ↓A_arg, ↓E_if, ↓S_if, ↓T_and, ↓T_or, ↓T_test, ↓T_tru, ↓T_not, ↓T_yes, ↓E_andV, ↓E_orV, ↓E_notV, ↓E_mt, ↓E_sl, ↓O_no, ↓O_part, ↓S_skip, ↓S_break, ↓S_cont, ↓S_retN, ↓S_seq, ↓S_drop, ↓S_ret, ↓S_asg, ↓E_mut, ↓S_setS, ↓E_call, ↓I_seq, ↓I_enum, ↓I_rng1, ↓I_rng2, ↓E_lstRg, ↓opt_some, ↓br_t, ↓br_f, ↓br_d, ↓br_n, ↓gg_tup, ↓ggs_cons, ↓ggs_nil, ↓fr_i, ↓fr_s, ↓fr_b, ↓fr_n, ↓at_0, ↓at_1, ↓at_2, ↓at_3, ↓at_4, ↓at_5, ↓at_6, ↓at_7, ↓at_8, ↓at_9, ↓at_10, ↓at_11, ↓at_12, ↓at_13, ↓at_14, ↓at_15, ↓at_16, ↓at_17, ↓at_18, ↓at_19, ↓at_20, ↓at_21, ↓tak_0, ↓tak_1, ↓tak_2, ↓tak_3, ↓tak_4, ↓tak_5, ↓tak_6, ↓tak_7, ↓tak_8, ↓tak_9, ↓tak_10, ↓tak_11, ↓tak_12, ↓tak_13, ↓tak_14, ↓tak_15, ↓tak_16, ↓tak_17, ↓tak_18, ↓tak_19, ↓tak_20, ↓tak_21, ↓put_0, ↓put_1, ↓put_2, ↓put_3, ↓put_4, ↓put_5, ↓put_6, ↓put_7, ↓put_8, ↓put_9, ↓put_10, ↓put_11, ↓put_12, ↓put_13, ↓put_14, ↓put_15, ↓put_16, ↓put_17, ↓put_18, ↓put_19, ↓put_20, ↓put_21, ↓own_0, ↓own_1, ↓own_2, ↓own_3, ↓own_4, ↓own_5, ↓own_6, ↓own_7, ↓own_8, ↓own_9, ↓own_10, ↓own_11, ↓own_12, ↓own_13, ↓own_14, ↓own_15, ↓own_16, ↓own_17, ↓own_18, ↓own_19, ↓own_20, ↓own_21, ↓isl_0, ↓isl_1, ↓isl_2, ↓isl_3, ↓isl_4, ↓isl_5, ↓isl_6, ↓isl_7, ↓isl_8, ↓isl_9, ↓isl_10, ↓isl_11, ↓isl_12, ↓isl_13, ↓isl_14, ↓isl_15, ↓isl_16, ↓isl_17, ↓isl_18, ↓isl_19, ↓isl_20, ↓isl_21, ↓gg_0, ↓gg_1, ↓gg_2, ↓gg_3, ↓gg_4, ↓gg_5, ↓gg_6, ↓gg_7, ↓gg_8, ↓gg_9, ↓gg_10, ↓gg_11, ↓gg_12, ↓gg_13, ↓gg_14, ↓gg_15, ↓gg_16, ↓gg_17, ↓gg_18, ↓gg_19, ↓gg_20, ↓gg_21, ↓po_0, ↓po_1, ↓po_2, ↓po_3, ↓po_4, ↓po_5, ↓po_6, ↓po_7, ↓po_8, ↓po_9, ↓po_10, ↓po_11, ↓po_12, ↓po_13, ↓po_14, ↓po_15, ↓po_16, ↓po_17, ↓po_18, ↓po_19, ↓po_20, ↓po_21, ↓and2_true, ↓O_0, ↓O_1, ↓wip_nil, ↓wip_cons, ↓X_fn, ↓mk_cons, ↓mk_nil, ↓mk_0, ↓cp_0, ↓cp_1, ↓cp_2, ↓cp_3, ↓cp_4, ↓cp_5, ↓cp_6, ↓cp_7, ↓cp_8, ↓cp_9, ↓cq_0, ↓cq_1, ↓cq_2, ↓cq_3, ↓cq_4, ↓cq_5, ↓cq_6, ↓cq_7, ↓cq_8, ↓cq_9, and2_t, v_ixN, fr_of, fr_l2, z_int, z_str, z_bl, z_non, z_tup, z_lst, z_nil, z_cons, v_add, v_sub, v_mulr, v_mull, v_div, v_neg, v_int, v_intb, v_abs, v_isB, v_isI, v_truB, v_isn, v_notn, v_len_t, v_len_l, v_len_s, v_max, v_min, v_app, v_tup_n, v_lst_n, fr_l0, v_tup_t, v_tup_l, v_lst_t, v_lst_l, v_sl_t, v_sl_l, v_sl_s, v_cat_s, v_cat_t, v_cat_l, v_it_t, v_it_l, v_sq_t, v_sq_l, v_okl, v_oks, v_ss, v_big, v_big2, v_if_t, v_if_f, v_eq_iS, v_ne_iS, v_eq_sS, v_eq_ii, v_ne_ii, v_eq_ss, v_ne_ss, v_eq_bb, v_ne_bb, v_in_l, v_in_t, okP_int, okP_str, okP_bl, okP_non, n_int, n_str, n_bl, n_non, n_nil, n_cons, q_ss, q_ii, List.any_cons, List.any_nil, beq_self_eq_true, beq_true, beq_false, Bool.true_beq, Bool.false_beq, Bool.or_false, Bool.or_true, Bool.false_or, Bool.true_or, lt_ii, gt_ii, le_ii, ge_ii, mod_ii, in_non, in_bl, in_int, in_str, in_tup, in_lst, v_i_tuple_non, v_i_tuple_bl, v_i_tuple_int, v_i_tuple_str, v_i_tuple_tup, v_i_tuple_lst, v_i_list_non, v_i_list_bl, v_i_list_int, v_i_list_str, v_i_list_tup, v_i_list_lst, v_i_str_non, v_i_str_bl, v_i_str_int, v_i_str_str, v_i_str_tup, v_i_str_lst, v_i_int_non, v_i_int_bl, v_i_int_int, v_i_int_str, v_i_int_tup, v_i_int_lst, v_i_bool_non, v_i_bool_bl, v_i_bool_int, v_i_bool_str, v_i_bool_tup, v_i_bool_lst, v_ixt_0, v_ixl_0, v_set_0, v_ixN_0, v_ixt_1, v_ixl_1, v_set_1, v_ixN_1, v_ixt_2, v_ixl_2, v_set_2, v_ixN_2, v_ixt_3, v_ixl_3, v_set_3, v_ixN_3, v_ixt_4, v_ixl_4, v_set_4, v_ixN_4, v_ixt_5, v_ixl_5, v_set_5, v_ixN_5, v_ixt_6, v_ixl_6, v_set_6, v_ixN_6, v_ixt_7, v_ixl_7, v_set_7, v_ixN_7, v_ixt_8, v_ixl_8, v_set_8, v_ixN_8, v_ixt_9, v_ixl_9, v_set_9, v_ixN_9, v_ixt_10, v_ixl_10, v_set_10, v_ixN_10, v_ixt_11, v_ixl_11, v_set_11, v_ixN_11, v_ixt_12, v_ixl_12, v_set_12, v_ixN_12, Bool.and_self, Bool.and_true, Bool.true_and, Bool.not_true, Bool.not_false, true_and, and_true, decide_true, decide_false, List.length_cons, List.length_nil, Nat.reduceAdd, Nat.reduceLeDiff, Int.reduceLT, Int.reduceLE, Int.reduceNeg, Int.reduceEq, Int.reduceAdd, Int.reduceSub, ofStr_inj, String.reduceEq, eq_self, ne_eq, not_true_eq_false, not_false_eq_true, forall_const, true_implies, false_implies, imp_self, implies_true, Int.reduceToNat, Nat.reduceLT, List.length_map, reduceIte, Bool.false_eq_true, Bool.true_eq_false, *])
local macro_rules | `(tactic| walk_at "fn") => `(tactic| ((with_reducible apply F_env); (· repeat constructor)))
local macro_rules | `(tactic| walk_at "sl") => `(tactic| simp -dsimp only [↓E_c, ↓E_var, ↓E_frz, ↓E_mov, ↓A_io, ↓E_chk, ↓E_give, ↓E_bin, ↓E_un, ↓E_tup, ↓E_lst, ↓A_nil, ↓A_cons, ↓A_arg, ↓E_if, ↓S_if, ↓T_and, ↓T_or, ↓T_test, ↓T_tru, ↓T_not, ↓T_yes, ↓E_andV, ↓E_orV, ↓E_notV, ↓E_mt, ↓E_sl, ↓O_no, ↓O_part, ↓S_skip, ↓S_break, ↓S_cont, ↓S_retN, ↓S_seq, ↓S_drop, ↓S_ret, ↓S_asg, ↓E_mut, ↓S_setS, ↓E_call, ↓I_seq, ↓I_enum, ↓I_rng1, ↓I_rng2, ↓E_lstRg, ↓opt_some, ↓br_t, ↓br_f, ↓br_d, ↓br_n, ↓gg_tup, ↓ggs_cons, ↓ggs_nil, ↓fr_i, ↓fr_s, ↓fr_b, ↓fr_n, ↓at_0, ↓at_1, ↓at_2, ↓at_3, ↓at_4, ↓at_5, ↓at_6, ↓at_7, ↓at_8, ↓at_9, ↓at_10, ↓at_11, ↓at_12, ↓at_13, ↓at_14, ↓at_15, ↓at_16, ↓at_17, ↓at_18, ↓at_19, ↓at_20, ↓at_21, ↓tak_0, ↓tak_1, ↓tak_2, ↓tak_3, ↓tak_4, ↓tak_5, ↓tak_6, ↓tak_7, ↓tak_8, ↓tak_9, ↓tak_10, ↓tak_11, ↓tak_12, ↓tak_13, ↓tak_14, ↓tak_15, ↓tak_16, ↓tak_17, ↓tak_18, ↓tak_19, ↓tak_20, ↓tak_21, ↓put_0, ↓put_1, ↓put_2, ↓put_3, ↓put_4, ↓put_5, ↓put_6, ↓put_7, ↓put_8, ↓put_9, ↓put_10, ↓put_11, ↓put_12, ↓put_13, ↓put_14, ↓put_15, ↓put_16, ↓put_17, ↓put_18, ↓put_19, ↓put_20, ↓put_21, ↓own_0, ↓own_1, ↓own_2, ↓own_3, ↓own_4, ↓own_5, ↓own_6, ↓own_7, ↓own_8, ↓own_9, ↓own_10, ↓own_11, ↓own_12, ↓own_13, ↓own_14, ↓own_15, ↓own_16, ↓own_17, ↓own_18, ↓own_19, ↓own_20, ↓own_21, ↓isl_0, ↓isl_1, ↓isl_2, ↓isl_3, ↓isl_4, ↓isl_5, ↓isl_6, ↓isl_7, ↓isl_8, ↓isl_9, ↓isl_10, ↓isl_11, ↓isl_12, ↓isl_13, ↓isl_14, ↓isl_15, ↓isl_16, ↓isl_17, ↓isl_18, ↓isl_19, ↓isl_20, ↓isl_21, ↓gg_0, ↓gg_1, ↓gg_2, ↓gg_3, ↓gg_4, ↓gg_5, ↓gg_6, ↓gg_7, ↓gg_8, ↓gg_9, ↓gg_10, ↓gg_11, ↓gg_12, ↓gg_13, ↓gg_14, ↓gg_15, ↓gg_16, ↓gg_17, ↓gg_18, ↓gg_19, ↓gg_20, ↓gg_21, ↓po_0, ↓po_1, ↓po_2, ↓po_3, ↓po_4, ↓po_5, ↓po_6, ↓po_7, ↓po_8, ↓po_9, ↓po_10, ↓po_11, ↓po_12, ↓po_13, ↓po_14, ↓po_15, ↓po_16, ↓po_17, ↓po_18, ↓po_19, ↓po_20, ↓po_21, ↓and2_true, ↓O_0, ↓O_1, ↓wip_nil, ↓wip_cons, ↓X_fn, ↓mk_cons, ↓mk_nil, ↓mk_0, ↓cp_0, ↓cp_1, ↓cp_2, ↓cp_3, ↓cp_4, ↓cp_5, ↓cp_6, ↓cp_7, ↓cp_8, ↓cp_9, ↓cq_0, ↓cq_1, ↓cq_2, ↓cq_3, ↓cq_4, ↓cq_5, ↓cq_6, ↓cq_7, ↓cq_8, ↓cq_9, and2_t, v_ixN, fr_of, fr_l2, z_int, z_str, z_bl, z_non, z_tup, z_lst, z_nil, z_cons, v_add, v_sub, v_mulr, v_mull, v_div, v_neg, v_int, v_intb, v_abs, v_isB, v_isI, v_truB, v_isn, v_notn, v_len_t, v_len_l, v_len_s, v_max, v_min, v_app, v_tup_n, v_lst_n, fr_l0, v_tup_t, v_tup_l, v_lst_t, v_lst_l, v_sl_t, v_sl_l, v_sl_s, v_cat_s, v_cat_t, v_cat_l, v_it_t, v_it_l, v_sq_t, v_sq_l, v_okl, v_oks, v_ss, v_big, v_big2, v_if_t, v_if_f, v_eq_iS, v_ne_iS, v_eq_sS, v_eq_ii, v_ne_ii, v_eq_ss, v_ne_ss, v_eq_bb, v_ne_bb, v_in_l, v_in_t, okP_int, okP_str, okP_bl, okP_non, n_int, n_str, n_bl, n_non, n_nil, n_cons, q_ss, q_ii, List.any_cons, List.any_nil, beq_self_eq_true, beq_true, beq_false, Bool.true_beq, Bool.false_beq, Bool.or_false, Bool.or_true, Bool.false_or, Bool.true_or, lt_ii, gt_ii, le_ii, ge_ii, mod_ii, in_non, in_bl, in_int, in_str, in_tup, in_lst, v_i_tuple_non, v_i_tuple_bl, v_i_tuple_int, v_i_tuple_str, v_i_tuple_tup, v_i_tuple_lst, v_i_list_non, v_i_list_bl, v_i_list_int, v_i_list_str, v_i_list_tup, v_i_list_lst, v_i_str_non, v_i_str_bl, v_i_str_int, v_i_str_str, v_i_str_tup, v_i_str_lst, v_i_int_non, v_i_int_bl, v_i_int_int, v_i_int_str, v_i_int_tup, v_i_int_lst, v_i_bool_non, v_i_bool_bl, v_i_bool_int, v_i_bool_str, v_i_bool_tup, v_i_bool_lst, v_ixt_0, v_ixl_0, v_set_0, v_ixN_0, v_ixt_1, v_ixl_1, v_set_1, v_ixN_1, v_ixt_2, v_ixl_2, v_set_2, v_ixN_2, v_ixt_3, v_ixl_3, v_set_3, v_ixN_3, v_ixt_4, v_ixl_4, v_set_4, v_ixN_4, v_ixt_5, v_ixl_5, v_set_5, v_ixN_5, v_ixt_6, v_ixl_6, v_set_6, v_ixN_6, v_ixt_7, v_ixl_7, v_set_7, v_ixN_7, v_ixt_8, v_ixl_8, v_set_8, v_ixN_8, v_ixt_9, v_ixl_9, v_set_9, v_ixN_9, v_ixt_10, v_ixl_10, v_set_10, v_ixN_10, v_ixt_11, v_ixl_11, v_set_11, v_ixN_11, v_ixt_12, v_ixl_12, v_set_12, v_ixN_12, Bool.and_self, Bool.and_true, Bool.true_and, Bool.not_true, Bool.not_false, true_and, and_true, decide_true, decide_false, List.length_cons, List.length_nil, Nat.reduceAdd, Nat.reduceLeDiff, Int.reduceLT, Int.reduceLE, Int.reduceNeg, Int.reduceEq, Int.reduceAdd, Int.reduceSub, ofStr_inj, String.reduceEq, eq_self, ne_eq, not_true_eq_false, not_false_eq_true, forall_const, true_implies, false_implies, imp_self, implies_true, Int.reduceToNat, Nat.reduceLT, List.length_map, reduceIte, Bool.false_eq_true, Bool.true_eq_false, ↓O_X, *, Fn_has_key, B_has_key, Fn_is_empty, B_is_empty, Fn_lesser_high, B_lesser_high, Fn_common_part, B_common_part, Fn_is_overlapping, B_is_overlapping, Fn_is_covering, B_is_covering, Fn_join_of, B_join_of, Fn_left_of, B_left_of, Fn__law_a_has, B__law_a_has, Fn__law_a_common, B__law_a_common, Fn__law_a_join, B__law_a_join, Fn__law_a_left, B__law_a_left])
theorem okF_get {f : Fn} {as : List D} {R : D → Prop} (h : OkF f as fun d os => os = [] ∧ R d) : ∃ d, f as = .ok (d, []) ∧ R d := by
  simp only [eqF, Z.OkF] at h
  cases e : f as with
  | no => rw [e] at h; exact h.elim
  | ex _ => rw [e] at h; exact h.elim
  | ok p =>
    rw [e] at h
    obtain ⟨d, os⟩ := p
    obtain ⟨rfl, h2⟩ := h
    exact ⟨d, rfl, h2⟩
theorem has_eq {b : Bool} {key c0 c1 : D} (h1 : Kp b 301 key) (hc0 : Kp b 301 c0) (hc1 : c1 = .non ∨ Kp b 301 c1) :
    (OkF Fn_has_key [.tup [c0, c1], key] fun d os => os = [] ∧ OkF Fn__law_a_has [.tup [c0, c1], key] fun d2 os2 => os2 = [] ∧ ∃ v, d = .bl v ∧ d2 = .bl v) ∧ OkF Fn_is_empty [.tup [c0, c1]] fun d os => os = [] ∧ ((c1 = .non ∧ d = .bl false) ∨ (c1.isN = false ∧ ∃ v, leD c1 c0 = some (.bl v) ∧ d = .bl v)) := by
  have z1 := h1.frz
  have z5 := hc0.frz
  rcases hc1 with rfl | hc1
  · obtain ⟨r, r1, r2, r3, r4, T, r6⟩ := rank_facts (b := b) (n := 301) [key, c0] (fun x hx => by
      simp only [List.mem_cons, List.not_mem_nil, or_false] at hx
      rcases hx with rfl | rfl <;> assumption)
    have m1 : key ∈ [key, c0] := List.mem_cons_self
    have m2 : c0 ∈ [key, c0] := List.mem_cons_of_mem _ List.mem_cons_self
    have e1 := r2 _ m2 _ m1
    clear r1 r2 r3 r4 r6 h1 hc0
    rcases T _ m1 _ m2 with ⟨q1, q2⟩ | ⟨q1, rfl⟩ | ⟨q1, q2⟩
    all_goals clear T
    · constructor
      · walk_at "sl"
        exact ⟨_, rfl, rfl⟩
      · walk_at "sl"
        exact .inl trivial
    · have irr : ¬ r key < r key := Int.lt_irrefl _
      constructor
      · walk_at "sl"
        exact ⟨_, rfl, rfl⟩
      · walk_at "sl"
        exact .inl trivial
    · constructor
      · walk_at "sl"
        exact ⟨_, rfl, rfl⟩
      · walk_at "sl"
        exact .inl trivial
  · have z6 := hc1.frz
    have z7 := hc1.notN
    obtain ⟨r, r1, r2, r3, r4, T, r6⟩ := rank_facts (b := b) (n := 301) [key, c0, c1] (fun x hx => by
      simp only [List.mem_cons, List.not_mem_nil, or_false] at hx
      rcases hx with rfl | rfl | rfl <;> assumption)
    have m1 : key ∈ [key, c0, c1] := List.mem_cons_self
    have m2 : c0 ∈ [key, c0, c1] := List.mem_cons_of_mem _ List.mem_cons_self
    have m3 : c1 ∈ [key, c0, c1] := List.mem_cons_of_mem _ (List.mem_cons_of_mem _ List.mem_cons_self)
    have e1 := r2 _ m2 _ m1
    have e2 := r1 _ m1 _ m3
    have e3 := r2 _ m3 _ m2
    clear r1 r2 r3 r4 r6 T m1 m2 m3 h1 hc0 hc1
    generalize decide (r key < r c0) = v1 at *
    generalize decide (r key < r c1) = v2 at *
    generalize decide (r c0 < r c1) = v3 at *
    constructor
    · cases v1 <;> cases v2
      all_goals walk_at "sl"
      all_goals exact ⟨_, rfl, rfl⟩
    · cases v3
      all_goals walk_at "sl"
      all_goals exact .inr ⟨_, rfl, rfl⟩
end K00
end

section
set_option linter.all false
set_option maxRecDepth 100000
set_option maxHeartbeats 8000000
namespace K00
open PySem L2 Fw
local macro_rules | `(tactic| walk_at "sx") => `(tactic| simp -dsimp only [↓E_c, ↓E_var, ↓E_frz, ↓E_mov, ↓A_io, ↓E_chk, ↓E_give, ↓E_bin, ↓E_un, ↓E_tup, ↓E_lst, ↓A_nil, ↓A_cons, ↓A_arg, ↓E_if, ↓S_if, ↓T_and, ↓T_or, ↓T_test, ↓T_tru, ↓T_not, ↓T_yes, ↓E_andV, ↓E_orV, ↓E_notV, ↓E_mt, ↓E_sl, ↓O_no, ↓O_part, ↓S_skip, ↓S_break, ↓S_cont, ↓S_retN, ↓S_seq, ↓S_drop, ↓S_ret, ↓S_asg, ↓E_mut, ↓S_setS, ↓E_call, ↓I_seq, ↓I_enum, ↓I_rng1, ↓I_rng2, ↓E_lstRg, ↓opt_some, ↓br_t, ↓br_f, ↓br_d, ↓br_n, ↓gg_tup, ↓ggs_cons, ↓ggs_nil, ↓fr_i, ↓fr_s, ↓fr_b, ↓fr_n, ↓at_0, ↓at_1, ↓at_2, ↓at_3, ↓at_4, ↓at_5, ↓at_6, ↓at_7, ↓at_8, ↓at_9, ↓at_10, ↓at_11, ↓at_12, ↓at_13, ↓at_14, ↓at_15, ↓at_16, ↓at_17, ↓at_18, ↓at_19, ↓at_20, ↓at_21, ↓tak_0, ↓tak_1, ↓tak_2, ↓tak_3, ↓tak_4, ↓tak_5, ↓tak_6, ↓tak_7, ↓tak_8, ↓tak_9, ↓tak_10, ↓tak_11, ↓tak_12, ↓tak_13, ↓tak_14, ↓tak_15, ↓tak_16, ↓tak_17, ↓tak_18, ↓tak_19, ↓tak_20, ↓tak_21, ↓put_0, ↓put_1, ↓put_2, ↓put_3, ↓put_4, ↓put_5, ↓put_6, ↓put_7, ↓put_8, ↓put_9, ↓put_10, ↓put_11, ↓put_12, ↓put_13, ↓put_14, ↓put_15, ↓put_16, ↓put_17, ↓put_18, ↓put_19, ↓put_20, ↓put_21, ↓own_0, ↓own_1, ↓own_2, ↓own_3, ↓own_4, ↓own_5, ↓own_6, ↓own_7, ↓own_8, ↓own_9, ↓own_10, ↓own_11, ↓own_12, ↓own_13, ↓own_14, ↓own_15, ↓own_16, ↓own_17, ↓own_18, ↓own_19, ↓own_20, ↓own_21, ↓isl_0, ↓isl_1, ↓isl_2, ↓isl_3, ↓isl_4, ↓isl_5, ↓isl_6, ↓isl_7, ↓isl_8, ↓isl_9, ↓isl_10, ↓isl_11, ↓isl_12, ↓isl_13, ↓isl_14, ↓isl_15, ↓isl_16, ↓isl_17, ↓isl_18, ↓isl_19, ↓isl_20, ↓isl_21, ↓gg_0, ↓gg_1, ↓gg_2, ↓gg_3, ↓gg_4, ↓gg_5, ↓gg_6, ↓gg_7, ↓gg_8, ↓gg_9, ↓gg_10, ↓gg_11, ↓gg_12, ↓gg_13, ↓gg_14, ↓gg_15, ↓gg_16, ↓gg_17, ↓gg_18, ↓gg_19, ↓gg_20, ↓gg_21, ↓po_0, ↓po_1, ↓po_2, ↓po_3, ↓po_4, ↓po_5, ↓po_6, ↓po_7, ↓po_8, ↓po_9, ↓po_10, ↓po_11, ↓po_12, ↓po_13, ↓po_14, ↓po_15, ↓po_16, ↓po_17, ↓po_18, ↓po_19, ↓po_20, ↓po_21, ↓and2_true, ↓O_0, ↓O_1, ↓wip_nil, ↓wip_cons, ↓X_fn, ↓mk_cons, ↓mk_nil, ↓mk_0, ↓cp_0, ↓cp_1, ↓cp_2, ↓cp_3, ↓cp_4, ↓cp_5, ↓cp_6, ↓cp_7, ↓cp_8, ↓cp_9, ↓cq_0, ↓cq_1, ↓cq_2, ↓cq_3, ↓cq_4, ↓cq_5, ↓cq_6, ↓cq_7, ↓cq_8, ↓cq_9, and2_t, v_ixN, fr_of, fr_l2, z_int, z_str, z_bl, z_non, z_tup, z_lst, z_nil, z_cons, v_add, v_sub, v_mulr, v_mull, v_div, v_neg, v_int, v_intb, v_abs, v_isB, v_isI, v_truB, v_isn, v_notn, v_len_t, v_len_l, v_len_s, v_max, v_min, v_app, v_tup_n, v_lst_n, fr_l0, v_tup_t, v_tup_l, v_lst_t, v_lst_l, v_sl_t, v_sl_l, v_sl_s, v_cat_s, v_cat_t, v_cat_l, v_it_t, v_it_l, v_sq_t, v_sq_l, v_okl, v_oks, v_ss, v_big, v_big2, v_if_t, v_if_f, v_eq_iS, v_ne_iS, v_eq_sS, v_eq_ii, v_ne_ii, v_eq_ss, v_ne_ss, v_eq_bb, v_ne_bb, v_in_l, v_in_t, okP_int, okP_str, okP_bl, okP_non, n_int, n_str, n_bl, n_non, n_nil, n_cons, q_ss, q_ii, List.any_cons, List.any_nil, beq_self_eq_true, beq_true, beq_false, Bool.true_beq, Bool.false_beq, Bool.or_false, Bool.or_true, Bool.false_or, Bool.true_or, lt_ii, gt_ii, le_ii, ge_ii, mod_ii, in_non, in_bl, in_int, in_str, in_tup, in_lst, v_i_tuple_non, v_i_tuple_bl, v_i_tuple_int, v_i_tuple_str, v_i_tuple_tup, v_i_tuple_lst, v_i_list_non, v_i_list_bl, v_i_list_int, v_i_list_str, v_i_list_tup, v_i_list_lst, v_i_str_non, v_i_str_bl, v_i_str_int, v_i_str_str, v_i_str_tup, v_i_str_lst, v_i_int_non, v_i_int_bl, v_i_int_int, v_i_int_str, v_i_int_tup, v_i_int_lst, v_i_bool_non, v_i_bool_bl, v_i_bool_int, v_i_bool_str, v_i_bool_tup, v_i_bool_lst, v_ixt_0, v_ixl_0, v_set_0, v_ixN_0, v_ixt_1, v_ixl_1, v_set_1, v_ixN_1, v_ixt_2, v_ixl_2, v_set_2, v_ixN_2, v_ixt_3, v_ixl_3, v_set_3, v_ixN_3, v_ixt_4, v_ixl_4, v_set_4, v_ixN_4, v_ixt_5, v_ixl_5, v_set_5, v_ixN_5, v_ixt_6, v_ixl_6, v_set_6, v_ixN_6, v_ixt_7, v_ixl_7, v_set_7, v_ixN_7, v_ixt_8, v_ixl_8, v_set_8, v_ixN_8, v_ixt_9, v_ixl_9, v_set_9, v_ixN_9, v_ixt_10, v_ixl_10, v_set_10, v_ixN_10, v_ixt_11, v_ixl_11, v_set_11, v_ixN_11, v_ixt_12, v_ixl_12, v_set_12, v_ixN_12, Bool.and_self, Bool.and_true, Bool.true_and, Bool.not_true, Bool.not_false, true_and, and_true, decide_true, decide_false, List.length_cons, List.length_nil, Nat.reduceAdd, Nat.reduceLeDiff, Int.reduceLT, Int.reduceLE, Int.reduceNeg, Int.reduceEq, Int.reduceAdd, Int.reduceSub, ofStr_inj, String.reduceEq, eq_self, ne_eq, not_true_eq_false, not_false_eq_true, forall_const, true_implies, false_implies, imp_self, implies_true, Int.reduceToNat, Nat.reduceLT, List.length_map, reduceIte, Bool.false_eq_true, Bool.true_eq_false])
local macro_rules | `(tactic| walk_at "sy") => `(tactic| simp -dsimp only [↓E_c, ↓E_var, ↓E_frz, ↓E_mov, ↓A_io, ↓E_chk, ↓E_give, ↓E_bin, ↓E_un, ↓E_tup, ↓E_lst, ↓A_nil, ↓A_cons, ↓A_arg, ↓E_if, ↓S_if, ↓T_and, ↓T_or, ↓T_test, ↓T_tru, ↓T_not, ↓T_yes, ↓E_andV, ↓E_orV, ↓E_notV, ↓E_mt, ↓E_sl, ↓O_no, ↓O_part, ↓S_skip, ↓S_break, ↓S_cont, ↓S_retN, ↓S_seq, ↓S_drop, ↓S_ret, ↓S_asg, ↓E_mut, ↓S_setS, ↓E_call, ↓I_seq, ↓I_enum, ↓I_rng1, ↓I_rng2, ↓E_lstRg, ↓opt_some, ↓br_t, ↓br_f, ↓br_d, ↓br_n, ↓gg_tup, ↓ggs_cons, ↓ggs_nil, ↓fr_i, ↓fr_s, ↓fr_b, ↓fr_n, ↓at_0, ↓at_1, ↓at_2, ↓at_3, ↓at_4, ↓at_5, ↓at_6, ↓at_7, ↓at_8, ↓at_9, ↓at_10, ↓at_11, ↓at_12, ↓at_13, ↓at_14, ↓at_15, ↓at_16, ↓at_17, ↓at_18, ↓at_19, ↓at_20, ↓at_21, ↓tak_0, ↓tak_1, ↓tak_2, ↓tak_3, ↓tak_4, ↓tak_5, ↓tak_6, ↓tak_7, ↓tak_8, ↓tak_9, ↓tak_10, ↓tak_11, ↓tak_12, ↓tak_13, ↓tak_14, ↓tak_15, ↓tak_16, ↓tak_17, ↓tak_18, ↓tak_19, ↓tak_20, ↓tak_21, ↓put_0, ↓put_1, ↓put_2, ↓put_3, ↓put_4, ↓put_5, ↓put_6, ↓put_7, ↓put_8, ↓put_9, ↓put_10, ↓put_11, ↓put_12, ↓put_13, ↓put_14, ↓put_15, ↓put_16, ↓put_17, ↓put_18, ↓put_19, ↓put_20, ↓put_21, ↓own_0, ↓own_1, ↓own_2, ↓own_3, ↓own_4, ↓own_5, ↓own_6, ↓own_7, ↓own_8, ↓own_9, ↓own_10, ↓own_11, ↓own_12, ↓own_13, ↓own_14, ↓own_15, ↓own_16, ↓own_17, ↓own_18, ↓own_19, ↓own_20, ↓own_21, ↓isl_0, ↓isl_1, ↓isl_2, ↓isl_3, ↓isl_4, ↓isl_5, ↓isl_6, ↓isl_7, ↓isl_8, ↓isl_9, ↓isl_10, ↓isl_11, ↓isl_12, ↓isl_13, ↓isl_14, ↓isl_15, ↓isl_16, ↓isl_17, ↓isl_18, ↓isl_19, ↓isl_20, ↓isl_21, ↓gg_0, ↓gg_1, ↓gg_2, ↓gg_3, ↓gg_4, ↓gg_5, ↓gg_6, ↓gg_7, ↓gg_8, ↓gg_9, ↓gg_10, ↓gg_11, ↓gg_12, ↓gg_13, ↓gg_14, ↓gg_15, ↓gg_16, ↓gg_17, ↓gg_18, ↓gg_19, ↓gg_20, ↓gg_21, ↓po_0, ↓po_1, ↓po_2, ↓po_3, ↓po_4, ↓po_5, ↓po_6, ↓po_7, ↓po_8, ↓po_9, ↓po_10, ↓po_11, ↓po_12, ↓po_13, ↓po_14, ↓po_15, ↓po_16, ↓po_17, ↓po_18, ↓po_19, ↓po_20, ↓po_21, ↓and2_true, ↓O_0, ↓O_1, ↓wip_nil, ↓wip_cons, ↓X_fn, ↓mk_cons, ↓mk_nil, ↓mk_0, ↓cp_0, ↓cp_1, ↓cp_2, ↓cp_3, ↓cp_4, ↓cp_5, ↓cp_6, ↓cp_7, ↓cp_8, ↓cp_9, ↓cq_0, ↓cq_1, ↓cq_2, ↓cq_3, ↓cq_4, ↓cq_5, ↓cq_6, ↓cq_7, ↓cq_8, ↓cq_9, and2_t, v_ixN, fr_of, fr_l2, z_int, z_str, z_bl, z_non, z_tup, z_lst, z_nil, z_cons, v_add, v_sub, v_mulr, v_mull, v_div, v_neg, v_int, v_intb, v_abs, v_isB, v_isI, v_truB, v_isn, v_notn, v_len_t, v_len_l, v_len_s, v_max, v_min, v_app, v_tup_n, v_lst_n, fr_l0, v_tup_t, v_tup_l, v_lst_t, v_lst_l, v_sl_t, v_sl_l, v_sl_s, v_cat_s, v_cat_t, v_cat_l, v_it_t, v_it_l, v_sq_t, v_sq_l, v_okl, v_oks, v_ss, v_big, v_big2, v_if_t, v_if_f, v_eq_iS, v_ne_iS, v_eq_sS, v_eq_ii, v_ne_ii, v_eq_ss, v_ne_ss, v_eq_bb, v_ne_bb, v_in_l, v_in_t, okP_int, okP_str, okP_bl, okP_non, n_int, n_str, n_bl, n_non, n_nil, n_cons, q_ss, q_ii, List.any_cons, List.any_nil, beq_self_eq_true, beq_true, beq_false, Bool.true_beq, Bool.false_beq, Bool.or_false, Bool.or_true, Bool.false_or, Bool.true_or, lt_ii, gt_ii, le_ii, ge_ii, mod_ii, in_non, in_bl, in_int, in_str, in_tup, in_lst, v_i_tuple_non, v_i_tuple_bl, v_i_tuple_int, v_i_tuple_str, v_i_tuple_tup, v_i_tuple_lst, v_i_list_non, v_i_list_bl, v_i_list_int, v_i_list_str, v_i_list_tup, v_i_list_lst, v_i_str_non, v_i_str_bl, v_i_str_int, v_i_str_str, v_i_str_tup, v_i_str_lst, v_i_int_non, v_i_int_bl, v_i_int_int, v_i_int_str, v_i_int_tup, v_i_int_lst, v_i_bool_non, v_i_bool_bl, v_i_bool_int, v_i_bool_str, v_i_bool_tup, v_i_bool_lst, v_ixt_0, v_ixl_0, v_set_0, v_ixN_0, v_ixt_1, v_ixl_1, v_set_1, v_ixN_1, v_ixt_2, v_ixl_2, v_set_2, v_ixN_2, v_ixt_3, v_ixl_3, v_set_3, v_ixN_3, v_ixt_4, v_ixl_4, v_set_4, v_ixN_4, v_ixt_5, v_ixl_5, v_set_5, v_ixN_5, v_ixt_6, v_ixl_6, v_set_6, v_ixN_6, v_ixt_7, v_ixl_7, v_set_7, v_ixN_7, v_ixt_8, v_ixl_8, v_set_8, v_ixN_8, v_ixt_9, v_ixl_9, v_set_9, v_ixN_9, v_ixt_10, v_ixl_10, v_set_10, v_ixN_10, v_ixt_11, v_ixl_11, v_set_11, v_ixN_11, v_ixt_12, v_ixl_12, v_set_12, v_ixN_12, Bool.and_self, Bool.and_true, Bool.true_and, Bool.not_true, Bool.not_false, true_and, and_true, decide_true, decide_false, List.length_cons, List.length_nil, Nat.reduceAdd, Nat.reduceLeDiff, Int.reduceLT, Int.reduceLE, Int.reduceNeg, Int.reduceEq, Int.reduceAdd, Int.reduceSub, ofStr_inj, String.reduceEq, eq_self, ne_eq, not_true_eq_false, not_false_eq_true, forall_const, true_implies, false_implies, imp_self, implies_true, Int.reduceToNat, Nat.reduceLT, List.length_map, reduceIte, Bool.false_eq_true, Bool.true_eq_false, *])
local macro_rules | `(tactic| walk_at "fn") => `(tactic| ((with_reducible apply F_env); (· repeat constructor)))
local macro_rules | `(tactic| walk_at "sl") => `(tactic| simp -dsimp only [↓E_c, ↓E_var, ↓E_frz, ↓E_mov, ↓A_io, ↓E_chk, ↓E_give, ↓E_bin, ↓E_un, ↓E_tup, ↓E_lst, ↓A_nil, ↓A_cons, ↓A_arg, ↓E_if, ↓S_if, ↓T_and, ↓T_or, ↓T_test, ↓T_tru, ↓T_not, ↓T_yes, ↓E_andV, ↓E_orV, ↓E_notV, ↓E_mt, ↓E_sl, ↓O_no, ↓O_part, ↓S_skip, ↓S_break, ↓S_cont, ↓S_retN, ↓S_seq, ↓S_drop, ↓S_ret, ↓S_asg, ↓E_mut, ↓S_setS, ↓E_call, ↓I_seq, ↓I_enum, ↓I_rng1, ↓I_rng2, ↓E_lstRg, ↓opt_some, ↓br_t, ↓br_f, ↓br_d, ↓br_n, ↓gg_tup, ↓ggs_cons, ↓ggs_nil, ↓fr_i, ↓fr_s, ↓fr_b, ↓fr_n, ↓at_0, ↓at_1, ↓at_2, ↓at_3, ↓at_4, ↓at_5, ↓at_6, ↓at_7, ↓at_8, ↓at_9, ↓at_10, ↓at_11, ↓at_12, ↓at_13, ↓at_14, ↓at_15, ↓at_16, ↓at_17, ↓at_18, ↓at_19, ↓at_20, ↓at_21, ↓tak_0, ↓tak_1, ↓tak_2, ↓tak_3, ↓tak_4, ↓tak_5, ↓tak_6, ↓tak_7, ↓tak_8, ↓tak_9, ↓tak_10, ↓tak_11, ↓tak_12, ↓tak_13, ↓tak_14, ↓tak_15, ↓tak_16, ↓tak_17, ↓tak_18, ↓tak_19, ↓tak_20, ↓tak_21, ↓put_0, ↓put_1, ↓put_2, ↓put_3, ↓put_4, ↓put_5, ↓put_6, ↓put_7, ↓put_8, ↓put_9, ↓put_10, ↓put_11, ↓put_12, ↓put_13, ↓put_14, ↓put_15, ↓put_16, ↓put_17, ↓put_18, ↓put_19, ↓put_20, ↓put_21, ↓own_0, ↓own_1, ↓own_2, ↓own_3, ↓own_4, ↓own_5, ↓own_6, ↓own_7, ↓own_8, ↓own_9, ↓own_10, ↓own_11, ↓own_12, ↓own_13, ↓own_14, ↓own_15, ↓own_16, ↓own_17, ↓own_18, ↓own_19, ↓own_20, ↓own_21, ↓isl_0, ↓isl_1, ↓isl_2, ↓isl_3, ↓isl_4, ↓isl_5, ↓isl_6, ↓isl_7, ↓isl_8, ↓isl_9, ↓isl_10, ↓isl_11, ↓isl_12, ↓isl_13, ↓isl_14, ↓isl_15, ↓isl_16, ↓isl_17, ↓isl_18, ↓isl_19, ↓isl_20, ↓isl_21, ↓gg_0, ↓gg_1, ↓gg_2, ↓gg_3, ↓gg_4, ↓gg_5, ↓gg_6, ↓gg_7, ↓gg_8, ↓gg_9, ↓gg_10, ↓gg_11, ↓gg_12, ↓gg_13, ↓gg_14, ↓gg_15, ↓gg_16, ↓gg_17, ↓gg_18, ↓gg_19, ↓gg_20, ↓gg_21, ↓po_0, ↓po_1, ↓po_2, ↓po_3, ↓po_4, ↓po_5, ↓po_6, ↓po_7, ↓po_8, ↓po_9, ↓po_10, ↓po_11, ↓po_12, ↓po_13, ↓po_14, ↓po_15, ↓po_16, ↓po_17, ↓po_18, ↓po_19, ↓po_20, ↓po_21, ↓and2_true, ↓O_0, ↓O_1, ↓wip_nil, ↓wip_cons, ↓X_fn, ↓mk_cons, ↓mk_nil, ↓mk_0, ↓cp_0, ↓cp_1, ↓cp_2, ↓cp_3, ↓cp_4, ↓cp_5, ↓cp_6, ↓cp_7, ↓cp_8, ↓cp_9, ↓cq_0, ↓cq_1, ↓cq_2, ↓cq_3, ↓cq_4, ↓cq_5, ↓cq_6, ↓cq_7, ↓cq_8, ↓cq_9, and2_t, v_ixN, fr_of, fr_l2, z_int, z_str, z_bl, z_non, z_tup, z_lst, z_nil, z_cons, v_add, v_sub, v_mulr, v_mull, v_div, v_neg, v_int, v_intb, v_abs, v_isB, v_isI, v_truB, v_isn, v_notn, v_len_t, v_len_l, v_len_s, v_max, v_min, v_app, v_tup_n, v_lst_n, fr_l0, v_tup_t, v_tup_l, v_lst_t, v_lst_l, v_sl_t, v_sl_l, v_sl_s, v_cat_s, v_cat_t, v_cat_l, v_it_t, v_it_l, v_sq_t, v_sq_l, v_okl, v_oks, v_ss, v_big, v_big2, v_if_t, v_if_f, v_eq_iS, v_ne_iS, v_eq_sS, v_eq_ii, v_ne_ii, v_eq_ss, v_ne_ss, v_eq_bb, v_ne_bb, v_in_l, v_in_t, okP_int, okP_str, okP_bl, okP_non, n_int, n_str, n_bl, n_non, n_nil, n_cons, q_ss, q_ii, List.any_cons, List.any_nil, beq_self_eq_true, beq_true, beq_false, Bool.true_beq, Bool.false_beq, Bool.or_false, Bool.or_true, Bool.false_or, Bool.true_or, lt_ii, gt_ii, le_ii, ge_ii, mod_ii, in_non, in_bl, in_int, in_str, in_tup, in_lst, v_i_tuple_non, v_i_tuple_bl, v_i_tuple_int, v_i_tuple_str, v_i_tuple_tup, v_i_tuple_lst, v_i_list_non, v_i_list_bl, v_i_list_int, v_i_list_str, v_i_list_tup, v_i_list_lst, v_i_str_non, v_i_str_bl, v_i_str_int, v_i_str_str, v_i_str_tup, v_i_str_lst, v_i_int_non, v_i_int_bl, v_i_int_int, v_i_int_str, v_i_int_tup, v_i_int_lst, v_i_bool_non, v_i_bool_bl, v_i_bool_int, v_i_bool_str, v_i_bool_tup, v_i_bool_lst, v_ixt_0, v_ixl_0, v_set_0, v_ixN_0, v_ixt_1, v_ixl_1, v_set_1, v_ixN_1, v_ixt_2, v_ixl_2, v_set_2, v_ixN_2, v_ixt_3, v_ixl_3, v_set_3, v_ixN_3, v_ixt_4, v_ixl_4, v_set_4, v_ixN_4, v_ixt_5, v_ixl_5, v_set_5, v_ixN_5, v_ixt_6, v_ixl_6, v_set_6, v_ixN_6, v_ixt_7, v_ixl_7, v_set_7, v_ixN_7, v_ixt_8, v_ixl_8, v_set_8, v_ixN_8, v_ixt_9, v_ixl_9, v_set_9, v_ixN_9, v_ixt_10, v_ixl_10, v_set_10, v_ixN_10, v_ixt_11, v_ixl_11, v_set_11, v_ixN_11, v_ixt_12, v_ixl_12, v_set_12, v_ixN_12, Bool.and_self, Bool.and_true, Bool.true_and, Bool.not_true, Bool.not_false, true_and, and_true, decide_true, decide_false, List.length_cons, List.length_nil, Nat.reduceAdd, Nat.reduceLeDiff, Int.reduceLT, Int.reduceLE, Int.reduceNeg, Int.reduceEq, Int.reduceAdd, Int.reduceSub, ofStr_inj, String.reduceEq, eq_self, ne_eq, not_true_eq_false, not_false_eq_true, forall_const, true_implies, false_implies, imp_self, implies_true, Int.reduceToNat, Nat.reduceLT, List.length_map, reduceIte, Bool.false_eq_true, Bool.true_eq_false, ↓O_X, *, ↓E_lcR, ↓lc_nil, ↓lc_cons, List.nil_append, List.cons_append, Fn_has_key, B_has_key, Fn_is_empty, B_is_empty, Fn_lesser_high, B_lesser_high, Fn_common_part, B_common_part, Fn_is_overlapping, B_is_overlapping, Fn_is_covering, B_is_covering, Fn_join_of, B_join_of, Fn_left_of, B_left_of, Fn__law_a_has, B__law_a_has, Fn__law_a_common, B__law_a_common, Fn__law_a_join, B__law_a_join, Fn__law_a_left, B__law_a_left])
theorem sm_key {b : Bool} {m n : Nat} {x : D} (h : Kp b m x) : Sm (n + 2) x := by
  rcases h with ⟨_, s, rfl, _⟩ | ⟨_, s, u, rfl, _, _⟩
  · exact sm_str
  · refine sm_tup (fun x hx => ?_) (show 2 < 1000000 by decide)
    simp only [List.mem_cons, List.not_mem_nil, or_false] at hx
    rcases hx with rfl | rfl <;> exact sm_str
theorem sm_t0 {n : Nat} : Sm (n + 1) (.tup []) := sm_tup (fun x hx => (nomatch hx)) (show 0 < 1000000 by decide)
theorem sm_t1 {n : Nat} {x : D} (h : Sm n x) : Sm (n + 1) (.tup [x]) := sm_tup (fun y hy => by rw [List.mem_singleton.mp hy]; exact h) (show 1 < 1000000 by decide)
theorem sm_t2 {n : Nat} {x y : D} (h : Sm n x) (k : Sm n y) : Sm (n + 1) (.tup [x, y]) := sm_tup (fun z hz => by
  simp only [List.mem_cons, List.not_mem_nil, or_false] at hz
  rcases hz with rfl | rfl <;> assumption) (show 2 < 1000000 by decide)
def CovN (a d d0 : D) : Prop := OkF Fn_is_covering [a, d] fun w os => os = [] ∧ OkF Fn__law_a_has [a, d0] fun x os => os = [] ∧ ∃ v1, w = .bl v1 ∧ x = .bl v1
def CovK (a d a1 d0 : D) : Prop := OkF Fn_is_covering [a, d] fun w os => os = [] ∧ OkF Fn__law_a_has [a, d0] fun x os => os = [] ∧ @Opt _ (maxA a1 d0) fun m => m.frz = true ∧ OkF Fn__law_a_has [d, m] fun y os => os = [] ∧ ∃ v1 v2, w = .bl (v1 && !v2) ∧ x = .bl v1 ∧ y = .bl v2
/-- what two intervals tell -/
structure Two (a d a0 d0 : D) : Prop where
  over : OkF Fn_is_overlapping [a, d] fun w os => os = [] ∧ OkF Fn__law_a_has [a, d0] fun x os => os = [] ∧ OkF Fn__law_a_has [d, a0] fun y os => os = [] ∧ ∃ v1 v2, w = .bl (v1 || v2) ∧ x = .bl v1 ∧ y = .bl v2
  comm : OkF Fn_common_part [a, d] fun x os => os = [] ∧ OkF Fn__law_a_common [a, d] fun y os => os = [] ∧ y = x ∧ Sm 4 x
  join : OkF Fn_join_of [a, d] fun x os => os = [] ∧ OkF Fn__law_a_join [a, d] fun y os => os = [] ∧ y = x ∧ Sm 4 x
  left : OkF Fn_left_of [a, d] fun x os => os = [] ∧ OkF Fn__law_a_left [a, d] fun y os => os = [] ∧ y = x ∧ Sm 4 x
theorem two_fn {b : Bool} {a0 a1 d0 : D} (h_a0 : Kp b 301 a0) (h_a1 : Kp b 301 a1) (h_d0 : Kp b 301 d0) (h_a : ltB a0 a1 = true) : Two (.tup [a0, a1]) (.tup [d0, .non]) a0 d0 ∧ CovK (.tup [a0, a1]) (.tup [d0, .non]) a1 d0 := by
  have z_a0 := h_a0.frz
  have y_a0 := h_a0.notN
  have s_a0 : Sm 2 a0 := sm_key h_a0
  have t_a0 : Sm 3 a0 := sm_key h_a0
  have z_a1 := h_a1.frz
  have y_a1 := h_a1.notN
  have s_a1 : Sm 2 a1 := sm_key h_a1
  have t_a1 : Sm 3 a1 := sm_key h_a1
  have z_d0 := h_d0.frz
  have y_d0 := h_d0.notN
  have s_d0 : Sm 2 d0 := sm_key h_d0
  have t_d0 : Sm 3 d0 := sm_key h_d0
  obtain ⟨r, r1, r2, r3, r4, T, r6⟩ := rank_facts (b := b) (n := 301) [a0, a1, d0] (fun x hx => by
    simp only [List.mem_cons, List.not_mem_nil, or_false] at hx
    rcases hx with rfl | rfl | rfl <;> assumption)
  have m_a0 : a0 ∈ [a0, a1, d0] := List.mem_cons_self
  have m_a1 : a1 ∈ [a0, a1, d0] := List.mem_cons_of_mem _ (List.mem_cons_self)
  have m_d0 : d0 ∈ [a0, a1, d0] := List.mem_cons_of_mem _ (List.mem_cons_of_mem _ (List.mem_cons_self))
  have k1 := r6 _ m_a0 _ m_a1 h_a
  have k3 : ¬ r a1 < r a0 := by omega
  generalize [a0, a1, d0] = L at *
  have irr : ∀ x, ¬ (r x < r x) := fun x => Int.lt_irrefl _
  clear r6 h_a0 h_a1 h_d0 h_a
  rcases T _ m_a0 _ m_d0 with ⟨q0, p0⟩ | ⟨q0, p0⟩ | ⟨q0, p0⟩ <;> first | (exfalso; omega) | skip
  all_goals rcases T _ m_a1 _ m_d0 with ⟨q1, p1⟩ | ⟨q1, p1⟩ | ⟨q1, p1⟩ <;> first | (exfalso; omega) | skip
  all_goals clear T
  all_goals refine ⟨⟨?_, ?_, ?_, ?_⟩, ?_⟩
  all_goals first | unfold CovK | unfold CovN | skip
  all_goals walk_at "sl"
  all_goals first
    | (with_reducible exact sm_non)
    | ((with_reducible apply sm_t2) <;> first | assumption | (with_reducible exact sm_non))
    | (with_reducible exact sm_t0)
    | ((with_reducible apply sm_t1); (with_reducible apply sm_t2) <;> first | assumption | (with_reducible exact sm_non))
    | ((with_reducible apply sm_t2) <;> (with_reducible apply sm_t2) <;> first | assumption | (with_reducible exact sm_non))
    | exact ⟨_, rfl, rfl⟩ | exact ⟨_, _, rfl, rfl, rfl⟩ | exact ⟨true, false, rfl, rfl, rfl⟩ | exact ⟨true, true, rfl, rfl, rfl⟩ | exact ⟨false, true, rfl, rfl, rfl⟩ | exact ⟨false, false, rfl, rfl, rfl⟩
    | fail
theorem two_nf {b : Bool} {a0 d0 d1 : D} (h_a0 : Kp b 301 a0) (h_d0 : Kp b 301 d0) (h_d1 : Kp b 301 d1) (h_d : ltB d0 d1 = true) : Two (.tup [a0, .non]) (.tup [d0, d1]) a0 d0 ∧ CovN (.tup [a0, .non]) (.tup [d0, d1]) d0 := by
  have z_a0 := h_a0.frz
  have y_a0 := h_a0.notN
  have s_a0 : Sm 2 a0 := sm_key h_a0
  have t_a0 : Sm 3 a0 := sm_key h_a0
  have z_d0 := h_d0.frz
  have y_d0 := h_d0.notN
  have s_d0 : Sm 2 d0 := sm_key h_d0
  have t_d0 : Sm 3 d0 := sm_key h_d0
  have z_d1 := h_d1.frz
  have y_d1 := h_d1.notN
  have s_d1 : Sm 2 d1 := sm_key h_d1
  have t_d1 : Sm 3 d1 := sm_key h_d1
  obtain ⟨r, r1, r2, r3, r4, T, r6⟩ := rank_facts (b := b) (n := 301) [a0, d0, d1] (fun x hx => by
    simp only [List.mem_cons, List.not_mem_nil, or_false] at hx
    rcases hx with rfl | rfl | rfl <;> assumption)
  have m_a0 : a0 ∈ [a0, d0, d1] := List.mem_cons_self
  have m_d0 : d0 ∈ [a0, d0, d1] := List.mem_cons_of_mem _ (List.mem_cons_self)
  have m_d1 : d1 ∈ [a0, d0, d1] := List.mem_cons_of_mem _ (List.mem_cons_of_mem _ (List.mem_cons_self))
  have k2 := r6 _ m_d0 _ m_d1 h_d
  have k4 : ¬ r d1 < r d0 := by omega
  generalize [a0, d0, d1] = L at *
  have irr : ∀ x, ¬ (r x < r x) := fun x => Int.lt_irrefl _
  clear r6 h_a0 h_d0 h_d1 h_d
  rcases T _ m_a0 _ m_d0 with ⟨q0, p0⟩ | ⟨q0, p0⟩ | ⟨q0, p0⟩ <;> first | (exfalso; omega) | skip
  all_goals rcases T _ m_a0 _ m_d1 with ⟨q1, p1⟩ | ⟨q1, p1⟩ | ⟨q1, p1⟩ <;> first | (exfalso; omega) | skip
  all_goals clear T
  all_goals refine ⟨⟨?_, ?_, ?_, ?_⟩, ?_⟩
  all_goals first | unfold CovK | unfold CovN | skip
  all_goals walk_at "sl"
  all_goals first
    | (with_reducible exact sm_non)
    | ((with_reducible apply sm_t2) <;> first | assumption | (with_reducible exact sm_non))
    | (with_reducible exact sm_t0)
    | ((with_reducible apply sm_t1); (with_reducible apply sm_t2) <;> first | assumption | (with_reducible exact sm_non))
    | ((with_reducible apply sm_t2) <;> (with_reducible apply sm_t2) <;> first | assumption | (with_reducible exact sm_non))
    | exact ⟨_, rfl, rfl⟩ | exact ⟨_, _, rfl, rfl, rfl⟩ | exact ⟨true, false, rfl, rfl, rfl⟩ | exact ⟨true, true, rfl, rfl, rfl⟩ | exact ⟨false, true, rfl, rfl, rfl⟩ | exact ⟨false, false, rfl, rfl, rfl⟩
    | fail
theorem two_nn {b : Bool} {a0 d0 : D} (h_a0 : Kp b 301 a0) (h_d0 : Kp b 301 d0) : Two (.tup [a0, .non]) (.tup [d0, .non]) a0 d0 ∧ CovN (.tup [a0, .non]) (.tup [d0, .non]) d0 := by
  have z_a0 := h_a0.frz
  have y_a0 := h_a0.notN
  have s_a0 : Sm 2 a0 := sm_key h_a0
  have t_a0 : Sm 3 a0 := sm_key h_a0
  have z_d0 := h_d0.frz
  have y_d0 := h_d0.notN
  have s_d0 : Sm 2 d0 := sm_key h_d0
  have t_d0 : Sm 3 d0 := sm_key h_d0
  obtain ⟨r, r1, r2, r3, r4, T, r6⟩ := rank_facts (b := b) (n := 301) [a0, d0] (fun x hx => by
    simp only [List.mem_cons, List.not_mem_nil, or_false] at hx
    rcases hx with rfl | rfl <;> assumption)
  have m_a0 : a0 ∈ [a0, d0] := List.mem_cons_self
  have m_d0 : d0 ∈ [a0, d0] := List.mem_cons_of_mem _ (List.mem_cons_self)
  generalize [a0, d0] = L at *
  have irr : ∀ x, ¬ (r x < r x) := fun x => Int.lt_irrefl _
  clear r6 h_a0 h_d0
  rcases T _ m_a0 _ m_d0 with ⟨q0, p0⟩ | ⟨q0, p0⟩ | ⟨q0, p0⟩ <;> first | (exfalso; omega) | skip
  all_goals clear T
  all_goals refine ⟨⟨?_, ?_, ?_, ?_⟩, ?_⟩
  all_goals first | unfold CovK | unfold CovN | skip
  all_goals walk_at "sl"
  all_goals first
    | (with_reducible exact sm_non)
    | ((with_reducible apply sm_t2) <;> first | assumption | (with_reducible exact sm_non))
    | (with_reducible exact sm_t0)
    | ((with_reducible apply sm_t1); (with_reducible apply sm_t2) <;> first | assumption | (with_reducible exact sm_non))
    | ((with_reducible apply sm_t2) <;> (with_reducible apply sm_t2) <;> first | assumption | (with_reducible exact sm_non))
    | exact ⟨_, rfl, rfl⟩ | exact ⟨_, _, rfl, rfl, rfl⟩ | exact ⟨true, false, rfl, rfl, rfl⟩ | exact ⟨true, true, rfl, rfl, rfl⟩ | exact ⟨false, true, rfl, rfl, rfl⟩ | exact ⟨false, false, rfl, rfl, rfl⟩
    | fail
end K00
end

section
set_option linter.all false
set_option maxRecDepth 100000
set_option maxHeartbeats 8000000
namespace K00
open PySem L2 Fw
local macro_rules | `(tactic| walk_at "sx") => `(tactic| simp -dsimp only [↓E_c, ↓E_var, ↓E_frz, ↓E_mov, ↓A_io, ↓E_chk, ↓E_give, ↓E_bin, ↓E_un, ↓E_tup, ↓E_lst, ↓A_nil, ↓A_cons, ↓A_arg, ↓E_if, ↓S_if, ↓T_and, ↓T_or, ↓T_test, ↓T_tru, ↓T_not, ↓T_yes, ↓E_andV, ↓E_orV, ↓E_notV, ↓E_mt, ↓E_sl, ↓O_no, ↓O_part, ↓S_skip, ↓S_break, ↓S_cont, ↓S_retN, ↓S_seq, ↓S_drop, ↓S_ret, ↓S_asg, ↓E_mut, ↓S_setS, ↓E_call, ↓I_seq, ↓I_enum, ↓I_rng1, ↓I_rng2, ↓E_lstRg, ↓opt_some, ↓br_t, ↓br_f, ↓br_d, ↓br_n, ↓gg_tup, ↓ggs_cons, ↓ggs_nil, ↓fr_i, ↓fr_s, ↓fr_b, ↓fr_n, ↓at_0, ↓at_1, ↓at_2, ↓at_3, ↓at_4, ↓at_5, ↓at_6, ↓at_7, ↓at_8, ↓at_9, ↓at_10, ↓at_11, ↓at_12, ↓at_13, ↓at_14, ↓at_15, ↓at_16, ↓at_17, ↓at_18, ↓at_19, ↓at_20, ↓at_21, ↓tak_0, ↓tak_1, ↓tak_2, ↓tak_3, ↓tak_4, ↓tak_5, ↓tak_6, ↓tak_7, ↓tak_8, ↓tak_9, ↓tak_10, ↓tak_11, ↓tak_12, ↓tak_13, ↓tak_14, ↓tak_15, ↓tak_16, ↓tak_17, ↓tak_18, ↓tak_19, ↓tak_20, ↓tak_21, ↓put_0, ↓put_1, ↓put_2, ↓put_3, ↓put_4, ↓put_5, ↓put_6, ↓put_7, ↓put_8, ↓put_9, ↓put_10, ↓put_11, ↓put_12, ↓put_13, ↓put_14, ↓put_15, ↓put_16, ↓put_17, ↓put_18, ↓put_19, ↓put_20, ↓put_21, ↓own_0, ↓own_1, ↓own_2, ↓own_3, ↓own_4, ↓own_5, ↓own_6, ↓own_7, ↓own_8, ↓own_9, ↓own_10, ↓own_11, ↓own_12, ↓own_13, ↓own_14, ↓own_15, ↓own_16, ↓own_17, ↓own_18, ↓own_19, ↓own_20, ↓own_21, ↓isl_0, ↓isl_1, ↓isl_2, ↓isl_3, ↓isl_4, ↓isl_5, ↓isl_6, ↓isl_7, ↓isl_8, ↓isl_9, ↓isl_10, ↓isl_11, ↓isl_12, ↓isl_13, ↓isl_14, ↓isl_15, ↓isl_16, ↓isl_17, ↓isl_18, ↓isl_19, ↓isl_20, ↓isl_21, ↓gg_0, ↓gg_1, ↓gg_2, ↓gg_3, ↓gg_4, ↓gg_5, ↓gg_6, ↓gg_7, ↓gg_8, ↓gg_9, ↓gg_10, ↓gg_11, ↓gg_12, ↓gg_13, ↓gg_14, ↓gg_15, ↓gg_16, ↓gg_17, ↓gg_18, ↓gg_19, ↓gg_20, ↓gg_21, ↓po_0, ↓po_1, ↓po_2, ↓po_3, ↓po_4, ↓po_5, ↓po_6, ↓po_7, ↓po_8, ↓po_9, ↓po_10, ↓po_11, ↓po_12, ↓po_13, ↓po_14, ↓po_15, ↓po_16, ↓po_17, ↓po_18, ↓po_19, ↓po_20, ↓po_21, ↓and2_true, ↓O_0, ↓O_1, ↓wip_nil, ↓wip_cons, ↓X_fn, ↓mk_cons, ↓mk_nil, ↓mk_0, ↓cp_0, ↓cp_1, ↓cp_2, ↓cp_3, ↓cp_4, ↓cp_5, ↓cp_6, ↓cp_7, ↓cp_8, ↓cp_9, ↓cq_0, ↓cq_1, ↓cq_2, ↓cq_3, ↓cq_4, ↓cq_5, ↓cq_6, ↓cq_7, ↓cq_8, ↓cq_9, and2_t, v_ixN, fr_of, fr_l2, z_int, z_str, z_bl, z_non, z_tup, z_lst, z_nil, z_cons, v_add, v_sub, v_mulr, v_mull, v_div, v_neg, v_int, v_intb, v_abs, v_isB, v_isI, v_truB, v_isn, v_notn, v_len_t, v_len_l, v_len_s, v_max, v_min, v_app, v_tup_n, v_lst_n, fr_l0, v_tup_t, v_tup_l, v_lst_t, v_lst_l, v_sl_t, v_sl_l, v_sl_s, v_cat_s, v_cat_t, v_cat_l, v_it_t, v_it_l, v_sq_t, v_sq_l, v_okl, v_oks, v_ss, v_big, v_big2, v_if_t, v_if_f, v_eq_iS, v_ne_iS, v_eq_sS, v_eq_ii, v_ne_ii, v_eq_ss, v_ne_ss, v_eq_bb, v_ne_bb, v_in_l, v_in_t, okP_int, okP_str, okP_bl, okP_non, n_int, n_str, n_bl, n_non, n_nil, n_cons, q_ss, q_ii, List.any_cons, List.any_nil, beq_self_eq_true, beq_true, beq_false, Bool.true_beq, Bool.false_beq, Bool.or_false, Bool.or_true, Bool.false_or, Bool.true_or, lt_ii, gt_ii, le_ii, ge_ii, mod_ii, in_non, in_bl, in_int, in_str, in_tup, in_lst, v_i_tuple_non, v_i_tuple_bl, v_i_tuple_int, v_i_tuple_str, v_i_tuple_tup, v_i_tuple_lst, v_i_list_non, v_i_list_bl, v_i_list_int, v_i_list_str, v_i_list_tup, v_i_list_lst, v_i_str_non, v_i_str_bl, v_i_str_int, v_i_str_str, v_i_str_tup, v_i_str_lst, v_i_int_non, v_i_int_bl, v_i_int_int, v_i_int_str, v_i_int_tup, v_i_int_lst, v_i_bool_non, v_i_bool_bl, v_i_bool_int, v_i_bool_str, v_i_bool_tup, v_i_bool_lst, v_ixt_0, v_ixl_0, v_set_0, v_ixN_0, v_ixt_1, v_ixl_1, v_set_1, v_ixN_1, v_ixt_2, v_ixl_2, v_set_2, v_ixN_2, v_ixt_3, v_ixl_3, v_set_3, v_ixN_3, v_ixt_4, v_ixl_4, v_set_4, v_ixN_4, v_ixt_5, v_ixl_5, v_set_5, v_ixN_5, v_ixt_6, v_ixl_6, v_set_6, v_ixN_6, v_ixt_7, v_ixl_7, v_set_7, v_ixN_7, v_ixt_8, v_ixl_8, v_set_8, v_ixN_8, v_ixt_9, v_ixl_9, v_set_9, v_ixN_9, v_ixt_10, v_ixl_10, v_set_10, v_ixN_10, v_ixt_11, v_ixl_11, v_set_11, v_ixN_11, v_ixt_12, v_ixl_12, v_set_12, v_ixN_12, Bool.and_self, Bool.and_true, Bool.true_and, Bool.not_true, Bool.not_false, true_and, and_true, decide_true, decide_false, List.length_cons, List.length_nil, Nat.reduceAdd, Nat.reduceLeDiff, Int.reduceLT, Int.reduceLE, Int.reduceNeg, Int.reduceEq, Int.reduceAdd, Int.reduceSub, ofStr_inj, String.reduceEq, eq_self, ne_eq, not_true_eq_false, not_false_eq_true, forall_const, true_implies, false_implies, imp_self, implies_true, Int.reduceToNat, Nat.reduceLT, List.length_map, reduceIte, Bool.false_eq_true, Bool.true_eq_false])
local macro_rules | `(tactic| walk_at "sy") => `(tactic| simp -dsimp only [↓E_c, ↓E_var, ↓E_frz, ↓E_mov, ↓A_io, ↓E_chk, ↓E_give, ↓E_bin, ↓E_un, ↓E_tup, ↓E_lst, ↓A_nil, ↓A_cons, ↓A_arg, ↓E_if, ↓S_if, ↓T_and, ↓T_or, ↓T_test, ↓T_tru, ↓T_not, ↓T_yes, ↓E_andV, ↓E_orV, ↓E_notV, ↓E_mt, ↓E_sl, ↓O_no, ↓O_part, ↓S_skip, ↓S_break, ↓S_cont, ↓S_retN, ↓S_seq, ↓S_drop, ↓S_ret, ↓S_asg, ↓E_mut, ↓S_setS, ↓E_call, ↓I_seq, ↓I_enum, ↓I_rng1, ↓I_rng2, ↓E_lstRg, ↓opt_some, ↓br_t, ↓br_f, ↓br_d, ↓br_n, ↓gg_tup, ↓ggs_cons, ↓ggs_nil, ↓fr_i, ↓fr_s, ↓fr_b, ↓fr_n, ↓at_0, ↓at_1, ↓at_2, ↓at_3, ↓at_4, ↓at_5, ↓at_6, ↓at_7, ↓at_8, ↓at_9, ↓at_10, ↓at_11, ↓at_12, ↓at_13, ↓at_14, ↓at_15, ↓at_16, ↓at_17, ↓at_18, ↓at_19, ↓at_20, ↓at_21, ↓tak_0, ↓tak_1, ↓tak_2, ↓tak_3, ↓tak_4, ↓tak_5, ↓tak_6, ↓tak_7, ↓tak_8, ↓tak_9, ↓tak_10, ↓tak_11, ↓tak_12, ↓tak_13, ↓tak_14, ↓tak_15, ↓tak_16, ↓tak_17, ↓tak_18, ↓tak_19, ↓tak_20, ↓tak_21, ↓put_0, ↓put_1, ↓put_2, ↓put_3, ↓put_4, ↓put_5, ↓put_6, ↓put_7, ↓put_8, ↓put_9, ↓put_10, ↓put_11, ↓put_12, ↓put_13, ↓put_14, ↓put_15, ↓put_16, ↓put_17, ↓put_18, ↓put_19, ↓put_20, ↓put_21, ↓own_0, ↓own_1, ↓own_2, ↓own_3, ↓own_4, ↓own_5, ↓own_6, ↓own_7, ↓own_8, ↓own_9, ↓own_10, ↓own_11, ↓own_12, ↓own_13, ↓own_14, ↓own_15, ↓own_16, ↓own_17, ↓own_18, ↓own_19, ↓own_20, ↓own_21, ↓isl_0, ↓isl_1, ↓isl_2, ↓isl_3, ↓isl_4, ↓isl_5, ↓isl_6, ↓isl_7, ↓isl_8, ↓isl_9, ↓isl_10, ↓isl_11, ↓isl_12, ↓isl_13, ↓isl_14, ↓isl_15, ↓isl_16, ↓isl_17, ↓isl_18, ↓isl_19, ↓isl_20, ↓isl_21, ↓gg_0, ↓gg_1, ↓gg_2, ↓gg_3, ↓gg_4, ↓gg_5, ↓gg_6, ↓gg_7, ↓gg_8, ↓gg_9, ↓gg_10, ↓gg_11, ↓gg_12, ↓gg_13, ↓gg_14, ↓gg_15, ↓gg_16, ↓gg_17, ↓gg_18, ↓gg_19, ↓gg_20, ↓gg_21, ↓po_0, ↓po_1, ↓po_2, ↓po_3, ↓po_4, ↓po_5, ↓po_6, ↓po_7, ↓po_8, ↓po_9, ↓po_10, ↓po_11, ↓po_12, ↓po_13, ↓po_14, ↓po_15, ↓po_16, ↓po_17, ↓po_18, ↓po_19, ↓po_20, ↓po_21, ↓and2_true, ↓O_0, ↓O_1, ↓wip_nil, ↓wip_cons, ↓X_fn, ↓mk_cons, ↓mk_nil, ↓mk_0, ↓cp_0, ↓cp_1, ↓cp_2, ↓cp_3, ↓cp_4, ↓cp_5, ↓cp_6, ↓cp_7, ↓cp_8, ↓cp_9, ↓cq_0, ↓cq_1, ↓cq_2, ↓cq_3, ↓cq_4, ↓cq_5, ↓cq_6, ↓cq_7, ↓cq_8, ↓cq_9, and2_t, v_ixN, fr_of, fr_l2, z_int, z_str, z_bl, z_non, z_tup, z_lst, z_nil, z_cons, v_add, v_sub, v_mulr, v_mull, v_div, v_neg, v_int, v_intb, v_abs, v_isB, v_isI, v_truB, v_isn, v_notn, v_len_t, v_len_l, v_len_s, v_max, v_min, v_app, v_tup_n, v_lst_n, fr_l0, v_tup_t, v_tup_l, v_lst_t, v_lst_l, v_sl_t, v_sl_l, v_sl_s, v_cat_s, v_cat_t, v_cat_l, v_it_t, v_it_l, v_sq_t, v_sq_l, v_okl, v_oks, v_ss, v_big, v_big2, v_if_t, v_if_f, v_eq_iS, v_ne_iS, v_eq_sS, v_eq_ii, v_ne_ii, v_eq_ss, v_ne_ss, v_eq_bb, v_ne_bb, v_in_l, v_in_t, okP_int, okP_str, okP_bl, okP_non, n_int, n_str, n_bl, n_non, n_nil, n_cons, q_ss, q_ii, List.any_cons, List.any_nil, beq_self_eq_true, beq_true, beq_false, Bool.true_beq, Bool.false_beq, Bool.or_false, Bool.or_true, Bool.false_or, Bool.true_or, lt_ii, gt_ii, le_ii, ge_ii, mod_ii, in_non, in_bl, in_int, in_str, in_tup, in_lst, v_i_tuple_non, v_i_tuple_bl, v_i_tuple_int, v_i_tuple_str, v_i_tuple_tup, v_i_tuple_lst, v_i_list_non, v_i_list_bl, v_i_list_int, v_i_list_str, v_i_list_tup, v_i_list_lst, v_i_str_non, v_i_str_bl, v_i_str_int, v_i_str_str, v_i_str_tup, v_i_str_lst, v_i_int_non, v_i_int_bl, v_i_int_int, v_i_int_str, v_i_int_tup, v_i_int_lst, v_i_bool_non, v_i_bool_bl, v_i_bool_int, v_i_bool_str, v_i_bool_tup, v_i_bool_lst, v_ixt_0, v_ixl_0, v_set_0, v_ixN_0, v_ixt_1, v_ixl_1, v_set_1, v_ixN_1, v_ixt_2, v_ixl_2, v_set_2, v_ixN_2, v_ixt_3, v_ixl_3, v_set_3, v_ixN_3, v_ixt_4, v_ixl_4, v_set_4, v_ixN_4, v_ixt_5, v_ixl_5, v_set_5, v_ixN_5, v_ixt_6, v_ixl_6, v_set_6, v_ixN_6, v_ixt_7, v_ixl_7, v_set_7, v_ixN_7, v_ixt_8, v_ixl_8, v_set_8, v_ixN_8, v_ixt_9, v_ixl_9, v_set_9, v_ixN_9, v_ixt_10, v_ixl_10, v_set_10, v_ixN_10, v_ixt_11, v_ixl_11, v_set_11, v_ixN_11, v_ixt_12, v_ixl_12, v_set_12, v_ixN_12, Bool.and_self, Bool.and_true, Bool.true_and, Bool.not_true, Bool.not_false, true_and, and_true, decide_true, decide_false, List.length_cons, List.length_nil, Nat.reduceAdd, Nat.reduceLeDiff, Int.reduceLT, Int.reduceLE, Int.reduceNeg, Int.reduceEq, Int.reduceAdd, Int.reduceSub, ofStr_inj, String.reduceEq, eq_self, ne_eq, not_true_eq_false, not_false_eq_true, forall_const, true_implies, false_implies, imp_self, implies_true, Int.reduceToNat, Nat.reduceLT, List.length_map, reduceIte, Bool.false_eq_true, Bool.true_eq_false, *])
local macro_rules | `(tactic| walk_at "fn") => `(tactic| ((with_reducible apply F_env); (· repeat constructor)))
local macro_rules | `(tactic| walk_at "sl") => `(tactic| simp -dsimp only [↓E_c, ↓E_var, ↓E_frz, ↓E_mov, ↓A_io, ↓E_chk, ↓E_give, ↓E_bin, ↓E_un, ↓E_tup, ↓E_lst, ↓A_nil, ↓A_cons, ↓A_arg, ↓E_if, ↓S_if, ↓T_and, ↓T_or, ↓T_test, ↓T_tru, ↓T_not, ↓T_yes, ↓E_andV, ↓E_orV, ↓E_notV, ↓E_mt, ↓E_sl, ↓O_no, ↓O_part, ↓S_skip, ↓S_break, ↓S_cont, ↓S_retN, ↓S_seq, ↓S_drop, ↓S_ret, ↓S_asg, ↓E_mut, ↓S_setS, ↓E_call, ↓I_seq, ↓I_enum, ↓I_rng1, ↓I_rng2, ↓E_lstRg, ↓opt_some, ↓br_t, ↓br_f, ↓br_d, ↓br_n, ↓gg_tup, ↓ggs_cons, ↓ggs_nil, ↓fr_i, ↓fr_s, ↓fr_b, ↓fr_n, ↓at_0, ↓at_1, ↓at_2, ↓at_3, ↓at_4, ↓at_5, ↓at_6, ↓at_7, ↓at_8, ↓at_9, ↓at_10, ↓at_11, ↓at_12, ↓at_13, ↓at_14, ↓at_15, ↓at_16, ↓at_17, ↓at_18, ↓at_19, ↓at_20, ↓at_21, ↓tak_0, ↓tak_1, ↓tak_2, ↓tak_3, ↓tak_4, ↓tak_5, ↓tak_6, ↓tak_7, ↓tak_8, ↓tak_9, ↓tak_10, ↓tak_11, ↓tak_12, ↓tak_13, ↓tak_14, ↓tak_15, ↓tak_16, ↓tak_17, ↓tak_18, ↓tak_19, ↓tak_20, ↓tak_21, ↓put_0, ↓put_1, ↓put_2, ↓put_3, ↓put_4, ↓put_5, ↓put_6, ↓put_7, ↓put_8, ↓put_9, ↓put_10, ↓put_11, ↓put_12, ↓put_13, ↓put_14, ↓put_15, ↓put_16, ↓put_17, ↓put_18, ↓put_19, ↓put_20, ↓put_21, ↓own_0, ↓own_1, ↓own_2, ↓own_3, ↓own_4, ↓own_5, ↓own_6, ↓own_7, ↓own_8, ↓own_9, ↓own_10, ↓own_11, ↓own_12, ↓own_13, ↓own_14, ↓own_15, ↓own_16, ↓own_17, ↓own_18, ↓own_19, ↓own_20, ↓own_21, ↓isl_0, ↓isl_1, ↓isl_2, ↓isl_3, ↓isl_4, ↓isl_5, ↓isl_6, ↓isl_7, ↓isl_8, ↓isl_9, ↓isl_10, ↓isl_11, ↓isl_12, ↓isl_13, ↓isl_14, ↓isl_15, ↓isl_16, ↓isl_17, ↓isl_18, ↓isl_19, ↓isl_20, ↓isl_21, ↓gg_0, ↓gg_1, ↓gg_2, ↓gg_3, ↓gg_4, ↓gg_5, ↓gg_6, ↓gg_7, ↓gg_8, ↓gg_9, ↓gg_10, ↓gg_11, ↓gg_12, ↓gg_13, ↓gg_14, ↓gg_15, ↓gg_16, ↓gg_17, ↓gg_18, ↓gg_19, ↓gg_20, ↓gg_21, ↓po_0, ↓po_1, ↓po_2, ↓po_3, ↓po_4, ↓po_5, ↓po_6, ↓po_7, ↓po_8, ↓po_9, ↓po_10, ↓po_11, ↓po_12, ↓po_13, ↓po_14, ↓po_15, ↓po_16, ↓po_17, ↓po_18, ↓po_19, ↓po_20, ↓po_21, ↓and2_true, ↓O_0, ↓O_1, ↓wip_nil, ↓wip_cons, ↓X_fn, ↓mk_cons, ↓mk_nil, ↓mk_0, ↓cp_0, ↓cp_1, ↓cp_2, ↓cp_3, ↓cp_4, ↓cp_5, ↓cp_6, ↓cp_7, ↓cp_8, ↓cp_9, ↓cq_0, ↓cq_1, ↓cq_2, ↓cq_3, ↓cq_4, ↓cq_5, ↓cq_6, ↓cq_7, ↓cq_8, ↓cq_9, and2_t, v_ixN, fr_of, fr_l2, z_int, z_str, z_bl, z_non, z_tup, z_lst, z_nil, z_cons, v_add, v_sub, v_mulr, v_mull, v_div, v_neg, v_int, v_intb, v_abs, v_isB, v_isI, v_truB, v_isn, v_notn, v_len_t, v_len_l, v_len_s, v_max, v_min, v_app, v_tup_n, v_lst_n, fr_l0, v_tup_t, v_tup_l, v_lst_t, v_lst_l, v_sl_t, v_sl_l, v_sl_s, v_cat_s, v_cat_t, v_cat_l, v_it_t, v_it_l, v_sq_t, v_sq_l, v_okl, v_oks, v_ss, v_big, v_big2, v_if_t, v_if_f, v_eq_iS, v_ne_iS, v_eq_sS, v_eq_ii, v_ne_ii, v_eq_ss, v_ne_ss, v_eq_bb, v_ne_bb, v_in_l, v_in_t, okP_int, okP_str, okP_bl, okP_non, n_int, n_str, n_bl, n_non, n_nil, n_cons, q_ss, q_ii, List.any_cons, List.any_nil, beq_self_eq_true, beq_true, beq_false, Bool.true_beq, Bool.false_beq, Bool.or_false, Bool.or_true, Bool.false_or, Bool.true_or, lt_ii, gt_ii, le_ii, ge_ii, mod_ii, in_non, in_bl, in_int, in_str, in_tup, in_lst, v_i_tuple_non, v_i_tuple_bl, v_i_tuple_int, v_i_tuple_str, v_i_tuple_tup, v_i_tuple_lst, v_i_list_non, v_i_list_bl, v_i_list_int, v_i_list_str, v_i_list_tup, v_i_list_lst, v_i_str_non, v_i_str_bl, v_i_str_int, v_i_str_str, v_i_str_tup, v_i_str_lst, v_i_int_non, v_i_int_bl, v_i_int_int, v_i_int_str, v_i_int_tup, v_i_int_lst, v_i_bool_non, v_i_bool_bl, v_i_bool_int, v_i_bool_str, v_i_bool_tup, v_i_bool_lst, v_ixt_0, v_ixl_0, v_set_0, v_ixN_0, v_ixt_1, v_ixl_1, v_set_1, v_ixN_1, v_ixt_2, v_ixl_2, v_set_2, v_ixN_2, v_ixt_3, v_ixl_3, v_set_3, v_ixN_3, v_ixt_4, v_ixl_4, v_set_4, v_ixN_4, v_ixt_5, v_ixl_5, v_set_5, v_ixN_5, v_ixt_6, v_ixl_6, v_set_6, v_ixN_6, v_ixt_7, v_ixl_7, v_set_7, v_ixN_7, v_ixt_8, v_ixl_8, v_set_8, v_ixN_8, v_ixt_9, v_ixl_9, v_set_9, v_ixN_9, v_ixt_10, v_ixl_10, v_set_10, v_ixN_10, v_ixt_11, v_ixl_11, v_set_11, v_ixN_11, v_ixt_12, v_ixl_12, v_set_12, v_ixN_12, Bool.and_self, Bool.and_true, Bool.true_and, Bool.not_true, Bool.not_false, true_and, and_true, decide_true, decide_false, List.length_cons, List.length_nil, Nat.reduceAdd, Nat.reduceLeDiff, Int.reduceLT, Int.reduceLE, Int.reduceNeg, Int.reduceEq, Int.reduceAdd, Int.reduceSub, ofStr_inj, String.reduceEq, eq_self, ne_eq, not_true_eq_false, not_false_eq_true, forall_const, true_implies, false_implies, imp_self, implies_true, Int.reduceToNat, Nat.reduceLT, List.length_map, reduceIte, Bool.false_eq_true, Bool.true_eq_false, ↓O_X, *, ↓E_lcR, ↓lc_nil, ↓lc_cons, List.nil_append, List.cons_append, Fn_has_key, B_has_key, Fn_is_empty, B_is_empty, Fn_lesser_high, B_lesser_high, Fn_common_part, B_common_part, Fn_is_overlapping, B_is_overlapping, Fn_is_covering, B_is_covering, Fn_join_of, B_join_of, Fn_left_of, B_left_of, Fn__law_a_has, B__law_a_has, Fn__law_a_common, B__law_a_common, Fn__law_a_join, B__law_a_join, Fn__law_a_left, B__law_a_left])
theorem two_ff {b : Bool} {a0 a1 d0 d1 : D} (h_a0 : Kp b 301 a0) (h_a1 : Kp b 301 a1) (h_d0 : Kp b 301 d0) (h_d1 : Kp b 301 d1) (h_a : ltB a0 a1 = true) (h_d : ltB d0 d1 = true) : Two (.tup [a0, a1]) (.tup [d0, d1]) a0 d0 ∧ CovK (.tup [a0, a1]) (.tup [d0, d1]) a1 d0 := by
  have z_a0 := h_a0.frz
  have y_a0 := h_a0.notN
  have s_a0 : Sm 2 a0 := sm_key h_a0
  have t_a0 : Sm 3 a0 := sm_key h_a0
  have z_a1 := h_a1.frz
  have y_a1 := h_a1.notN
  have s_a1 : Sm 2 a1 := sm_key h_a1
  have t_a1 : Sm 3 a1 := sm_key h_a1
  have z_d0 := h_d0.frz
  have y_d0 := h_d0.notN
  have s_d0 : Sm 2 d0 := sm_key h_d0
  have t_d0 : Sm 3 d0 := sm_key h_d0
  have z_d1 := h_d1.frz
  have y_d1 := h_d1.notN
  have s_d1 : Sm 2 d1 := sm_key h_d1
  have t_d1 : Sm 3 d1 := sm_key h_d1
  obtain ⟨r, r1, r2, r3, r4, T, r6⟩ := rank_facts (b := b) (n := 301) [a0, a1, d0, d1] (fun x hx => by
    simp only [List.mem_cons, List.not_mem_nil, or_false] at hx
    rcases hx with rfl | rfl | rfl | rfl <;> assumption)
  have m_a0 : a0 ∈ [a0, a1, d0, d1] := List.mem_cons_self
  have m_a1 : a1 ∈ [a0, a1, d0, d1] := List.mem_cons_of_mem _ (List.mem_cons_self)
  have m_d0 : d0 ∈ [a0, a1, d0, d1] := List.mem_cons_of_mem _ (List.mem_cons_of_mem _ (List.mem_cons_self))
  have m_d1 : d1 ∈ [a0, a1, d0, d1] := List.mem_cons_of_mem _ (List.mem_cons_of_mem _ (List.mem_cons_of_mem _ (List.mem_cons_self)))
  have k1 := r6 _ m_a0 _ m_a1 h_a
  have k3 : ¬ r a1 < r a0 := by omega
  have k2 := r6 _ m_d0 _ m_d1 h_d
  have k4 : ¬ r d1 < r d0 := by omega
  generalize [a0, a1, d0, d1] = L at *
  have irr : ∀ x, ¬ (r x < r x) := fun x => Int.lt_irrefl _
  clear r6 h_a0 h_a1 h_d0 h_d1 h_a h_d
  rcases T _ m_a0 _ m_d0 with ⟨q0, p0⟩ | ⟨q0, p0⟩ | ⟨q0, p0⟩ <;> first | (exfalso; omega) | skip
  all_goals rcases T _ m_a1 _ m_d1 with ⟨q1, p1⟩ | ⟨q1, p1⟩ | ⟨q1, p1⟩ <;> first | (exfalso; omega) | skip
  all_goals rcases T _ m_a0 _ m_d1 with ⟨q2, p2⟩ | ⟨q2, p2⟩ | ⟨q2, p2⟩ <;> first | (exfalso; omega) | skip
  all_goals rcases T _ m_a1 _ m_d0 with ⟨q3, p3⟩ | ⟨q3, p3⟩ | ⟨q3, p3⟩ <;> first | (exfalso; omega) | skip
  all_goals clear T
  all_goals refine ⟨⟨?_, ?_, ?_, ?_⟩, ?_⟩
  all_goals first | unfold CovK | unfold CovN | skip
  all_goals walk_at "sl"
  all_goals first
    | (with_reducible exact sm_non)
    | ((with_reducible apply sm_t2) <;> first | assumption | (with_reducible exact sm_non))
    | (with_reducible exact sm_t0)
    | ((with_reducible apply sm_t1); (with_reducible apply sm_t2) <;> first | assumption | (with_reducible exact sm_non))
    | ((with_reducible apply sm_t2) <;> (with_reducible apply sm_t2) <;> first | assumption | (with_reducible exact sm_non))
    | exact ⟨_, rfl, rfl⟩ | exact ⟨_, _, rfl, rfl, rfl⟩ | exact ⟨true, false, rfl, rfl, rfl⟩ | exact ⟨true, true, rfl, rfl, rfl⟩ | exact ⟨false, true, rfl, rfl, rfl⟩ | exact ⟨false, false, rfl, rfl, rfl⟩
    | fail
end K00
end

section
set_option linter.all false
set_option maxRecDepth 100000
set_option maxHeartbeats 8000000
namespace K00
open PySem L2 Fw
local macro_rules | `(tactic| walk_at "sx") => `(tactic| simp -dsimp only [↓E_c, ↓E_var, ↓E_frz, ↓E_mov, ↓A_io, ↓E_chk, ↓E_give, ↓E_bin, ↓E_un, ↓E_tup, ↓E_lst, ↓A_nil, ↓A_cons, ↓A_arg, ↓E_if, ↓S_if, ↓T_and, ↓T_or, ↓T_test, ↓T_tru, ↓T_not, ↓T_yes, ↓E_andV, ↓E_orV, ↓E_notV, ↓E_mt, ↓E_sl, ↓O_no, ↓O_part, ↓S_skip, ↓S_break, ↓S_cont, ↓S_retN, ↓S_seq, ↓S_drop, ↓S_ret, ↓S_asg, ↓E_mut, ↓S_setS, ↓E_call, ↓I_seq, ↓I_enum, ↓I_rng1, ↓I_rng2, ↓E_lstRg, ↓opt_some, ↓br_t, ↓br_f, ↓br_d, ↓br_n, ↓gg_tup, ↓ggs_cons, ↓ggs_nil, ↓fr_i, ↓fr_s, ↓fr_b, ↓fr_n, ↓at_0, ↓at_1, ↓at_2, ↓at_3, ↓at_4, ↓at_5, ↓at_6, ↓at_7, ↓at_8, ↓at_9, ↓at_10, ↓at_11, ↓at_12, ↓at_13, ↓at_14, ↓at_15, ↓at_16, ↓at_17, ↓at_18, ↓at_19, ↓at_20, ↓at_21, ↓tak_0, ↓tak_1, ↓tak_2, ↓tak_3, ↓tak_4, ↓tak_5, ↓tak_6, ↓tak_7, ↓tak_8, ↓tak_9, ↓tak_10, ↓tak_11, ↓tak_12, ↓tak_13, ↓tak_14, ↓tak_15, ↓tak_16, ↓tak_17, ↓tak_18, ↓tak_19, ↓tak_20, ↓tak_21, ↓put_0, ↓put_1, ↓put_2, ↓put_3, ↓put_4, ↓put_5, ↓put_6, ↓put_7, ↓put_8, ↓put_9, ↓put_10, ↓put_11, ↓put_12, ↓put_13, ↓put_14, ↓put_15, ↓put_16, ↓put_17, ↓put_18, ↓put_19, ↓put_20, ↓put_21, ↓own_0, ↓own_1, ↓own_2, ↓own_3, ↓own_4, ↓own_5, ↓own_6, ↓own_7, ↓own_8, ↓own_9, ↓own_10, ↓own_11, ↓own_12, ↓own_13, ↓own_14, ↓own_15, ↓own_16, ↓own_17, ↓own_18, ↓own_19, ↓own_20, ↓own_21, ↓isl_0, ↓isl_1, ↓isl_2, ↓isl_3, ↓isl_4, ↓isl_5, ↓isl_6, ↓isl_7, ↓isl_8, ↓isl_9, ↓isl_10, ↓isl_11, ↓isl_12, ↓isl_13, ↓isl_14, ↓isl_15, ↓isl_16, ↓isl_17, ↓isl_18, ↓isl_19, ↓isl_20, ↓isl_21, ↓gg_0, ↓gg_1, ↓gg_2, ↓gg_3, ↓gg_4, ↓gg_5, ↓gg_6, ↓gg_7, ↓gg_8, ↓gg_9, ↓gg_10, ↓gg_11, ↓gg_12, ↓gg_13, ↓gg_14, ↓gg_15, ↓gg_16, ↓gg_17, ↓gg_18, ↓gg_19, ↓gg_20, ↓gg_21, ↓po_0, ↓po_1, ↓po_2, ↓po_3, ↓po_4, ↓po_5, ↓po_6, ↓po_7, ↓po_8, ↓po_9, ↓po_10, ↓po_11, ↓po_12, ↓po_13, ↓po_14, ↓po_15, ↓po_16, ↓po_17, ↓po_18, ↓po_19, ↓po_20, ↓po_21, ↓and2_true, ↓O_0, ↓O_1, ↓wip_nil, ↓wip_cons, ↓X_fn, ↓mk_cons, ↓mk_nil, ↓mk_0, ↓cp_0, ↓cp_1, ↓cp_2, ↓cp_3, ↓cp_4, ↓cp_5, ↓cp_6, ↓cp_7, ↓cp_8, ↓cp_9, ↓cq_0, ↓cq_1, ↓cq_2, ↓cq_3, ↓cq_4, ↓cq_5, ↓cq_6, ↓cq_7, ↓cq_8, ↓cq_9, and2_t, v_ixN, fr_of, fr_l2, z_int, z_str, z_bl, z_non, z_tup, z_lst, z_nil, z_cons, v_add, v_sub, v_mulr, v_mull, v_div, v_neg, v_int, v_intb, v_abs, v_isB, v_isI, v_truB, v_isn, v_notn, v_len_t, v_len_l, v_len_s, v_max, v_min, v_app, v_tup_n, v_lst_n, fr_l0, v_tup_t, v_tup_l, v_lst_t, v_lst_l, v_sl_t, v_sl_l, v_sl_s, v_cat_s, v_cat_t, v_cat_l, v_it_t, v_it_l, v_sq_t, v_sq_l, v_okl, v_oks, v_ss, v_big, v_big2, v_if_t, v_if_f, v_eq_iS, v_ne_iS, v_eq_sS, v_eq_ii, v_ne_ii, v_eq_ss, v_ne_ss, v_eq_bb, v_ne_bb, v_in_l, v_in_t, okP_int, okP_str, okP_bl, okP_non, n_int, n_str, n_bl, n_non, n_nil, n_cons, q_ss, q_ii, List.any_cons, List.any_nil, beq_self_eq_true, beq_true, beq_false, Bool.true_beq, Bool.false_beq, Bool.or_false, Bool.or_true, Bool.false_or, Bool.true_or, lt_ii, gt_ii, le_ii, ge_ii, mod_ii, in_non, in_bl, in_int, in_str, in_tup, in_lst, v_i_tuple_non, v_i_tuple_bl, v_i_tuple_int, v_i_tuple_str, v_i_tuple_tup, v_i_tuple_lst, v_i_list_non, v_i_list_bl, v_i_list_int, v_i_list_str, v_i_list_tup, v_i_list_lst, v_i_str_non, v_i_str_bl, v_i_str_int, v_i_str_str, v_i_str_tup, v_i_str_lst, v_i_int_non, v_i_int_bl, v_i_int_int, v_i_int_str, v_i_int_tup, v_i_int_lst, v_i_bool_non, v_i_bool_bl, v_i_bool_int, v_i_bool_str, v_i_bool_tup, v_i_bool_lst, v_ixt_0, v_ixl_0, v_set_0, v_ixN_0, v_ixt_1, v_ixl_1, v_set_1, v_ixN_1, v_ixt_2, v_ixl_2, v_set_2, v_ixN_2, v_ixt_3, v_ixl_3, v_set_3, v_ixN_3, v_ixt_4, v_ixl_4, v_set_4, v_ixN_4, v_ixt_5, v_ixl_5, v_set_5, v_ixN_5, v_ixt_6, v_ixl_6, v_set_6, v_ixN_6, v_ixt_7, v_ixl_7, v_set_7, v_ixN_7, v_ixt_8, v_ixl_8, v_set_8, v_ixN_8, v_ixt_9, v_ixl_9, v_set_9, v_ixN_9, v_ixt_10, v_ixl_10, v_set_10, v_ixN_10, v_ixt_11, v_ixl_11, v_set_11, v_ixN_11, v_ixt_12, v_ixl_12, v_set_12, v_ixN_12, Bool.and_self, Bool.and_true, Bool.true_and, Bool.not_true, Bool.not_false, true_and, and_true, decide_true, decide_false, List.length_cons, List.length_nil, Nat.reduceAdd, Nat.reduceLeDiff, Int.reduceLT, Int.reduceLE, Int.reduceNeg, Int.reduceEq, Int.reduceAdd, Int.reduceSub, ofStr_inj, String.reduceEq, eq_self, ne_eq, not_true_eq_false, not_false_eq_true, forall_const, true_implies, false_implies, imp_self, implies_true, Int.reduceToNat, Nat.reduceLT, List.length_map, reduceIte, Bool.false_eq_true, Bool.true_eq_false])
local macro_rules | `(tactic| walk_at "sy") => `(tactic| simp -dsimp only [↓E_c, ↓E_var, ↓E_frz, ↓E_mov, ↓A_io, ↓E_chk, ↓E_give, ↓E_bin, ↓E_un, ↓E_tup, ↓E_lst, ↓A_nil, ↓A_cons, ↓A_arg, ↓E_if, ↓S_if, ↓T_and, ↓T_or, ↓T_test, ↓T_tru, ↓T_not, ↓T_yes, ↓E_andV, ↓E_orV, ↓E_notV, ↓E_mt, ↓E_sl, ↓O_no, ↓O_part, ↓S_skip, ↓S_break, ↓S_cont, ↓S_retN, ↓S_seq, ↓S_drop, ↓S_ret, ↓S_asg, ↓E_mut, ↓S_setS, ↓E_call, ↓I_seq, ↓I_enum, ↓I_rng1, ↓I_rng2, ↓E_lstRg, ↓opt_some, ↓br_t, ↓br_f, ↓br_d, ↓br_n, ↓gg_tup, ↓ggs_cons, ↓ggs_nil, ↓fr_i, ↓fr_s, ↓fr_b, ↓fr_n, ↓at_0, ↓at_1, ↓at_2, ↓at_3, ↓at_4, ↓at_5, ↓at_6, ↓at_7, ↓at_8, ↓at_9, ↓at_10, ↓at_11, ↓at_12, ↓at_13, ↓at_14, ↓at_15, ↓at_16, ↓at_17, ↓at_18, ↓at_19, ↓at_20, ↓at_21, ↓tak_0, ↓tak_1, ↓tak_2, ↓tak_3, ↓tak_4, ↓tak_5, ↓tak_6, ↓tak_7, ↓tak_8, ↓tak_9, ↓tak_10, ↓tak_11, ↓tak_12, ↓tak_13, ↓tak_14, ↓tak_15, ↓tak_16, ↓tak_17, ↓tak_18, ↓tak_19, ↓tak_20, ↓tak_21, ↓put_0, ↓put_1, ↓put_2, ↓put_3, ↓put_4, ↓put_5, ↓put_6, ↓put_7, ↓put_8, ↓put_9, ↓put_10, ↓put_11, ↓put_12, ↓put_13, ↓put_14, ↓put_15, ↓put_16, ↓put_17, ↓put_18, ↓put_19, ↓put_20, ↓put_21, ↓own_0, ↓own_1, ↓own_2, ↓own_3, ↓own_4, ↓own_5, ↓own_6, ↓own_7, ↓own_8, ↓own_9, ↓own_10, ↓own_11, ↓own_12, ↓own_13, ↓own_14, ↓own_15, ↓own_16, ↓own_17, ↓own_18, ↓own_19, ↓own_20, ↓own_21, ↓isl_0, ↓isl_1, ↓isl_2, ↓isl_3, ↓isl_4, ↓isl_5, ↓isl_6, ↓isl_7, ↓isl_8, ↓isl_9, ↓isl_10, ↓isl_11, ↓isl_12, ↓isl_13, ↓isl_14, ↓isl_15, ↓isl_16, ↓isl_17, ↓isl_18, ↓isl_19, ↓isl_20, ↓isl_21, ↓gg_0, ↓gg_1, ↓gg_2, ↓gg_3, ↓gg_4, ↓gg_5, ↓gg_6, ↓gg_7, ↓gg_8, ↓gg_9, ↓gg_10, ↓gg_11, ↓gg_12, ↓gg_13, ↓gg_14, ↓gg_15, ↓gg_16, ↓gg_17, ↓gg_18, ↓gg_19, ↓gg_20, ↓gg_21, ↓po_0, ↓po_1, ↓po_2, ↓po_3, ↓po_4, ↓po_5, ↓po_6, ↓po_7, ↓po_8, ↓po_9, ↓po_10, ↓po_11, ↓po_12, ↓po_13, ↓po_14, ↓po_15, ↓po_16, ↓po_17, ↓po_18, ↓po_19, ↓po_20, ↓po_21, ↓and2_true, ↓O_0, ↓O_1, ↓wip_nil, ↓wip_cons, ↓X_fn, ↓mk_cons, ↓mk_nil, ↓mk_0, ↓cp_0, ↓cp_1, ↓cp_2, ↓cp_3, ↓cp_4, ↓cp_5, ↓cp_6, ↓cp_7, ↓cp_8, ↓cp_9, ↓cq_0, ↓cq_1, ↓cq_2, ↓cq_3, ↓cq_4, ↓cq_5, ↓cq_6, ↓cq_7, ↓cq_8, ↓cq_9, and2_t, v_ixN, fr_of, fr_l2, z_int, z_str, z_bl, z_non, z_tup, z_lst, z_nil, z_cons, v_add, v_sub, v_mulr, v_mull, v_div, v_neg, v_int, v_intb, v_abs, v_isB, v_isI, v_truB, v_isn, v_notn, v_len_t, v_len_l, v_len_s, v_max, v_min, v_app, v_tup_n, v_lst_n, fr_l0, v_tup_t, v_tup_l, v_lst_t, v_lst_l, v_sl_t, v_sl_l, v_sl_s, v_cat_s, v_cat_t, v_cat_l, v_it_t, v_it_l, v_sq_t, v_sq_l, v_okl, v_oks, v_ss, v_big, v_big2, v_if_t, v_if_f, v_eq_iS, v_ne_iS, v_eq_sS, v_eq_ii, v_ne_ii, v_eq_ss, v_ne_ss, v_eq_bb, v_ne_bb, v_in_l, v_in_t, okP_int, okP_str, okP_bl, okP_non, n_int, n_str, n_bl, n_non, n_nil, n_cons, q_ss, q_ii, List.any_cons, List.any_nil, beq_self_eq_true, beq_true, beq_false, Bool.true_beq, Bool.false_beq, Bool.or_false, Bool.or_true, Bool.false_or, Bool.true_or, lt_ii, gt_ii, le_ii, ge_ii, mod_ii, in_non, in_bl, in_int, in_str, in_tup, in_lst, v_i_tuple_non, v_i_tuple_bl, v_i_tuple_int, v_i_tuple_str, v_i_tuple_tup, v_i_tuple_lst, v_i_list_non, v_i_list_bl, v_i_list_int, v_i_list_str, v_i_list_tup, v_i_list_lst, v_i_str_non, v_i_str_bl, v_i_str_int, v_i_str_str, v_i_str_tup, v_i_str_lst, v_i_int_non, v_i_int_bl, v_i_int_int, v_i_int_str, v_i_int_tup, v_i_int_lst, v_i_bool_non, v_i_bool_bl, v_i_bool_int, v_i_bool_str, v_i_bool_tup, v_i_bool_lst, v_ixt_0, v_ixl_0, v_set_0, v_ixN_0, v_ixt_1, v_ixl_1, v_set_1, v_ixN_1, v_ixt_2, v_ixl_2, v_set_2, v_ixN_2, v_ixt_3, v_ixl_3, v_set_3, v_ixN_3, v_ixt_4, v_ixl_4, v_set_4, v_ixN_4, v_ixt_5, v_ixl_5, v_set_5, v_ixN_5, v_ixt_6, v_ixl_6, v_set_6, v_ixN_6, v_ixt_7, v_ixl_7, v_set_7, v_ixN_7, v_ixt_8, v_ixl_8, v_set_8, v_ixN_8, v_ixt_9, v_ixl_9, v_set_9, v_ixN_9, v_ixt_10, v_ixl_10, v_set_10, v_ixN_10, v_ixt_11, v_ixl_11, v_set_11, v_ixN_11, v_ixt_12, v_ixl_12, v_set_12, v_ixN_12, Bool.and_self, Bool.and_true, Bool.true_and, Bool.not_true, Bool.not_false, true_and, and_true, decide_true, decide_false, List.length_cons, List.length_nil, Nat.reduceAdd, Nat.reduceLeDiff, Int.reduceLT, Int.reduceLE, Int.reduceNeg, Int.reduceEq, Int.reduceAdd, Int.reduceSub, ofStr_inj, String.reduceEq, eq_self, ne_eq, not_true_eq_false, not_false_eq_true, forall_const, true_implies, false_implies, imp_self, implies_true, Int.reduceToNat, Nat.reduceLT, List.length_map, reduceIte, Bool.false_eq_true, Bool.true_eq_false, *])
local macro_rules | `(tactic| walk_at "fn") => `(tactic| ((with_reducible apply F_env); (· repeat constructor)))
local macro_rules | `(tactic| walk_at "sz") => `(tactic| simp -dsimp only [↓E_c, ↓E_var, ↓E_frz, ↓E_mov, ↓A_io, ↓E_chk, ↓E_give, ↓E_bin, ↓E_un, ↓E_tup, ↓E_lst, ↓A_nil, ↓A_cons, ↓A_arg, ↓E_if, ↓S_if, ↓T_and, ↓T_or, ↓T_test, ↓T_tru, ↓T_not, ↓T_yes, ↓E_andV, ↓E_orV, ↓E_notV, ↓E_mt, ↓E_sl, ↓O_no, ↓O_part, ↓S_skip, ↓S_break, ↓S_cont, ↓S_retN, ↓S_seq, ↓S_drop, ↓S_ret, ↓S_asg, ↓E_mut, ↓S_setS, ↓E_call, ↓I_seq, ↓I_enum, ↓I_rng1, ↓I_rng2, ↓E_lstRg, ↓opt_some, ↓br_t, ↓br_f, ↓br_d, ↓br_n, ↓gg_tup, ↓ggs_cons, ↓ggs_nil, ↓fr_i, ↓fr_s, ↓fr_b, ↓fr_n, ↓at_0, ↓at_1, ↓at_2, ↓at_3, ↓at_4, ↓at_5, ↓at_6, ↓at_7, ↓at_8, ↓at_9, ↓at_10, ↓at_11, ↓at_12, ↓at_13, ↓at_14, ↓at_15, ↓at_16, ↓at_17, ↓at_18, ↓at_19, ↓at_20, ↓at_21, ↓tak_0, ↓tak_1, ↓tak_2, ↓tak_3, ↓tak_4, ↓tak_5, ↓tak_6, ↓tak_7, ↓tak_8, ↓tak_9, ↓tak_10, ↓tak_11, ↓tak_12, ↓tak_13, ↓tak_14, ↓tak_15, ↓tak_16, ↓tak_17, ↓tak_18, ↓tak_19, ↓tak_20, ↓tak_21, ↓put_0, ↓put_1, ↓put_2, ↓put_3, ↓put_4, ↓put_5, ↓put_6, ↓put_7, ↓put_8, ↓put_9, ↓put_10, ↓put_11, ↓put_12, ↓put_13, ↓put_14, ↓put_15, ↓put_16, ↓put_17, ↓put_18, ↓put_19, ↓put_20, ↓put_21, ↓own_0, ↓own_1, ↓own_2, ↓own_3, ↓own_4, ↓own_5, ↓own_6, ↓own_7, ↓own_8, ↓own_9, ↓own_10, ↓own_11, ↓own_12, ↓own_13, ↓own_14, ↓own_15, ↓own_16, ↓own_17, ↓own_18, ↓own_19, ↓own_20, ↓own_21, ↓isl_0, ↓isl_1, ↓isl_2, ↓isl_3, ↓isl_4, ↓isl_5, ↓isl_6, ↓isl_7, ↓isl_8, ↓isl_9, ↓isl_10, ↓isl_11, ↓isl_12, ↓isl_13, ↓isl_14, ↓isl_15, ↓isl_16, ↓isl_17, ↓isl_18, ↓isl_19, ↓isl_20, ↓isl_21, ↓gg_0, ↓gg_1, ↓gg_2, ↓gg_3, ↓gg_4, ↓gg_5, ↓gg_6, ↓gg_7, ↓gg_8, ↓gg_9, ↓gg_10, ↓gg_11, ↓gg_12, ↓gg_13, ↓gg_14, ↓gg_15, ↓gg_16, ↓gg_17, ↓gg_18, ↓gg_19, ↓gg_20, ↓gg_21, ↓po_0, ↓po_1, ↓po_2, ↓po_3, ↓po_4, ↓po_5, ↓po_6, ↓po_7, ↓po_8, ↓po_9, ↓po_10, ↓po_11, ↓po_12, ↓po_13, ↓po_14, ↓po_15, ↓po_16, ↓po_17, ↓po_18, ↓po_19, ↓po_20, ↓po_21, ↓and2_true, ↓O_0, ↓O_1, ↓wip_nil, ↓wip_cons, ↓X_fn, ↓mk_cons, ↓mk_nil, ↓mk_0, ↓cp_0, ↓cp_1, ↓cp_2, ↓cp_3, ↓cp_4, ↓cp_5, ↓cp_6, ↓cp_7, ↓cp_8, ↓cp_9, ↓cq_0, ↓cq_1, ↓cq_2, ↓cq_3, ↓cq_4, ↓cq_5, ↓cq_6, ↓cq_7, ↓cq_8, ↓cq_9, and2_t, v_ixN, fr_of, fr_l2, z_int, z_str, z_bl, z_non, z_tup, z_lst, z_nil, z_cons, v_add, v_sub, v_mulr, v_mull, v_div, v_neg, v_int, v_intb, v_abs, v_isB, v_isI, v_truB, v_isn, v_notn, v_len_t, v_len_l, v_len_s, v_max, v_min, v_app, v_tup_n, v_lst_n, fr_l0, v_tup_t, v_tup_l, v_lst_t, v_lst_l, v_sl_t, v_sl_l, v_sl_s, v_cat_s, v_cat_t, v_cat_l, v_it_t, v_it_l, v_sq_t, v_sq_l, v_okl, v_oks, v_ss, v_big, v_big2, v_if_t, v_if_f, v_eq_iS, v_ne_iS, v_eq_sS, v_eq_ii, v_ne_ii, v_eq_ss, v_ne_ss, v_eq_bb, v_ne_bb, v_in_l, v_in_t, okP_int, okP_str, okP_bl, okP_non, n_int, n_str, n_bl, n_non, n_nil, n_cons, q_ss, q_ii, List.any_cons, List.any_nil, beq_self_eq_true, beq_true, beq_false, Bool.true_beq, Bool.false_beq, Bool.or_false, Bool.or_true, Bool.false_or, Bool.true_or, lt_ii, gt_ii, le_ii, ge_ii, mod_ii, in_non, in_bl, in_int, in_str, in_tup, in_lst, v_i_tuple_non, v_i_tuple_bl, v_i_tuple_int, v_i_tuple_str, v_i_tuple_tup, v_i_tuple_lst, v_i_list_non, v_i_list_bl, v_i_list_int, v_i_list_str, v_i_list_tup, v_i_list_lst, v_i_str_non, v_i_str_bl, v_i_str_int, v_i_str_str, v_i_str_tup, v_i_str_lst, v_i_int_non, v_i_int_bl, v_i_int_int, v_i_int_str, v_i_int_tup, v_i_int_lst, v_i_bool_non, v_i_bool_bl, v_i_bool_int, v_i_bool_str, v_i_bool_tup, v_i_bool_lst, v_ixt_0, v_ixl_0, v_set_0, v_ixN_0, v_ixt_1, v_ixl_1, v_set_1, v_ixN_1, v_ixt_2, v_ixl_2, v_set_2, v_ixN_2, v_ixt_3, v_ixl_3, v_set_3, v_ixN_3, v_ixt_4, v_ixl_4, v_set_4, v_ixN_4, v_ixt_5, v_ixl_5, v_set_5, v_ixN_5, v_ixt_6, v_ixl_6, v_set_6, v_ixN_6, v_ixt_7, v_ixl_7, v_set_7, v_ixN_7, v_ixt_8, v_ixl_8, v_set_8, v_ixN_8, v_ixt_9, v_ixl_9, v_set_9, v_ixN_9, v_ixt_10, v_ixl_10, v_set_10, v_ixN_10, v_ixt_11, v_ixl_11, v_set_11, v_ixN_11, v_ixt_12, v_ixl_12, v_set_12, v_ixN_12, Bool.and_self, Bool.and_true, Bool.true_and, Bool.not_true, Bool.not_false, true_and, and_true, decide_true, decide_false, List.length_cons, List.length_nil, Nat.reduceAdd, Nat.reduceLeDiff, Int.reduceLT, Int.reduceLE, Int.reduceNeg, Int.reduceEq, Int.reduceAdd, Int.reduceSub, ofStr_inj, String.reduceEq, eq_self, ne_eq, not_true_eq_false, not_false_eq_true, forall_const, true_implies, false_implies, imp_self, implies_true, Int.reduceToNat, Nat.reduceLT, List.length_map, reduceIte, Bool.false_eq_true, Bool.true_eq_false, ↓O_X, *, Fn_least_key, B_least_key, Fn_whole_interval, B_whole_interval, Fn__law_due, B__law_due, Fn__law_told, B__law_told, Fn_around_key, B_around_key])
/-- told and due are the same -/
def Door (n : Int) (x : D) : Prop := OkF Fn__law_told [.int n, x] fun d os => os = [] ∧ OkF Fn__law_due [.int n, x] fun d2 os2 => os2 = [] ∧ d2 = d ∧ Sm 4 d
theorem door_of {n : Int} {x : D} (h : Door n x) : ∃ d, Sm 4 d ∧ Fn__law_told [.int n, x] = .ok (d, []) ∧ Fn__law_due [.int n, x] = .ok (d, []) := by
  unfold Door at h
  simp only [eqF, Z.OkF] at h
  cases e : Fn__law_told [.int n, x] with
  | no => rw [e] at h; exact h.elim
  | ex _ => rw [e] at h; exact h.elim
  | ok p =>
    rw [e] at h
    obtain ⟨d, os⟩ := p
    obtain ⟨rfl, h2⟩ := h
    cases e2 : Fn__law_due [.int n, x] with
    | no => rw [e2] at h2; exact h2.elim
    | ex _ => rw [e2] at h2; exact h2.elim
    | ok p =>
      rw [e2] at h2
      obtain ⟨d2, os2⟩ := p
      obtain ⟨rfl, rfl, s⟩ := h2
      exact ⟨d2, s, rfl, rfl⟩
theorem door01 {b : Bool} {x : D} (h : Ask b x) : Door 0 x ∧ Door 1 x := by
  obtain ⟨key, a, d, c, rfl, h1, h2, h3, h4⟩ := h
  have z1 := h1.frz
  have z2 := h2.w.frz
  have z3 := h3.w.frz
  have z4 := h4.frz
  have s0 : Sm 3 (.str "") := sm_str
  have s1 : Sm 3 (.tup [.str "", .str ""]) := sm_t2 sm_str sm_str
  have s2 := sm_t2 s0 (sm_non (n := 2))
  have s3 := sm_t2 s1 (sm_non (n := 2))
  have s4 : Sm 4 (.str "") := sm_str
  have s5 : Sm 4 (.tup [.str "", .str ""]) := sm_t2 sm_str sm_str
  unfold Door
  cases b
  · walk_at "sz"
  · walk_at "sz"
theorem door23 {b : Bool} {x : D} (h : Ask b x) : Door 2 x ∧ Door 3 x := by
  obtain ⟨key, a, d, c, rfl, h1, h2, h3, h4⟩ := h
  have z1 := h1.frz
  have z2 := h2.w.frz
  have z3 := h3.w.frz
  have z4 := h4.frz
  obtain ⟨y, hy, n1, n2⟩ := next_eq h1
  have z5 := hy.frz
  have s1 : Sm 4 y := sm_key hy
  have s2 : Sm 4 (.tup [key, y]) := sm_t2 (sm_key h1) (sm_key hy)
  clear h1 h2 h3 h4 hy
  unfold Door
  cases b <;> constructor
  all_goals (
    walk_at "sz"
    rw [X_eq n2]
    walk_at "sz"
    rw [X_eq n1]
    walk_at "sz")

theorem two_ok {b : Bool} {a d : D} (ha : Iv b a) (hd : Iv b d) : ∃ a0 a1 d0 d1, a = .tup [a0, a1] ∧ d = .tup [d0, d1] ∧ a0.frz = true ∧ a1.frz = true ∧ d0.frz = true ∧ d1.frz = true ∧ Two a d a0 d0 ∧ ((a1 = .non ∧ CovN a d d0) ∨ (a1.isN = false ∧ CovK a d a1 d0)) := by
  obtain ⟨a0, a1, rfl, h1, h2⟩ := ha
  obtain ⟨d0, d1, rfl, h3, h4⟩ := hd
  have z1 := h1.frz
  have z3 := h3.frz
  rcases h2 with rfl | ⟨h2, k2⟩ <;> rcases h4 with rfl | ⟨h4, k4⟩
  · obtain ⟨t, c⟩ := two_nn h1 h3
    exact ⟨_, _, _, _, rfl, rfl, z1, rfl, z3, rfl, t, .inl ⟨rfl, c⟩⟩
  · obtain ⟨t, c⟩ := two_nf h1 h3 h4 k4
    exact ⟨_, _, _, _, rfl, rfl, z1, rfl, z3, h4.frz, t, .inl ⟨rfl, c⟩⟩
  · obtain ⟨t, c⟩ := two_fn h1 h2 h3 k2
    exact ⟨_, _, _, _, rfl, rfl, z1, h2.frz, z3, rfl, t, .inr ⟨h2.notN, c⟩⟩
  · obtain ⟨t, c⟩ := two_ff h1 h2 h3 h4 k2 k4
    exact ⟨_, _, _, _, rfl, rfl, z1, h2.frz, z3, h4.frz, t, .inr ⟨h2.notN, c⟩⟩
theorem door45 {b : Bool} {x : D} (h : Ask b x) : Door 4 x ∧ Door 5 x := by
  obtain ⟨key, a, d, c, rfl, h1, h2, h3, h4⟩ := h
  have z1 := h1.frz
  have z2 := h2.w.frz
  have z3 := h3.w.frz
  have z4 := h4.frz
  obtain ⟨c0, c1, rfl, hc0, hc1⟩ := h4
  obtain ⟨g1, g2⟩ := has_eq (h1.mono (by omega)) hc0 hc1
  obtain ⟨w, e1, g1⟩ := okF_get g1
  obtain ⟨x, e2, v, rfl, rfl⟩ := okF_get g1
  obtain ⟨y, e3, g2⟩ := okF_get g2
  have s1 : ∀ b, Sm 4 (.bl b) := fun b => sm_bl
  have z5 := hc0.frz
  have z6 : c1.frz = true := by
    rcases hc1 with rfl | hc1
    · rfl
    · exact hc1.frz
  clear h1 h2 h3 hc0 hc1 g1
  unfold Door
  constructor
  · cases b
    all_goals (
      walk_at "sz"
      rw [X_eq e1]
      walk_at "sz"
      rw [X_eq e2]
      walk_at "sz")
  · rcases g2 with ⟨rfl, rfl⟩ | ⟨n1, v2, l1, rfl⟩
    · cases b
      all_goals (
        walk_at "sz"
        rw [X_eq e3]
        walk_at "sz")
    · cases b
      all_goals (
        walk_at "sz"
        rw [X_eq e3]
        walk_at "sz")
theorem door6 {b : Bool} {x : D} (h : Ask b x) : (Door 6 x ∧ Door 7 x) ∧ Door 8 x ∧ Door 9 x ∧ Door 10 x := by
  obtain ⟨key, a, d, c, rfl, h1, h2, h3, h4⟩ := h
  have z1 := h1.frz
  have z2 := h2.w.frz
  have z3 := h3.w.frz
  have z4 := h4.frz
  obtain ⟨a0, a1, d0, d1, rfl, rfl, y1, y2, y3, y4, t, cv⟩ := two_ok h2 h3
  have s1 : ∀ b, Sm 4 (.bl b) := fun b => sm_bl
  obtain ⟨t1, t2, t3, t4⟩ := t
  clear h1 h2 h3 h4
  unfold Door
  refine ⟨⟨?_, ?_⟩, ?_, ?_, ?_⟩
  · obtain ⟨w, e1, t1⟩ := okF_get t1
    obtain ⟨x, e2, t1⟩ := okF_get t1
    obtain ⟨y, e3, v1, v2, rfl, rfl, rfl⟩ := okF_get t1
    clear t2 t3 t4 cv t1
    cases b <;> cases v1 <;> cases v2
    all_goals (
      walk_at "sz"
      rw [X_eq e1]
      walk_at "sz"
      rw [X_eq e2]
      walk_at "sz"
      try (
        rw [X_eq e3]
        walk_at "sz"))
  · clear t1 t2 t3 t4
    rcases cv with ⟨rfl, cv⟩ | ⟨n1, cv⟩
    · obtain ⟨w, e1, cv⟩ := okF_get cv
      obtain ⟨x, e2, v1, rfl, rfl⟩ := okF_get cv
      clear cv
      cases b <;> cases v1
      all_goals (
        walk_at "sz"
        rw [X_eq e1]
        walk_at "sz"
        rw [X_eq e2]
        walk_at "sz")
    · obtain ⟨w, e1, cv⟩ := okF_get cv
      obtain ⟨x, e2, m, em, zm, cv⟩ := okF_get cv
      obtain ⟨y, e3, v1, v2, rfl, rfl, rfl⟩ := okF_get cv
      clear cv
      cases b <;> cases v1 <;> cases v2
      all_goals (
        walk_at "sz"
        rw [X_eq e1]
        walk_at "sz"
        rw [X_eq e2]
        walk_at "sz"
        try (
          rw [X_eq e3]
          walk_at "sz"))
  · obtain ⟨w, e1, t2⟩ := okF_get t2
    obtain ⟨x, e2, rfl, s⟩ := okF_get t2
    clear t1 t2 t3 t4 cv
    cases b
    all_goals (
      walk_at "sz"
      rw [X_eq e1]
      walk_at "sz"
      rw [X_eq e2]
      walk_at "sz")
  · obtain ⟨w, e1, t2⟩ := okF_get t3
    obtain ⟨x, e2, rfl, s⟩ := okF_get t2
    clear t1 t2 t3 t4 cv
    cases b
    all_goals (
      walk_at "sz"
      rw [X_eq e1]
      walk_at "sz"
      rw [X_eq e2]
      walk_at "sz")
  · obtain ⟨w, e1, t2⟩ := okF_get t4
    obtain ⟨x, e2, rfl, s⟩ := okF_get t2
    clear t1 t2 t3 t4 cv
    cases b
    all_goals (
      walk_at "sz"
      rw [X_eq e1]
      walk_at "sz"
      rw [X_eq e2]
      walk_at "sz")
theorem door_ok {b : Bool} {x : D} {n : Int} (h : Ask b x) (h0 : 0 ≤ n) (h1 : n < 11) : ∃ d, Sm 4 d ∧ Fn__law_told [.int n, x] = .ok (d, []) ∧ Fn__law_due [.int n, x] = .ok (d, []) := by
  refine door_of ?_
  rcases (by omega : n = 0 ∨ n = 1 ∨ n = 2 ∨ n = 3 ∨ n = 4 ∨ n = 5 ∨ n = 6 ∨ n = 7 ∨ n = 8 ∨ n = 9 ∨ n = 10) with rfl | rfl | rfl | rfl | rfl | rfl | rfl | rfl | rfl | rfl | rfl
  · exact (door01 h).1
  · exact (door01 h).2
  · exact (door23 h).1
  · exact (door23 h).2
  · exact (door45 h).1
  · exact (door45 h).2
  · exact (door6 h).1.1
  · exact (door6 h).1.2
  · exact (door6 h).2.1
  · exact (door6 h).2.2.1
  · exact (door6 h).2.2.2
end K00
end

section
set_option linter.all false
set_option maxRecDepth 100000
set_option maxHeartbeats 8000000
namespace K00
open PySem L2 Fw
local macro_rules | `(tactic| walk_at "sx") => `(tactic| simp -dsimp only [↓E_c, ↓E_var, ↓E_frz, ↓E_mov, ↓A_io, ↓E_chk, ↓E_give, ↓E_bin, ↓E_un, ↓E_tup, ↓E_lst, ↓A_nil, ↓A_cons, ↓A_arg, ↓E_if, ↓S_if, ↓T_and, ↓T_or, ↓T_test, ↓T_tru, ↓T_not, ↓T_yes, ↓E_andV, ↓E_orV, ↓E_notV, ↓E_mt, ↓E_sl, ↓O_no, ↓O_part, ↓S_skip, ↓S_break, ↓S_cont, ↓S_retN, ↓S_seq, ↓S_drop, ↓S_ret, ↓S_asg, ↓E_mut, ↓S_setS, ↓E_call, ↓I_seq, ↓I_enum, ↓I_rng1, ↓I_rng2, ↓E_lstRg, ↓opt_some, ↓br_t, ↓br_f, ↓br_d, ↓br_n, ↓gg_tup, ↓ggs_cons, ↓ggs_nil, ↓fr_i, ↓fr_s, ↓fr_b, ↓fr_n, ↓at_0, ↓at_1, ↓at_2, ↓at_3, ↓at_4, ↓at_5, ↓at_6, ↓at_7, ↓at_8, ↓at_9, ↓at_10, ↓at_11, ↓at_12, ↓at_13, ↓at_14, ↓at_15, ↓at_16, ↓at_17, ↓at_18, ↓at_19, ↓at_20, ↓at_21, ↓tak_0, ↓tak_1, ↓tak_2, ↓tak_3, ↓tak_4, ↓tak_5, ↓tak_6, ↓tak_7, ↓tak_8, ↓tak_9, ↓tak_10, ↓tak_11, ↓tak_12, ↓tak_13, ↓tak_14, ↓tak_15, ↓tak_16, ↓tak_17, ↓tak_18, ↓tak_19, ↓tak_20, ↓tak_21, ↓put_0, ↓put_1, ↓put_2, ↓put_3, ↓put_4, ↓put_5, ↓put_6, ↓put_7, ↓put_8, ↓put_9, ↓put_10, ↓put_11, ↓put_12, ↓put_13, ↓put_14, ↓put_15, ↓put_16, ↓put_17, ↓put_18, ↓put_19, ↓put_20, ↓put_21, ↓own_0, ↓own_1, ↓own_2, ↓own_3, ↓own_4, ↓own_5, ↓own_6, ↓own_7, ↓own_8, ↓own_9, ↓own_10, ↓own_11, ↓own_12, ↓own_13, ↓own_14, ↓own_15, ↓own_16, ↓own_17, ↓own_18, ↓own_19, ↓own_20, ↓own_21, ↓isl_0, ↓isl_1, ↓isl_2, ↓isl_3, ↓isl_4, ↓isl_5, ↓isl_6, ↓isl_7, ↓isl_8, ↓isl_9, ↓isl_10, ↓isl_11, ↓isl_12, ↓isl_13, ↓isl_14, ↓isl_15, ↓isl_16, ↓isl_17, ↓isl_18, ↓isl_19, ↓isl_20, ↓isl_21, ↓gg_0, ↓gg_1, ↓gg_2, ↓gg_3, ↓gg_4, ↓gg_5, ↓gg_6, ↓gg_7, ↓gg_8, ↓gg_9, ↓gg_10, ↓gg_11, ↓gg_12, ↓gg_13, ↓gg_14, ↓gg_15, ↓gg_16, ↓gg_17, ↓gg_18, ↓gg_19, ↓gg_20, ↓gg_21, ↓po_0, ↓po_1, ↓po_2, ↓po_3, ↓po_4, ↓po_5, ↓po_6, ↓po_7, ↓po_8, ↓po_9, ↓po_10, ↓po_11, ↓po_12, ↓po_13, ↓po_14, ↓po_15, ↓po_16, ↓po_17, ↓po_18, ↓po_19, ↓po_20, ↓po_21, ↓and2_true, ↓O_0, ↓O_1, ↓wip_nil, ↓wip_cons, ↓X_fn, ↓mk_cons, ↓mk_nil, ↓mk_0, ↓cp_0, ↓cp_1, ↓cp_2, ↓cp_3, ↓cp_4, ↓cp_5, ↓cp_6, ↓cp_7, ↓cp_8, ↓cp_9, ↓cq_0, ↓cq_1, ↓cq_2, ↓cq_3, ↓cq_4, ↓cq_5, ↓cq_6, ↓cq_7, ↓cq_8, ↓cq_9, and2_t, v_ixN, fr_of, fr_l2, z_int, z_str, z_bl, z_non, z_tup, z_lst, z_nil, z_cons, v_add, v_sub, v_mulr, v_mull, v_div, v_neg, v_int, v_intb, v_abs, v_isB, v_isI, v_truB, v_isn, v_notn, v_len_t, v_len_l, v_len_s, v_max, v_min, v_app, v_tup_n, v_lst_n, fr_l0, v_tup_t, v_tup_l, v_lst_t, v_lst_l, v_sl_t, v_sl_l, v_sl_s, v_cat_s, v_cat_t, v_cat_l, v_it_t, v_it_l, v_sq_t, v_sq_l, v_okl, v_oks, v_ss, v_big, v_big2, v_if_t, v_if_f, v_eq_iS, v_ne_iS, v_eq_sS, v_eq_ii, v_ne_ii, v_eq_ss, v_ne_ss, v_eq_bb, v_ne_bb, v_in_l, v_in_t, okP_int, okP_str, okP_bl, okP_non, n_int, n_str, n_bl, n_non, n_nil, n_cons, q_ss, q_ii, List.any_cons, List.any_nil, beq_self_eq_true, beq_true, beq_false, Bool.true_beq, Bool.false_beq, Bool.or_false, Bool.or_true, Bool.false_or, Bool.true_or, lt_ii, gt_ii, le_ii, ge_ii, mod_ii, in_non, in_bl, in_int, in_str, in_tup, in_lst, v_i_tuple_non, v_i_tuple_bl, v_i_tuple_int, v_i_tuple_str, v_i_tuple_tup, v_i_tuple_lst, v_i_list_non, v_i_list_bl, v_i_list_int, v_i_list_str, v_i_list_tup, v_i_list_lst, v_i_str_non, v_i_str_bl, v_i_str_int, v_i_str_str, v_i_str_tup, v_i_str_lst, v_i_int_non, v_i_int_bl, v_i_int_int, v_i_int_str, v_i_int_tup, v_i_int_lst, v_i_bool_non, v_i_bool_bl, v_i_bool_int, v_i_bool_str, v_i_bool_tup, v_i_bool_lst, v_ixt_0, v_ixl_0, v_set_0, v_ixN_0, v_ixt_1, v_ixl_1, v_set_1, v_ixN_1, v_ixt_2, v_ixl_2, v_set_2, v_ixN_2, v_ixt_3, v_ixl_3, v_set_3, v_ixN_3, v_ixt_4, v_ixl_4, v_set_4, v_ixN_4, v_ixt_5, v_ixl_5, v_set_5, v_ixN_5, v_ixt_6, v_ixl_6, v_set_6, v_ixN_6, v_ixt_7, v_ixl_7, v_set_7, v_ixN_7, v_ixt_8, v_ixl_8, v_set_8, v_ixN_8, v_ixt_9, v_ixl_9, v_set_9, v_ixN_9, v_ixt_10, v_ixl_10, v_set_10, v_ixN_10, v_ixt_11, v_ixl_11, v_set_11, v_ixN_11, v_ixt_12, v_ixl_12, v_set_12, v_ixN_12, Bool.and_self, Bool.and_true, Bool.true_and, Bool.not_true, Bool.not_false, true_and, and_true, decide_true, decide_false, List.length_cons, List.length_nil, Nat.reduceAdd, Nat.reduceLeDiff, Int.reduceLT, Int.reduceLE, Int.reduceNeg, Int.reduceEq, Int.reduceAdd, Int.reduceSub, ofStr_inj, String.reduceEq, eq_self, ne_eq, not_true_eq_false, not_false_eq_true, forall_const, true_implies, false_implies, imp_self, implies_true, Int.reduceToNat, Nat.reduceLT, List.length_map, reduceIte, Bool.false_eq_true, Bool.true_eq_false])
local macro_rules | `(tactic| walk_at "sy") => `(tactic| simp -dsimp only [↓E_c, ↓E_var, ↓E_frz, ↓E_mov, ↓A_io, ↓E_chk, ↓E_give, ↓E_bin, ↓E_un, ↓E_tup, ↓E_lst, ↓A_nil, ↓A_cons, ↓A_arg, ↓E_if, ↓S_if, ↓T_and, ↓T_or, ↓T_test, ↓T_tru, ↓T_not, ↓T_yes, ↓E_andV, ↓E_orV, ↓E_notV, ↓E_mt, ↓E_sl, ↓O_no, ↓O_part, ↓S_skip, ↓S_break, ↓S_cont, ↓S_retN, ↓S_seq, ↓S_drop, ↓S_ret, ↓S_asg, ↓E_mut, ↓S_setS, ↓E_call, ↓I_seq, ↓I_enum, ↓I_rng1, ↓I_rng2, ↓E_lstRg, ↓opt_some, ↓br_t, ↓br_f, ↓br_d, ↓br_n, ↓gg_tup, ↓ggs_cons, ↓ggs_nil, ↓fr_i, ↓fr_s, ↓fr_b, ↓fr_n, ↓at_0, ↓at_1, ↓at_2, ↓at_3, ↓at_4, ↓at_5, ↓at_6, ↓at_7, ↓at_8, ↓at_9, ↓at_10, ↓at_11, ↓at_12, ↓at_13, ↓at_14, ↓at_15, ↓at_16, ↓at_17, ↓at_18, ↓at_19, ↓at_20, ↓at_21, ↓tak_0, ↓tak_1, ↓tak_2, ↓tak_3, ↓tak_4, ↓tak_5, ↓tak_6, ↓tak_7, ↓tak_8, ↓tak_9, ↓tak_10, ↓tak_11, ↓tak_12, ↓tak_13, ↓tak_14, ↓tak_15, ↓tak_16, ↓tak_17, ↓tak_18, ↓tak_19, ↓tak_20, ↓tak_21, ↓put_0, ↓put_1, ↓put_2, ↓put_3, ↓put_4, ↓put_5, ↓put_6, ↓put_7, ↓put_8, ↓put_9, ↓put_10, ↓put_11, ↓put_12, ↓put_13, ↓put_14, ↓put_15, ↓put_16, ↓put_17, ↓put_18, ↓put_19, ↓put_20, ↓put_21, ↓own_0, ↓own_1, ↓own_2, ↓own_3, ↓own_4, ↓own_5, ↓own_6, ↓own_7, ↓own_8, ↓own_9, ↓own_10, ↓own_11, ↓own_12, ↓own_13, ↓own_14, ↓own_15, ↓own_16, ↓own_17, ↓own_18, ↓own_19, ↓own_20, ↓own_21, ↓isl_0, ↓isl_1, ↓isl_2, ↓isl_3, ↓isl_4, ↓isl_5, ↓isl_6, ↓isl_7, ↓isl_8, ↓isl_9, ↓isl_10, ↓isl_11, ↓isl_12, ↓isl_13, ↓isl_14, ↓isl_15, ↓isl_16, ↓isl_17, ↓isl_18, ↓isl_19, ↓isl_20, ↓isl_21, ↓gg_0, ↓gg_1, ↓gg_2, ↓gg_3, ↓gg_4, ↓gg_5, ↓gg_6, ↓gg_7, ↓gg_8, ↓gg_9, ↓gg_10, ↓gg_11, ↓gg_12, ↓gg_13, ↓gg_14, ↓gg_15, ↓gg_16, ↓gg_17, ↓gg_18, ↓gg_19, ↓gg_20, ↓gg_21, ↓po_0, ↓po_1, ↓po_2, ↓po_3, ↓po_4, ↓po_5, ↓po_6, ↓po_7, ↓po_8, ↓po_9, ↓po_10, ↓po_11, ↓po_12, ↓po_13, ↓po_14, ↓po_15, ↓po_16, ↓po_17, ↓po_18, ↓po_19, ↓po_20, ↓po_21, ↓and2_true, ↓O_0, ↓O_1, ↓wip_nil, ↓wip_cons, ↓X_fn, ↓mk_cons, ↓mk_nil, ↓mk_0, ↓cp_0, ↓cp_1, ↓cp_2, ↓cp_3, ↓cp_4, ↓cp_5, ↓cp_6, ↓cp_7, ↓cp_8, ↓cp_9, ↓cq_0, ↓cq_1, ↓cq_2, ↓cq_3, ↓cq_4, ↓cq_5, ↓cq_6, ↓cq_7, ↓cq_8, ↓cq_9, and2_t, v_ixN, fr_of, fr_l2, z_int, z_str, z_bl, z_non, z_tup, z_lst, z_nil, z_cons, v_add, v_sub, v_mulr, v_mull, v_div, v_neg, v_int, v_intb, v_abs, v_isB, v_isI, v_truB, v_isn, v_notn, v_len_t, v_len_l, v_len_s, v_max, v_min, v_app, v_tup_n, v_lst_n, fr_l0, v_tup_t, v_tup_l, v_lst_t, v_lst_l, v_sl_t, v_sl_l, v_sl_s, v_cat_s, v_cat_t, v_cat_l, v_it_t, v_it_l, v_sq_t, v_sq_l, v_okl, v_oks, v_ss, v_big, v_big2, v_if_t, v_if_f, v_eq_iS, v_ne_iS, v_eq_sS, v_eq_ii, v_ne_ii, v_eq_ss, v_ne_ss, v_eq_bb, v_ne_bb, v_in_l, v_in_t, okP_int, okP_str, okP_bl, okP_non, n_int, n_str, n_bl, n_non, n_nil, n_cons, q_ss, q_ii, List.any_cons, List.any_nil, beq_self_eq_true, beq_true, beq_false, Bool.true_beq, Bool.false_beq, Bool.or_false, Bool.or_true, Bool.false_or, Bool.true_or, lt_ii, gt_ii, le_ii, ge_ii, mod_ii, in_non, in_bl, in_int, in_str, in_tup, in_lst, v_i_tuple_non, v_i_tuple_bl, v_i_tuple_int, v_i_tuple_str, v_i_tuple_tup, v_i_tuple_lst, v_i_list_non, v_i_list_bl, v_i_list_int, v_i_list_str, v_i_list_tup, v_i_list_lst, v_i_str_non, v_i_str_bl, v_i_str_int, v_i_str_str, v_i_str_tup, v_i_str_lst, v_i_int_non, v_i_int_bl, v_i_int_int, v_i_int_str, v_i_int_tup, v_i_int_lst, v_i_bool_non, v_i_bool_bl, v_i_bool_int, v_i_bool_str, v_i_bool_tup, v_i_bool_lst, v_ixt_0, v_ixl_0, v_set_0, v_ixN_0, v_ixt_1, v_ixl_1, v_set_1, v_ixN_1, v_ixt_2, v_ixl_2, v_set_2, v_ixN_2, v_ixt_3, v_ixl_3, v_set_3, v_ixN_3, v_ixt_4, v_ixl_4, v_set_4, v_ixN_4, v_ixt_5, v_ixl_5, v_set_5, v_ixN_5, v_ixt_6, v_ixl_6, v_set_6, v_ixN_6, v_ixt_7, v_ixl_7, v_set_7, v_ixN_7, v_ixt_8, v_ixl_8, v_set_8, v_ixN_8, v_ixt_9, v_ixl_9, v_set_9, v_ixN_9, v_ixt_10, v_ixl_10, v_set_10, v_ixN_10, v_ixt_11, v_ixl_11, v_set_11, v_ixN_11, v_ixt_12, v_ixl_12, v_set_12, v_ixN_12, Bool.and_self, Bool.and_true, Bool.true_and, Bool.not_true, Bool.not_false, true_and, and_true, decide_true, decide_false, List.length_cons, List.length_nil, Nat.reduceAdd, Nat.reduceLeDiff, Int.reduceLT, Int.reduceLE, Int.reduceNeg, Int.reduceEq, Int.reduceAdd, Int.reduceSub, ofStr_inj, String.reduceEq, eq_self, ne_eq, not_true_eq_false, not_false_eq_true, forall_const, true_implies, false_implies, imp_self, implies_true, Int.reduceToNat, Nat.reduceLT, List.length_map, reduceIte, Bool.false_eq_true, Bool.true_eq_false, *])
local macro_rules | `(tactic| walk_at "fn") => `(tactic| ((with_reducible apply F_env); (· repeat constructor)))
theorem law_ok : ∀ ns : List Int, ns.length ≤ 63 → (∀ z ∈ ns, Builtin.Int.intBits z ≤ 1048576) → Fn_law [.lst false (ns.map .int)] = .ok (.bl true, []) := by
  intro ns _ _
  refine ok_eq2 ?_
  have hf : frzs (ns.map D.int) = true := frzs_all fun d hd => by
    obtain ⟨i, _, rfl⟩ := List.mem_map.mp hd
    rfl
  unfold Fn_law B_law
  walk_at "fn"
  refine S_cut (fun e => ∃ t, e = [some (.lst false (ns.map .int)), some t, none, none, none, none, none, none, none] ∧ Tp t) ?_ fun e h => ?_
  · walk_at "sy"
    refine X_F (tape_ok rfl fun t ht => ?_)
    walk_at "sx"
    exact ⟨_, rfl, ht⟩
  obtain ⟨t, rfl, ht⟩ := h
  generalize D.lst false (ns.map .int) = sc
  refine S_cut (fun e => ∃ t b, e = [some sc, some t, some (.bl b), none, none, none, none, none, none] ∧ Tp t) ?_ fun e h => ?_
  · walk_at "sx"
    refine X_F (draw_ok rfl ht (by decide) fun i t1 ht1 i0 i1 => ?_)
    walk_at "sx"
    exact ⟨_, _, rfl, ht1⟩
  obtain ⟨t, b, rfl, ht⟩ := h
  walk_at "sx"
  refine S_for2 ?_
  walk_at "sx"
  refine lpS (fun ds e => ∃ t b c3 c4 c5 c6 c7 c8, e = [some sc, some t, some (.bl b), c3, c4, c5, c6, c7, c8] ∧ Tp t) ⟨_, _, _, _, _, _, _, _, rfl, ht⟩ (fun d rest e h => ?_) (fun e h => ?_)
  · obtain ⟨t, b, c3, c4, c5, c6, c7, c8, rfl, ht⟩ := h
    walk_at "sx"
    refine X_F (some_ask_ok rfl ht fun x y t1 hx hy ht1 => ?_)
    have z1 := hx.frz
    have z2 := hy.frz
    walk_at "sy"
    refine X_F (turns_ok rfl ht1 (by decide) (by decide) fun ys t2 hys ht2 => ?_)
    have z3 : frzs ys = true := frzs_all fun d hd => by obtain ⟨i, rfl, _⟩ := hys d hd; rfl
    walk_at "sy"
    refine S_for2 ?_
    walk_at "sy"
    refine lpS (fun ds e => (∀ d ∈ ds, Ask b d) ∧ ∃ c7 c8, e = [some sc, some t2, some (.bl b), some d, some x, some y, some (.lst false ys), c7, c8]) ⟨fun d hd => ?_, _, _, rfl⟩ (fun d2 rest2 e h => ?_) (fun e h => ?_)
    · simp only [List.mem_cons, List.not_mem_nil, or_false] at hd
      rcases hd with rfl | rfl | rfl <;> assumption
    · obtain ⟨h1, c7, c8, rfl⟩ := h
      have hd2 := h1 d2 List.mem_cons_self
      have z4 := hd2.frz
      walk_at "sx"
      refine S_for2 ?_
      walk_at "sy"
      refine lpS (fun ds e => (∀ d ∈ ds, ∃ i : Int, d = .int i ∧ 0 ≤ i ∧ i < 11) ∧ ∃ c8, e = [some sc, some t2, some (.bl b), some d, some x, some y, some (.lst false ys), some d2, c8]) ⟨hys, _, rfl⟩ (fun d3 rest3 e h => ?_) (fun e h => ?_)
      · obtain ⟨g1, c8, rfl⟩ := h
        obtain ⟨i, rfl, i0, i1⟩ := g1 d3 List.mem_cons_self
        obtain ⟨v, s, e1, e2⟩ := door_ok hd2 i0 i1
        have z5 := s.1
        walk_at "sy"
        rw [X_eq e1]
        walk_at "sy"
        rw [X_eq e2]
        walk_at "sy"
        rw [X_eq s.2]
        walk_at "sx"
        exact ⟨fun d hd => g1 d (List.mem_cons_of_mem _ hd), _, rfl⟩
      · obtain ⟨g1, c8, rfl⟩ := h
        exact ⟨fun d hd => h1 d (List.mem_cons_of_mem _ hd), _, _, rfl⟩
    · obtain ⟨h1, c7, c8, rfl⟩ := h
      walk_at "sx"
      exact ⟨_, _, _, _, _, _, _, _, rfl, ht2⟩
  · obtain ⟨t, b, c3, c4, c5, c6, c7, c8, rfl, ht⟩ := h
    walk_at "sx"
end K00
end

set_option linter.all false
set_option maxRecDepth 100000
set_option maxHeartbeats 0
namespace K00
open PySem PySem.Spec PyProof.Rows L2 Fw
def d_law_tape : He.DefD := ⟨("_law_tape", none), "_law_tape", "_law_tape", defArgs st__law_tape, defBody st__law_tape, defScope st__law_tape, [], []⟩
def d_law_draw : He.DefD := ⟨("_law_draw", none), "_law_draw", "_law_draw", defArgs st__law_draw, defBody st__law_draw, defScope st__law_draw, [], []⟩
def d_law_shuffled : He.DefD := ⟨("_law_shuffled", none), "_law_shuffled", "_law_shuffled", defArgs st__law_shuffled, defBody st__law_shuffled, defScope st__law_shuffled, [], []⟩
def d_law_signs : He.DefD := ⟨("_law_signs", none), "_law_signs", "_law_signs", defArgs st__law_signs, defBody st__law_signs, defScope st__law_signs, [], []⟩
def d_law_pick : He.DefD := ⟨("_law_pick", none), "_law_pick", "_law_pick", defArgs st__law_pick, defBody st__law_pick, defScope st__law_pick, [], []⟩
def d_law_a_strings : He.DefD := ⟨("_law_a_strings", none), "_law_a_strings", "_law_a_strings", defArgs st__law_a_strings, defBody st__law_a_strings, defScope st__law_a_strings, [], []⟩
def d_law_a_keys : He.DefD := ⟨("_law_a_keys", none), "_law_a_keys", "_law_a_keys", defArgs st__law_a_keys, defBody st__law_a_keys, defScope st__law_a_keys, [], []⟩
def d_law_a_next : He.DefD := ⟨("_law_a_next", none), "_law_a_next", "_law_a_next", defArgs st__law_a_next, defBody st__law_a_next, defScope st__law_a_next, [], []⟩
def d_law_a_ends : He.DefD := ⟨("_law_a_ends", none), "_law_a_ends", "_law_a_ends", defArgs st__law_a_ends, defBody st__law_a_ends, defScope st__law_a_ends, [], []⟩
def d_law_a_interval : He.DefD := ⟨("_law_a_interval", none), "_law_a_interval", "_law_a_interval", defArgs st__law_a_interval, defBody st__law_a_interval, defScope st__law_a_interval, [], []⟩
def d_law_beside : He.DefD := ⟨("_law_beside", none), "_law_beside", "_law_beside", defArgs st__law_beside, defBody st__law_beside, defScope st__law_beside, [], []⟩
def d_law_any : He.DefD := ⟨("_law_any", none), "_law_any", "_law_any", defArgs st__law_any, defBody st__law_any, defScope st__law_any, [], []⟩
def d_law_some_ask : He.DefD := ⟨("_law_some_ask", none), "_law_some_ask", "_law_some_ask", defArgs st__law_some_ask, defBody st__law_some_ask, defScope st__law_some_ask, [], []⟩
def d_law_turns : He.DefD := ⟨("_law_turns", none), "_law_turns", "_law_turns", defArgs st__law_turns, defBody st__law_turns, defScope st__law_turns, [], []⟩
def d_law_same : He.DefD := ⟨("_law_same", none), "_law_same", "_law_same", defArgs st__law_same, defBody st__law_same, defScope st__law_same, [], []⟩
def dlesser_high : He.DefD := ⟨("lesser_high", none), "lesser_high", "lesser_high", defArgs st_lesser_high, defBody st_lesser_high, defScope st_lesser_high, [], []⟩
def dis_empty : He.DefD := ⟨("is_empty", none), "is_empty", "is_empty", defArgs st_is_empty, defBody st_is_empty, defScope st_is_empty, [], []⟩
def dleft_of : He.DefD := ⟨("left_of", none), "left_of", "left_of", defArgs st_left_of, defBody st_left_of, defScope st_left_of, [], []⟩
def dleast_key : He.DefD := ⟨("least_key", none), "least_key", "least_key", defArgs st_least_key, defBody st_least_key, defScope st_least_key, [], []⟩
def dwhole_interval : He.DefD := ⟨("whole_interval", none), "whole_interval", "whole_interval", defArgs st_whole_interval, defBody st_whole_interval, defScope st_whole_interval, [], []⟩
def dsuccessor_of : He.DefD := ⟨("successor_of", none), "successor_of", "successor_of", defArgs st_successor_of, defBody st_successor_of, defScope st_successor_of, [], []⟩
def daround_key : He.DefD := ⟨("around_key", none), "around_key", "around_key", defArgs st_around_key, defBody st_around_key, defScope st_around_key, [], []⟩
def dhas_key : He.DefD := ⟨("has_key", none), "has_key", "has_key", defArgs st_has_key, defBody st_has_key, defScope st_has_key, [], []⟩
def dcommon_part : He.DefD := ⟨("common_part", none), "common_part", "common_part", defArgs st_common_part, defBody st_common_part, defScope st_common_part, [], []⟩
def dis_overlapping : He.DefD := ⟨("is_overlapping", none), "is_overlapping", "is_overlapping", defArgs st_is_overlapping, defBody st_is_overlapping, defScope st_is_overlapping, [], []⟩
def dis_covering : He.DefD := ⟨("is_covering", none), "is_covering", "is_covering", defArgs st_is_covering, defBody st_is_covering, defScope st_is_covering, [], []⟩
def djoin_of : He.DefD := ⟨("join_of", none), "join_of", "join_of", defArgs st_join_of, defBody st_join_of, defScope st_join_of, [], []⟩
def d_law_told : He.DefD := ⟨("_law_told", none), "_law_told", "_law_told", defArgs st__law_told, defBody st__law_told, defScope st__law_told, [], []⟩
def d_law_a_left : He.DefD := ⟨("_law_a_left", none), "_law_a_left", "_law_a_left", defArgs st__law_a_left, defBody st__law_a_left, defScope st__law_a_left, [], []⟩
def d_law_a_has : He.DefD := ⟨("_law_a_has", none), "_law_a_has", "_law_a_has", defArgs st__law_a_has, defBody st__law_a_has, defScope st__law_a_has, [], []⟩
def d_law_a_common : He.DefD := ⟨("_law_a_common", none), "_law_a_common", "_law_a_common", defArgs st__law_a_common, defBody st__law_a_common, defScope st__law_a_common, [], []⟩
def d_law_a_join : He.DefD := ⟨("_law_a_join", none), "_law_a_join", "_law_a_join", defArgs st__law_a_join, defBody st__law_a_join, defScope st__law_a_join, [], []⟩
def d_law_due : He.DefD := ⟨("_law_due", none), "_law_due", "_law_due", defArgs st__law_due, defBody st__law_due, defScope st__law_due, [], []⟩
def dlaw : He.DefD := ⟨("law", none), "law", "law", defArgs st_law, defBody st_law, defScope st_law, [], []⟩
def fn : List He.DefD := [d_law_tape, d_law_draw, d_law_shuffled, d_law_signs, d_law_pick, d_law_a_strings, d_law_a_keys, d_law_a_next, d_law_a_ends, d_law_a_interval, d_law_beside, d_law_any, d_law_some_ask, d_law_turns, d_law_same, dlesser_high, dis_empty, dleft_of, dleast_key, dwhole_interval, dsuccessor_of, daround_key, dhas_key, dcommon_part, dis_overlapping, dis_covering, djoin_of, d_law_told, d_law_a_left, d_law_a_has, d_law_a_common, d_law_a_join, d_law_due, dlaw]
def fa : List He.Fa := [.glo "_law_tape", .glo "_law_draw", .glo "_law_shuffled", .glo "_law_signs", .glo "_law_pick", .glo "_law_a_strings", .glo "_law_a_keys", .glo "_law_a_next", .glo "_law_a_ends", .glo "_law_a_interval", .glo "_law_beside", .glo "_law_any", .glo "_law_some_ask", .glo "_law_turns", .glo "_law_same", .glo "lesser_high", .glo "is_empty", .glo "left_of", .glo "least_key", .glo "whole_interval", .glo "successor_of", .glo "around_key", .glo "has_key", .glo "common_part", .glo "is_overlapping", .glo "is_covering", .glo "join_of", .glo "_law_told", .glo "_law_a_left", .glo "_law_a_has", .glo "_law_a_common", .glo "_law_a_join", .glo "_law_due", .glo "law", .free "int", .free "abs", .free "list", .free "len", .free "max", .free "range", .free "isinstance", .free "tuple", .free "sorted", .free "str", .free "bool", .free "min"]
def ts : List He.Tab := []
def bs : BFs := []
abbrev R : PySem.W.OpenRow := PySem.W.OpenLaw.row PySem.Challenge.rw_stratakv_k00_intervals
abbrev hk : PySem.W.Hook := hookX 4 fa fn ts bs
def ob (s : PySem.W.SharedT) : AlX := obsXG 4 fa fn ts bs (HandSHeadRun.getT s)
theorem ob_eq (s : PySem.W.SharedT) : ob s = hk.obs s.abs := obsXG_eq (HandSHeadRun.getT_eq s)
theorem all_ok {P : Program} {w : World} {K : PySem.W.Frag} {base : Heap} {mg : Str → Option Value} {h : Heap} (X : K.In h) (G : h.Ns mainGlobals mg) (c : SaysX fa fn ts bs w K) {f : Addr} {fd : FuncData} (F_law : FnP K "law" st_law f fd) : FnOk P w K mg base CX0 6 f fd ["script"] (sp_law K) := by
  obtain ⟨fd__law_tape, F__law_tape⟩ := c.t.d.def_ 0 (d := d_law_tape) rfl
  have g__law_tape := He.glo_ok X G (c.t.d.fact 0 (f := .glo "_law_tape") rfl)
  obtain ⟨fd__law_draw, F__law_draw⟩ := c.t.d.def_ 1 (d := d_law_draw) rfl
  have g__law_draw := He.glo_ok X G (c.t.d.fact 1 (f := .glo "_law_draw") rfl)
  obtain ⟨fd__law_shuffled, F__law_shuffled⟩ := c.t.d.def_ 2 (d := d_law_shuffled) rfl
  have g__law_shuffled := He.glo_ok X G (c.t.d.fact 2 (f := .glo "_law_shuffled") rfl)
  obtain ⟨fd__law_signs, F__law_signs⟩ := c.t.d.def_ 3 (d := d_law_signs) rfl
  have g__law_signs := He.glo_ok X G (c.t.d.fact 3 (f := .glo "_law_signs") rfl)
  obtain ⟨fd__law_pick, F__law_pick⟩ := c.t.d.def_ 4 (d := d_law_pick) rfl
  have g__law_pick := He.glo_ok X G (c.t.d.fact 4 (f := .glo "_law_pick") rfl)
  obtain ⟨fd__law_a_strings, F__law_a_strings⟩ := c.t.d.def_ 5 (d := d_law_a_strings) rfl
  have g__law_a_strings := He.glo_ok X G (c.t.d.fact 5 (f := .glo "_law_a_strings") rfl)
  obtain ⟨fd__law_a_keys, F__law_a_keys⟩ := c.t.d.def_ 6 (d := d_law_a_keys) rfl
  have g__law_a_keys := He.glo_ok X G (c.t.d.fact 6 (f := .glo "_law_a_keys") rfl)
  obtain ⟨fd__law_a_next, F__law_a_next⟩ := c.t.d.def_ 7 (d := d_law_a_next) rfl
  have g__law_a_next := He.glo_ok X G (c.t.d.fact 7 (f := .glo "_law_a_next") rfl)
  obtain ⟨fd__law_a_ends, F__law_a_ends⟩ := c.t.d.def_ 8 (d := d_law_a_ends) rfl
  have g__law_a_ends := He.glo_ok X G (c.t.d.fact 8 (f := .glo "_law_a_ends") rfl)
  obtain ⟨fd__law_a_interval, F__law_a_interval⟩ := c.t.d.def_ 9 (d := d_law_a_interval) rfl
  have g__law_a_interval := He.glo_ok X G (c.t.d.fact 9 (f := .glo "_law_a_interval") rfl)
  obtain ⟨fd__law_beside, F__law_beside⟩ := c.t.d.def_ 10 (d := d_law_beside) rfl
  have g__law_beside := He.glo_ok X G (c.t.d.fact 10 (f := .glo "_law_beside") rfl)
  obtain ⟨fd__law_any, F__law_any⟩ := c.t.d.def_ 11 (d := d_law_any) rfl
  have g__law_any := He.glo_ok X G (c.t.d.fact 11 (f := .glo "_law_any") rfl)
  obtain ⟨fd__law_some_ask, F__law_some_ask⟩ := c.t.d.def_ 12 (d := d_law_some_ask) rfl
  have g__law_some_ask := He.glo_ok X G (c.t.d.fact 12 (f := .glo "_law_some_ask") rfl)
  obtain ⟨fd__law_turns, F__law_turns⟩ := c.t.d.def_ 13 (d := d_law_turns) rfl
  have g__law_turns := He.glo_ok X G (c.t.d.fact 13 (f := .glo "_law_turns") rfl)
  obtain ⟨fd__law_same, F__law_same⟩ := c.t.d.def_ 14 (d := d_law_same) rfl
  have g__law_same := He.glo_ok X G (c.t.d.fact 14 (f := .glo "_law_same") rfl)
  obtain ⟨fd_lesser_high, F_lesser_high⟩ := c.t.d.def_ 15 (d := dlesser_high) rfl
  have g_lesser_high := He.glo_ok X G (c.t.d.fact 15 (f := .glo "lesser_high") rfl)
  obtain ⟨fd_is_empty, F_is_empty⟩ := c.t.d.def_ 16 (d := dis_empty) rfl
  have g_is_empty := He.glo_ok X G (c.t.d.fact 16 (f := .glo "is_empty") rfl)
  obtain ⟨fd_left_of, F_left_of⟩ := c.t.d.def_ 17 (d := dleft_of) rfl
  have g_left_of := He.glo_ok X G (c.t.d.fact 17 (f := .glo "left_of") rfl)
  obtain ⟨fd_least_key, F_least_key⟩ := c.t.d.def_ 18 (d := dleast_key) rfl
  have g_least_key := He.glo_ok X G (c.t.d.fact 18 (f := .glo "least_key") rfl)
  obtain ⟨fd_whole_interval, F_whole_interval⟩ := c.t.d.def_ 19 (d := dwhole_interval) rfl
  have g_whole_interval := He.glo_ok X G (c.t.d.fact 19 (f := .glo "whole_interval") rfl)
  obtain ⟨fd_successor_of, F_successor_of⟩ := c.t.d.def_ 20 (d := dsuccessor_of) rfl
  have g_successor_of := He.glo_ok X G (c.t.d.fact 20 (f := .glo "successor_of") rfl)
  obtain ⟨fd_around_key, F_around_key⟩ := c.t.d.def_ 21 (d := daround_key) rfl
  have g_around_key := He.glo_ok X G (c.t.d.fact 21 (f := .glo "around_key") rfl)
  obtain ⟨fd_has_key, F_has_key⟩ := c.t.d.def_ 22 (d := dhas_key) rfl
  have g_has_key := He.glo_ok X G (c.t.d.fact 22 (f := .glo "has_key") rfl)
  obtain ⟨fd_common_part, F_common_part⟩ := c.t.d.def_ 23 (d := dcommon_part) rfl
  have g_common_part := He.glo_ok X G (c.t.d.fact 23 (f := .glo "common_part") rfl)
  obtain ⟨fd_is_overlapping, F_is_overlapping⟩ := c.t.d.def_ 24 (d := dis_overlapping) rfl
  have g_is_overlapping := He.glo_ok X G (c.t.d.fact 24 (f := .glo "is_overlapping") rfl)
  obtain ⟨fd_is_covering, F_is_covering⟩ := c.t.d.def_ 25 (d := dis_covering) rfl
  have g_is_covering := He.glo_ok X G (c.t.d.fact 25 (f := .glo "is_covering") rfl)
  obtain ⟨fd_join_of, F_join_of⟩ := c.t.d.def_ 26 (d := djoin_of) rfl
  have g_join_of := He.glo_ok X G (c.t.d.fact 26 (f := .glo "join_of") rfl)
  obtain ⟨fd__law_told, F__law_told⟩ := c.t.d.def_ 27 (d := d_law_told) rfl
  have g__law_told := He.glo_ok X G (c.t.d.fact 27 (f := .glo "_law_told") rfl)
  obtain ⟨fd__law_a_left, F__law_a_left⟩ := c.t.d.def_ 28 (d := d_law_a_left) rfl
  have g__law_a_left := He.glo_ok X G (c.t.d.fact 28 (f := .glo "_law_a_left") rfl)
  obtain ⟨fd__law_a_has, F__law_a_has⟩ := c.t.d.def_ 29 (d := d_law_a_has) rfl
  have g__law_a_has := He.glo_ok X G (c.t.d.fact 29 (f := .glo "_law_a_has") rfl)
  obtain ⟨fd__law_a_common, F__law_a_common⟩ := c.t.d.def_ 30 (d := d_law_a_common) rfl
  have g__law_a_common := He.glo_ok X G (c.t.d.fact 30 (f := .glo "_law_a_common") rfl)
  obtain ⟨fd__law_a_join, F__law_a_join⟩ := c.t.d.def_ 31 (d := d_law_a_join) rfl
  have g__law_a_join := He.glo_ok X G (c.t.d.fact 31 (f := .glo "_law_a_join") rfl)
  obtain ⟨fd__law_due, F__law_due⟩ := c.t.d.def_ 32 (d := d_law_due) rfl
  have g__law_due := He.glo_ok X G (c.t.d.fact 32 (f := .glo "_law_due") rfl)
  have m_int := He.free_ok X G (c.t.d.fact 34 (f := .free "int") rfl)
  have m_abs := He.free_ok X G (c.t.d.fact 35 (f := .free "abs") rfl)
  have m_list := He.free_ok X G (c.t.d.fact 36 (f := .free "list") rfl)
  have m_len := He.free_ok X G (c.t.d.fact 37 (f := .free "len") rfl)
  have m_max := He.free_ok X G (c.t.d.fact 38 (f := .free "max") rfl)
  have m_range := He.free_ok X G (c.t.d.fact 39 (f := .free "range") rfl)
  have m_isinstance := He.free_ok X G (c.t.d.fact 40 (f := .free "isinstance") rfl)
  have m_tuple := He.free_ok X G (c.t.d.fact 41 (f := .free "tuple") rfl)
  have m_sorted := He.free_ok X G (c.t.d.fact 42 (f := .free "sorted") rfl)
  have m_str := He.free_ok X G (c.t.d.fact 43 (f := .free "str") rfl)
  have m_bool := He.free_ok X G (c.t.d.fact 44 (f := .free "bool") rfl)
  have m_min := He.free_ok X G (c.t.d.fact 45 (f := .free "min") rfl)
  have o__law_tape := ok__law_tape (P := P) (w := w) (base := base) F__law_tape g__law_tape m_int m_abs m_list
  have o__law_draw := ok__law_draw (P := P) (w := w) (base := base) F__law_draw g__law_draw m_len m_abs m_int m_max
  have o__law_shuffled := ok__law_shuffled (P := P) (w := w) (base := base) F__law_shuffled g__law_shuffled o__law_draw m_list m_range m_len
  have o__law_signs := ok__law_signs (P := P) (w := w) (base := base) F__law_signs g__law_signs
  have o__law_pick := ok__law_pick (P := P) (w := w) (base := base) F__law_pick g__law_pick o__law_draw m_len
  have o__law_a_strings := ok__law_a_strings (P := P) (w := w) (base := base) F__law_a_strings g__law_a_strings o__law_signs o__law_draw o__law_pick m_range m_max m_len
  have o__law_a_keys := ok__law_a_keys (P := P) (w := w) (base := base) F__law_a_keys g__law_a_keys o__law_shuffled o__law_a_strings o__law_draw o__law_pick m_range m_int m_len
  have o__law_a_next := ok__law_a_next (P := P) (w := w) (base := base) F__law_a_next g__law_a_next m_isinstance m_tuple
  have o__law_a_ends := ok__law_a_ends (P := P) (w := w) (base := base) F__law_a_ends g__law_a_ends o__law_a_next m_sorted
  have o__law_a_interval := ok__law_a_interval (P := P) (w := w) (base := base) F__law_a_interval g__law_a_interval o__law_pick o__law_draw m_len
  have o__law_beside := ok__law_beside (P := P) (w := w) (base := base) F__law_beside g__law_beside o__law_draw o__law_pick o__law_a_interval m_len
  have o__law_any := ok__law_any (P := P) (w := w) (base := base) F__law_any g__law_any o__law_pick
  have o__law_some_ask := ok__law_some_ask (P := P) (w := w) (base := base) F__law_some_ask g__law_some_ask o__law_a_keys o__law_draw o__law_a_ends o__law_a_interval o__law_any o__law_beside o__law_pick
  have o__law_turns := ok__law_turns (P := P) (w := w) (base := base) F__law_turns g__law_turns o__law_draw m_list m_range m_len
  have o__law_same := ok__law_same (P := P) (w := w) (base := base) F__law_same g__law_same m_isinstance m_tuple m_len m_range m_str m_bool m_int 4
  have o_lesser_high := ok_lesser_high (P := P) (w := w) (base := base) F_lesser_high g_lesser_high
  have o_is_empty := ok_is_empty (P := P) (w := w) (base := base) F_is_empty g_is_empty
  have o_left_of := ok_left_of (P := P) (w := w) (base := base) F_left_of g_left_of o_lesser_high o_is_empty m_max m_tuple
  have o_least_key := ok_least_key (P := P) (w := w) (base := base) F_least_key g_least_key
  have o_whole_interval := ok_whole_interval (P := P) (w := w) (base := base) F_whole_interval g_whole_interval o_least_key
  have o_successor_of := ok_successor_of (P := P) (w := w) (base := base) F_successor_of g_successor_of m_isinstance m_tuple
  have o_around_key := ok_around_key (P := P) (w := w) (base := base) F_around_key g_around_key o_successor_of
  have o_has_key := ok_has_key (P := P) (w := w) (base := base) F_has_key g_has_key
  have o_common_part := ok_common_part (P := P) (w := w) (base := base) F_common_part g_common_part o_lesser_high o_is_empty m_max
  have o_is_overlapping := ok_is_overlapping (P := P) (w := w) (base := base) F_is_overlapping g_is_overlapping o_common_part
  have o_is_covering := ok_is_covering (P := P) (w := w) (base := base) F_is_covering g_is_covering
  have o_join_of := ok_join_of (P := P) (w := w) (base := base) F_join_of g_join_of m_min m_max
  have o__law_told := ok__law_told (P := P) (w := w) (base := base) F__law_told g__law_told o_least_key o_whole_interval o_successor_of o_around_key o_has_key o_is_empty o_is_overlapping o_is_covering o_common_part o_join_of o_left_of
  have o__law_a_left := ok__law_a_left (P := P) (w := w) (base := base) F__law_a_left g__law_a_left m_max m_tuple
  have o__law_a_has := ok__law_a_has (P := P) (w := w) (base := base) F__law_a_has g__law_a_has
  have o__law_a_common := ok__law_a_common (P := P) (w := w) (base := base) F__law_a_common g__law_a_common m_max
  have o__law_a_join := ok__law_a_join (P := P) (w := w) (base := base) F__law_a_join g__law_a_join m_max m_min
  have o__law_due := ok__law_due (P := P) (w := w) (base := base) F__law_due g__law_due o__law_a_next o__law_a_has o__law_a_common o__law_a_join o__law_a_left m_max
  exact okf_law (P := P) (w := w) (base := base) F_law o__law_tape o__law_draw o__law_some_ask o__law_turns o__law_same o__law_due o__law_told m_range

end K00
namespace K00
open PySem PySem.Spec PyProof.Rows L2 Fw
theorem run (w : World) : HandSHeadRun.RunEq R (PySem.W.view R.prog [35]) hk ob 4000 ((["least_key", "whole_interval", "successor_of", "around_key", "has_key", "is_empty", "lesser_high", "common_part", "is_overlapping", "is_covering", "join_of", "left_of"] : List PySem.Str) ++ (["_law_tape", "_law_draw", "_law_pick", "_law_turns", "_law_shuffled", "_law_same", "_law_signs", "_law_a_strings", "_law_a_keys", "_law_a_next", "_law_a_has", "_law_a_common"] : List PySem.Str) ++ (["_law_a_join", "_law_a_left", "_law_a_ends", "_law_a_interval", "_law_due", "_law_told", "_law_beside", "_law_any", "_law_some_ask"] : List PySem.Str)) w :=
  PySem.W.byRow2 "special-get-raises" (P := fun w => HandSHeadRun.RunEq R (PySem.W.view R.prog [35]) hk ob 4000 ((["least_key", "whole_interval", "successor_of", "around_key", "has_key", "is_empty", "lesser_high", "common_part", "is_overlapping", "is_covering", "join_of", "left_of"] : List PySem.Str) ++ (["_law_tape", "_law_draw", "_law_pick", "_law_turns", "_law_shuffled", "_law_same", "_law_signs", "_law_a_strings", "_law_a_keys", "_law_a_next", "_law_a_has", "_law_a_common"] : List PySem.Str) ++ (["_law_a_join", "_law_a_left", "_law_a_ends", "_law_a_interval", "_law_due", "_law_told", "_law_beside", "_law_any", "_law_some_ask"] : List PySem.Str)) w) (fun w => by intro os; kernel_rfl) (fun w => by intro os; kernel_rfl) w
end K00
open PySem PySem.W PySem.Calls PyProof.Rows
theorem PySem.Challenge.cw_stratakv_k00_intervals_holds : PySem.Challenge.rw_stratakv_k00_intervals.Holds := by
  w_on; o_law
  refine HandSHeadRun.head_any (r := OpenLaw.row PySem.Challenge.rw_stratakv_k00_intervals) (q := view (OpenLaw.row PySem.Challenge.rw_stratakv_k00_intervals).prog [35]) (H := K00.hk) (ob := K00.ob) (M := 4000) (loose := ((["least_key", "whole_interval", "successor_of", "around_key", "has_key", "is_empty", "lesser_high", "common_part", "is_overlapping", "is_covering", "join_of", "left_of"] : List PySem.Str) ++ (["_law_tape", "_law_draw", "_law_pick", "_law_turns", "_law_shuffled", "_law_same", "_law_signs", "_law_a_strings", "_law_a_keys", "_law_a_next", "_law_a_has", "_law_a_common"] : List PySem.Str) ++ (["_law_a_join", "_law_a_left", "_law_a_ends", "_law_a_interval", "_law_due", "_law_told", "_law_beside", "_law_any", "_law_some_ask"] : List PySem.Str))) (d := HandSHeadRun.topDef (OpenLaw.row PySem.Challenge.rw_stratakv_k00_intervals).prog 35) (kwd := []) K00.ob_eq
    (by kernel_rfl) (fun s => by kernel_rfl) K00.run (by kernel_rfl) (by kernel_rfl) (by kernel_rfl) (by rfl) (by first | assumption | decide +kernel) (by decide +kernel) ⟨rfl, rfl, rfl, rfl, rfl, by decide +kernel⟩ ?hw ?hc
  case hw => w_witness2
  case hc =>
    refine Fw.walk_law (l := PySem.Challenge.rw_stratakv_k00_intervals) (n := 63) (k := 6) (x := "script") rfl (by kernel_rfl) (by decide) ⟨rfl, by decide, by decide⟩ ?F
    intro w mg fa h Y G hmg0
    obtain ⟨K, KX, c⟩ := Y
    have hmg : mg ("law" : PySem.Str) = some (.ref fa) := by
      have e : (HandSHeadRun.topDef (OpenLaw.row PySem.Challenge.rw_stratakv_k00_intervals).prog 35).name = ("law" : PySem.Str) := by kernel_rfl
      rw [← e]
      exact hmg0
    obtain ⟨fd, F⟩ := c.t.d.def_ 33 (d := K00.dlaw) rfl
    have e := hmg.symm.trans (He.glo_ok KX G (c.t.d.fact 33 (f := .glo "law") rfl))
    cases e
    have b := L2.FunD.bindsA (ps := ["script"]) F fun _ _ _ _ _ _ us hl => match us, hl with | [_], _ => rfl
    exact ⟨K, fd, K00.Fn_law, fun s v => b s [v] rfl, KX, K00.law_ok, fun base _ _ => K00.all_ok KX G c F⟩
