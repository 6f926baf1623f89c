import PyProof.Rows.All
import Wide.All
import OpenK.AllK
import Wide.FinOn
import HandS.ForMost
import HandS.ForExc
import HandS.Slots
import HandS.SlotsOwn
import HandS.ExcInit
import HandS.Star
import HandS.Wide
import HandS.Style
import HandS.Flow
import HandS.MakeKw
import HandS.TryOnly
import HandS.Conv
import KE.KStateDown
import HandS.Ends
import HandS.Defaults
import HandS.Head0
import HandS.Head1
import HandS.Head2
import HandS.HeadEnd
import HandS.HeadHook1
import HandS.HeadHook2
import HandS.TupAny
import HandS.MakeKwOnly
import PySem.Challenge.RW_tapedetours_k07_sums_and_longest_waits
set_option Elab.async false
set_option linter.all false
set_option maxRecDepth 100000
set_option maxHeartbeats 4000000
namespace Td
open PySem PySem.Spec PyProof.Rows L2

/-! ### outcomes -/
inductive Pay where
  | non | int (i : Int) | pair (a b : Int) | lsI (l : List Int) | lsP (l : List (Int × Int)) | str (x : Str)
structure Exn where
  cls : Str
  pay : Pay
inductive Rs (S T : Type) where
  | ok (a : T) (s : S)
  | exc (e : Exn) (s : S)
  | stuck
def SM (S T : Type) : Type := S → Rs S T
def Rs.wp {S T : Type} : Rs S T → (T → S → Prop) → (Exn → S → Prop) → Prop
  | .ok a s, P, _ => P a s
  | .exc e s, _, E => E e s
  | .stuck, _, _ => False
def ret {S T : Type} (a : T) : SM S T := fun s => .ok a s
def rse {S T : Type} (e : Exn) : SM S T := fun s => .exc e s
def stk {S T : Type} : SM S T := fun _ => .stuck
def bnd {S T U : Type} (m : SM S T) (k : T → SM S U) : SM S U := fun s => match m s with
  | .ok a s' => k a s'
  | .exc e s' => .exc e s'
  | .stuck => .stuck
/-- a pure computation within one with a state -/
def lft {S T : Type} (m : SM Unit T) : SM S T := fun s => match m () with
  | .ok a _ => .ok a s
  | .exc e _ => .exc e s
  | .stuck => .stuck
/-- only if c holds -/
def grd {S : Type} (c : Prop) [Decidable c] : SM S Unit := fun s => if c then .ok () s else .stuck
theorem wp_mono {S T : Type} {r : Rs S T} {P P' : T → S → Prop} {E E' : Exn → S → Prop} (h : r.wp P E) (hp : ∀ a s, P a s → P' a s) (he : ∀ e s, E e s → E' e s) : r.wp P' E' := by
  cases r with
  | ok a s => exact hp a s h
  | exc e s => exact he e s h
  | stuck => exact h
theorem wp_bnd {S T U : Type} {m : SM S T} {k : T → SM S U} {s : S} {P : U → S → Prop} {E : Exn → S → Prop} (h : (bnd m k s).wp P E) : (m s).wp (fun a s' => (k a s').wp P E) E := by
  unfold bnd at h
  cases hm : m s with
  | ok a s' => rw [hm] at h; exact h
  | exc e s' => rw [hm] at h; exact h
  | stuck => rw [hm] at h; exact h
theorem bnd_wp {S T U : Type} {m : SM S T} {k : T → SM S U} {s : S} {P : U → S → Prop} {E : Exn → S → Prop} (h : (m s).wp (fun a s' => (k a s').wp P E) E) : (bnd m k s).wp P E := by
  unfold bnd
  cases hm : m s with
  | ok a s' => rw [hm] at h; exact h
  | exc e s' => rw [hm] at h; exact h
  | stuck => rw [hm] at h; exact h
theorem wp_grd {S : Type} {c : Prop} [Decidable c] {s : S} {P : Unit → S → Prop} {E : Exn → S → Prop} (h : (grd c s).wp P E) : c ∧ P () s := by
  unfold grd at h
  by_cases hc : c
  · rw [if_pos hc] at h; exact ⟨hc, h⟩
  · rw [if_neg hc] at h; exact h.elim
theorem wp_lft {S T : Type} {m : SM Unit T} {s : S} {P : T → S → Prop} {E : Exn → S → Prop} (h : ((lft m : SM S T) s).wp P E) : (m ()).wp (fun a _ => P a s) (fun e _ => E e s) := by
  unfold lft at h
  cases hm : m () with
  | ok a s' => rw [hm] at h; exact h
  | exc e s' => rw [hm] at h; exact h
  | stuck => rw [hm] at h; exact h

/-! ### representations: B are the objects that this value owns; M all that is owned by someone -/
def isTup : HO → Bool
  | .tup _ => true
  | .frz _ _ => true
  | _ => false
structure Rp (T : Type) where
  rel : PySem.W.Frag → List Addr → Hp → V → T → List Addr → Prop
  keep : ∀ {K M H H' v a B}, rel K M H v a B → (∀ p o, H p = some o → (p ∉ M ∨ p ∈ B ∨ isTup o = true) → H' p = some o) → rel K M H' v a B
  grow : ∀ {K M M' H v a B}, rel K M H v a B → (∀ p, p ∈ M' → p ∈ M ∨ H p = none) → rel K M' H v a B
  trk : ∀ {K M H v a B}, rel K M H v a B → ∀ p, p ∈ B → ∃ o, H p = some o ∧ isTup o = false

/-- plain values -/
def rPl {T : Type} (f : T → V) : Rp T where
  rel := fun _ _ _ v a B => v = f a ∧ B = []
  keep := fun h _ => h
  grow := fun h _ => h
  trk := fun h p hp => by rw [h.2] at hp; cases hp
def rInt : Rp Int := rPl V.int
def rBool : Rp Bool := rPl V.bl
def rStr : Rp Str := rPl V.str
def rNon : Rp Unit := rPl fun _ => V.non

theorem sqT_keep {K : PySem.W.Frag} {M B : List Addr} {H H' : Hp} {p : Addr} {xs : List V} (h : SqT K H p xs) (k : ∀ p o, H p = some o → (p ∉ M ∨ p ∈ B ∨ isTup o = true) → H' p = some o) : SqT K H' p xs := by
  rcases h with (h | ⟨o, h⟩) | h
  · exact .inl (.inl (k _ _ h (.inr (.inr rfl))))
  · exact .inl (.inr ⟨o, k _ _ h (.inr (.inr rfl))⟩)
  · exact .inr h

def rPair {T U : Type} (r : Rp T) (q : Rp U) : Rp (T × U) where
  rel := fun K M H v a B => ∃ p v1 v2 B1 B2, v = .ref p ∧ SqT K H p [v1, v2] ∧ r.rel K M H v1 a.1 B1 ∧ q.rel K M H v2 a.2 B2 ∧ B = B1 ++ B2
  keep := by
    rintro K M H H' v a B ⟨p, v1, v2, B1, B2, e, hT, h1, h2, eB⟩ k
    subst eB
    exact ⟨p, v1, v2, B1, B2, e, sqT_keep hT k, r.keep h1 (fun p o e h => k p o e (h.imp id (Or.imp (fun z => List.mem_append_left _ z) id))), q.keep h2 (fun p o e h => k p o e (h.imp id (Or.imp (fun z => List.mem_append_right _ z) id))), rfl⟩
  grow := by
    rintro K M M' H v a B ⟨p, v1, v2, B1, B2, e, hT, h1, h2, eB⟩ k
    exact ⟨p, v1, v2, B1, B2, e, hT, r.grow h1 k, q.grow h2 k, eB⟩
  trk := by
    rintro K M H v a B ⟨p, v1, v2, B1, B2, e, hT, h1, h2, eB⟩ x hx
    subst eB
    rcases List.mem_append.mp hx with hx | hx
    · exact r.trk h1 x hx
    · exact q.trk h2 x hx
def rTup3 {T U W : Type} (r : Rp T) (q : Rp U) (t : Rp W) : Rp (T × U × W) where
  rel := fun K M H v a B => ∃ p v1 v2 v3 B1 B2 B3, v = .ref p ∧ SqT K H p [v1, v2, v3] ∧ r.rel K M H v1 a.1 B1 ∧ q.rel K M H v2 a.2.1 B2 ∧ t.rel K M H v3 a.2.2 B3 ∧ B = B1 ++ (B2 ++ B3)
  keep := by
    rintro K M H H' v a B ⟨p, v1, v2, v3, B1, B2, B3, e, hT, h1, h2, h3, eB⟩ k
    subst eB
    exact ⟨p, v1, v2, v3, B1, B2, B3, e, sqT_keep hT k, r.keep h1 (fun p o e h => k p o e (h.imp id (Or.imp (fun z => List.mem_append_left _ z) id))), q.keep h2 (fun p o e h => k p o e (h.imp id (Or.imp (fun z => List.mem_append_right _ (List.mem_append_left _ z)) id))),
      t.keep h3 (fun p o e h => k p o e (h.imp id (Or.imp (fun z => List.mem_append_right _ (List.mem_append_right _ z)) id))), rfl⟩
  grow := by
    rintro K M M' H v a B ⟨p, v1, v2, v3, B1, B2, B3, e, hT, h1, h2, h3, eB⟩ k
    exact ⟨p, v1, v2, v3, B1, B2, B3, e, hT, r.grow h1 k, q.grow h2 k, t.grow h3 k, eB⟩
  trk := by
    rintro K M H v a B ⟨p, v1, v2, v3, B1, B2, B3, e, hT, h1, h2, h3, eB⟩ x hx
    subst eB
    rcases List.mem_append.mp hx with hx | hx
    · exact r.trk h1 x hx
    · rcases List.mem_append.mp hx with hx | hx
      · exact q.trk h2 x hx
      · exact t.trk h3 x hx
def rOpt {T : Type} (r : Rp T) : Rp (Option T) where
  rel := fun K M H v a B => match a with
    | none => v = .non ∧ B = []
    | some a => r.rel K M H v a B
  keep := by
    intro K M H H' v a B h k
    cases a with
    | none => exact h
    | some a => exact r.keep h k
  grow := by
    intro K M M' H v a B h k
    cases a with
    | none => exact h
    | some a => exact r.grow h k
  trk := by
    intro K M H v a B h x hx
    cases a with
    | none => rw [h.2] at hx; cases hx
    | some a => exact r.trk h x hx

/-- items one by one -/
inductive All3 {T : Type} (R : V → T → List Addr → Prop) : List V → List T → List Addr → Prop
  | nil : All3 R [] [] []
  | cons {v a B vs as A} (h : R v a B) (t : All3 R vs as A) : All3 R (v :: vs) (a :: as) (B ++ A)
theorem All3.length {T : Type} {R : V → T → List Addr → Prop} {vs : List V} {as : List T} {A : List Addr} (h : All3 R vs as A) : vs.length = as.length := by
  induction h with
  | nil => rfl
  | cons _ _ ih => simp [ih]
theorem All3.imp {T : Type} {R R' : V → T → List Addr → Prop} {vs : List V} {as : List T} {A : List Addr} (h : All3 R vs as A) (k : ∀ v a B, (∀ p, p ∈ B → p ∈ A) → R v a B → R' v a B) : All3 R' vs as A := by
  induction h with
  | nil => exact .nil
  | cons h t ih => exact .cons (k _ _ _ (fun p hp => List.mem_append_left _ hp) h) (ih fun v a B hB hr => k v a B (fun p hp => List.mem_append_right _ (hB p hp)) hr)
theorem All3.append {T : Type} {R : V → T → List Addr → Prop} {vs ws : List V} {as bs : List T} {A B : List Addr} (h : All3 R vs as A) (h' : All3 R ws bs B) : All3 R (vs ++ ws) (as ++ bs) (A ++ B) := by
  induction h with
  | nil => exact h'
  | cons h t ih =>
    rw [List.append_assoc]
    exact .cons h ih
theorem All3.get {T : Type} {R : V → T → List Addr → Prop} {vs : List V} {as : List T} {A : List Addr} (h : All3 R vs as A) {i : Nat} {v : V} (e : vs[i]? = some v) : ∃ a B, as[i]? = some a ∧ R v a B ∧ ∀ p, p ∈ B → p ∈ A := by
  induction h generalizing i with
  | nil => simp at e
  | cons h t ih =>
    cases i with
    | zero =>
      have e' := Option.some.inj e
      subst e'
      exact ⟨_, _, rfl, h, fun p hp => List.mem_append_left _ hp⟩
    | succ i =>
      obtain ⟨a, B, h1, h2, h3⟩ := ih (i := i) (by simpa using e)
      exact ⟨a, B, by simpa using h1, h2, fun p hp => List.mem_append_right _ (h3 p hp)⟩
theorem All3.get' {T : Type} {R : V → T → List Addr → Prop} {vs : List V} {as : List T} {A : List Addr} (h : All3 R vs as A) {i : Nat} {a : T} (e : as[i]? = some a) : ∃ v B, vs[i]? = some v ∧ R v a B ∧ ∀ p, p ∈ B → p ∈ A := by
  have hi : i < vs.length := by rw [h.length]; exact (List.getElem?_eq_some_iff.mp e).1
  obtain ⟨b, B, h1, h2, h3⟩ := h.get (i := i) (v := vs[i]) (List.getElem?_eq_getElem hi)
  rw [e] at h1
  cases h1
  exact ⟨_, B, List.getElem?_eq_getElem hi, h2, h3⟩
theorem All3.trk {T : Type} {R : V → T → List Addr → Prop} {vs : List V} {as : List T} {A : List Addr} {P : Addr → Prop} (h : All3 R vs as A) (k : ∀ v a B, R v a B → ∀ p, p ∈ B → P p) : ∀ p, p ∈ A → P p := by
  induction h with
  | nil => intro p hp; cases hp
  | cons h t ih =>
    intro p hp
    rcases List.mem_append.mp hp with hp | hp
    · exact k _ _ _ h p hp
    · exact ih p hp
def rList {T : Type} (r : Rp T) : Rp (List T) where
  rel := fun K M H v a B => ∃ p vs A, v = .ref p ∧ H p = some (.lst vs) ∧ All3 (r.rel K M H) vs a A ∧ B = p :: A
  keep := by
    rintro K M H H' v a B ⟨p, vs, A, e, hp, hA, eB⟩ k
    subst eB
    exact ⟨p, vs, A, e, k p _ hp (.inr (.inl (List.mem_cons_self ..))), hA.imp fun v a B hB h => r.keep h (fun p o e h => k p o e (h.imp id (Or.imp (fun z => List.mem_cons_of_mem _ (hB _ z)) id))), rfl⟩
  grow := by
    rintro K M M' H v a B ⟨p, vs, A, e, hp, hA, eB⟩ k
    exact ⟨p, vs, A, e, hp, hA.imp fun v a B hB h => r.grow h k, eB⟩
  trk := by
    rintro K M H v a B ⟨p, vs, A, e, hp, hA, eB⟩ x hx
    subst eB
    rcases List.mem_cons.mp hx with hx | hx
    · subst hx; exact ⟨_, hp, rfl⟩
    · exact hA.trk (P := fun x => ∃ o, H x = some o ∧ isTup o = false) (fun v a B h => r.trk h) x hx
/-- a tuple of many -/
def rTupL {T : Type} (r : Rp T) : Rp (List T) where
  rel := fun K M H v a B => ∃ p vs, v = .ref p ∧ SqT K H p vs ∧ All3 (r.rel K M H) vs a B
  keep := by
    rintro K M H H' v a B ⟨p, vs, e, hp, hA⟩ k
    exact ⟨p, vs, e, sqT_keep hp k, hA.imp fun v a B hB h => r.keep h (fun p o e h => k p o e (h.imp id (Or.imp (fun z => hB _ z) id)))⟩
  grow := by
    rintro K M M' H v a B ⟨p, vs, e, hp, hA⟩ k
    exact ⟨p, vs, e, hp, hA.imp fun v a B hB h => r.grow h k⟩
  trk := by
    rintro K M H v a B ⟨p, vs, e, hp, hA⟩ x hx
    exact hA.trk (P := fun x => ∃ o, H x = some o ∧ isTup o = false) (fun v a B h => r.trk h) x hx
/-- shared: nothing is owned here, and what is reached is owned by no one -/
def sh {T : Type} (r : Rp T) : Rp T where
  rel := fun K M H v a B => B = [] ∧ ∃ A, r.rel K M H v a A ∧ ∀ p, p ∈ A → p ∉ M
  keep := by
    rintro K M H H' v a B ⟨eB, A, h, hA⟩ k
    exact ⟨eB, A, r.keep h (fun p o e hp => k p o e (hp.elim .inl fun z => z.elim (fun y => .inl (hA p y)) fun y => .inr (.inr y))), hA⟩
  grow := by
    rintro K M M' H v a B ⟨eB, A, h, hA⟩ k
    refine ⟨eB, A, r.grow h k, fun p hp hM => ?_⟩
    rcases k p hM with z | z
    · exact hA p hp z
    · obtain ⟨o, ho, _⟩ := r.trk h p hp
      rw [z] at ho; cases ho
  trk := by
    rintro K M H v a B ⟨eB, A, h, hA⟩ x hx
    rw [eB] at hx; cases hx
/-- nothing owned -/
def Rp.Cp {T : Type} (r : Rp T) : Prop := ∀ {K M H v a B}, r.rel K M H v a B → B = []
theorem cp_pl {T : Type} {f : T → V} : (rPl f).Cp := fun h => h.2
theorem cp_int : rInt.Cp := fun h => h.2
theorem cp_bool : rBool.Cp := fun h => h.2
theorem cp_str : rStr.Cp := fun h => h.2
theorem cp_non : rNon.Cp := fun h => h.2
theorem cp_sh {T : Type} {r : Rp T} : (sh r).Cp := fun h => h.1
theorem cp_pair {T U : Type} {r : Rp T} {q : Rp U} (c1 : r.Cp) (c2 : q.Cp) : (rPair r q).Cp := by
  rintro K M H v a B ⟨p, v1, v2, B1, B2, e, hT, h1, h2, eB⟩
  rw [eB, c1 h1, c2 h2]; rfl
theorem cp_tup3 {T U W : Type} {r : Rp T} {q : Rp U} {t : Rp W} (c1 : r.Cp) (c2 : q.Cp) (c3 : t.Cp) : (rTup3 r q t).Cp := by
  rintro K M H v a B ⟨p, v1, v2, v3, B1, B2, B3, e, hT, h1, h2, h3, eB⟩
  rw [eB, c1 h1, c2 h2, c3 h3]; rfl
theorem cp_opt {T : Type} {r : Rp T} (c : r.Cp) : (rOpt r).Cp := by
  intro K M H v a B h
  cases a with
  | none => exact h.2
  | some a => exact c h
theorem cp_tupL {T : Type} {r : Rp T} (c : r.Cp) : (rTupL r).Cp := by
  rintro K M H v a B ⟨p, vs, e, hp, hA⟩
  clear e hp
  induction hA with
  | nil => rfl
  | cons h t ih => rw [c h, ih]; rfl
/-- what is owned becomes shared; what is shared may be read as the thing itself -/
theorem Rp.to_sh {T : Type} {r : Rp T} {K M M' H v a B} (h : r.rel K M H v a B) (hM : ∀ p, p ∈ M' → p ∈ M ∧ p ∉ B) : (sh r).rel K M' H v a [] :=
  ⟨rfl, B, r.grow h (fun p hp => .inl (hM p hp).1), fun p hp z => (hM p z).2 hp⟩

/-! ### slots -/
inductive Slot : Type 1 where
  | un
  | is {T : Type} (r : Rp T) (a : T)
  | pn {T : Type} (v : V) (r : Rp T) (a : T)
def Slot.ok (K : PySem.W.Frag) (M : List Addr) (H : Hp) : Slot → Option V → List Addr → Prop
  | .un, _, B => B = []
  | .is r a, x, B => ∃ v, x = some v ∧ r.rel K M H v a B
  | .pn v r a, x, B => x = some v ∧ r.rel K M H v a B
inductive AtS (K : PySem.W.Frag) (M : List Addr) (H : Hp) : List Slot → List (Option V) → List Addr → Prop
  | nil : AtS K M H [] [] []
  | cons {g x B G s A} (h : g.ok K M H x B) (t : AtS K M H G s A) : AtS K M H (g :: G) (x :: s) (B ++ A)
section
variable {K : PySem.W.Frag} {M M' : List Addr} {H H' : Hp}
theorem Slot.ok_keep {g : Slot} {x : Option V} {B : List Addr} (h : g.ok K M H x B) (k : ∀ p o, H p = some o → (p ∉ M ∨ p ∈ B ∨ isTup o = true) → H' p = some o) : g.ok K M H' x B := by
  cases g with
  | un => exact h
  | is r a => obtain ⟨v, e, h⟩ := h; exact ⟨v, e, r.keep h k⟩
  | pn v r a => exact ⟨h.1, r.keep h.2 k⟩
theorem Slot.ok_grow {g : Slot} {x : Option V} {B : List Addr} (h : g.ok K M H x B) (k : ∀ p, p ∈ M' → p ∈ M ∨ H p = none) : g.ok K M' H x B := by
  cases g with
  | un => exact h
  | is r a => obtain ⟨v, e, h⟩ := h; exact ⟨v, e, r.grow h k⟩
  | pn v r a => exact ⟨h.1, r.grow h.2 k⟩
theorem Slot.ok_trk {g : Slot} {x : Option V} {B : List Addr} (h : g.ok K M H x B) : ∀ p, p ∈ B → ∃ o, H p = some o ∧ isTup o = false := by
  cases g with
  | un => intro p hp; rw [show B = [] from h] at hp; cases hp
  | is r a => obtain ⟨v, e, h⟩ := h; exact r.trk h
  | pn v r a => exact r.trk h.2
theorem AtS.keep {G s A} (h : AtS K M H G s A) (k : ∀ p o, H p = some o → (p ∉ M ∨ p ∈ A ∨ isTup o = true) → H' p = some o) : AtS K M H' G s A := by
  induction h with
  | nil => exact .nil
  | cons h t ih => exact .cons (Slot.ok_keep h fun p o e z => k p o e (z.imp id (Or.imp (fun y => List.mem_append_left _ y) id))) (ih fun p o e z => k p o e (z.imp id (Or.imp (fun y => List.mem_append_right _ y) id)))
theorem AtS.grow {G s A} (h : AtS K M H G s A) (k : ∀ p, p ∈ M' → p ∈ M ∨ H p = none) : AtS K M' H G s A := by
  induction h with
  | nil => exact .nil
  | cons h t ih => exact .cons (Slot.ok_grow h k) ih
theorem AtS.trk {G s A} (h : AtS K M H G s A) : ∀ p, p ∈ A → ∃ o, H p = some o ∧ isTup o = false := by
  induction h with
  | nil => intro p hp; cases hp
  | cons h t ih =>
    intro p hp
    rcases List.mem_append.mp hp with hp | hp
    · exact Slot.ok_trk h p hp
    · exact ih p hp
theorem AtS.length {G s A} (h : AtS K M H G s A) : s.length = G.length := by
  induction h with
  | nil => rfl
  | cons _ _ ih => simp [ih]
theorem AtS.append {G s A G' s' A'} (h : AtS K M H G s A) (h' : AtS K M H G' s' A') : AtS K M H (G ++ G') (s ++ s') (A ++ A') := by
  induction h with
  | nil => exact h'
  | cons h t ih =>
    rw [List.append_assoc]
    exact .cons h ih
/-- a slot taken out: what it owns, the rest -/
theorem AtS.at_ {G s A} (h : AtS K M H G s A) {i : Nat} {g : Slot} (e : G[i]? = some g) : ∃ x B A1 A2, s[i]? = some x ∧ g.ok K M H x B ∧ A = A1 ++ (B ++ A2) ∧
    ∀ (M' : List Addr) (H' : Hp) (g' : Slot) (x' : Option V) (B' : List Addr), (∀ {g x B}, Slot.ok K M H g x B → (∀ p, p ∈ B → p ∈ A1 ∨ p ∈ A2) → Slot.ok K M' H' g x B) → g'.ok K M' H' x' B' → AtS K M' H' (G.set i g') (s.set i x') (A1 ++ (B' ++ A2)) := by
  induction h generalizing i with
  | nil => simp at e
  | @cons g1 x1 B1 G1 s1 A1 h t ih =>
    have all : ∀ {G s A}, AtS K M H G s A → ∀ (M' : List Addr) (H' : Hp), (∀ {g x B}, Slot.ok K M H g x B → (∀ p, p ∈ B → p ∈ A) → Slot.ok K M' H' g x B) → AtS K M' H' G s A := by
      intro G s A h M' H'
      induction h with
      | nil => intro _; exact .nil
      | cons h t ih => intro k; exact .cons (k h fun p hp => List.mem_append_left _ hp) (ih fun h hp => k h fun p z => List.mem_append_right _ (hp p z))
    cases i with
    | zero =>
      have e' : g1 = g := Option.some.inj e
      subst e'
      refine ⟨x1, B1, [], A1, rfl, h, rfl, fun M' H' g' x' B' k hg => ?_⟩
      show AtS K M' H' (g' :: G1) (x' :: s1) (B' ++ A1)
      exact .cons hg (all t M' H' fun h hp => k h fun p z => .inr (hp p z))
    | succ i =>
      obtain ⟨x, B, P1, P2, h1, h2, h3, h4⟩ := ih (i := i) (by simpa using e)
      refine ⟨x, B, B1 ++ P1, P2, by simpa using h1, h2, by rw [h3, List.append_assoc], fun M' H' g' x' B' k hg => ?_⟩
      rw [List.append_assoc]
      exact .cons (k h fun p hp => .inl (List.mem_append_left _ hp)) (h4 M' H' g' x' B' (fun h hp => k h fun p z => (hp p z).imp (fun y => List.mem_append_right _ y) id) hg)
end
theorem set_self {T : Type _} {l : List T} {i : Nat} {x : T} (h : l[i]? = some x) : l.set i x = l := by
  apply List.ext_getElem?
  intro j
  rw [List.getElem?_set]
  split
  · rename_i e
    subst e
    split
    · exact h.symm
    · rw [h]
      rename_i z
      exact absurd (List.getElem?_eq_some_iff.mp h).1 z
  · rfl

/-! ### where one stands: a def's frame -/
structure FC (K : PySem.W.Frag) (S : Type) where
  H0 : Hp
  I : List Addr
  M0 : List Addr
  io : S → List Slot
  W : WX
structure Good {K : PySem.W.Frag} {S : Type} (F : FC K S) (H : Hp) (A : List Addr) : Prop where
  nd : A.Nodup
  out : ∀ p, p ∈ A → p ∉ F.M0
  new : ∀ p, p ∈ A → F.H0 p = none ∨ p ∈ F.I
  has : ∀ p, p ∈ F.I → ∃ o, H p = some o ∧ isTup o = false
  stay : ∀ p o, F.H0 p = some o → p ∉ F.I → H p = some o
  m0 : ∀ p, p ∈ F.M0 → (∃ o, F.H0 p = some o ∧ isTup o = false) ∧ p ∉ F.I
structure AtP {K : PySem.W.Frag} {S : Type} (F : FC K S) (T : List Slot) (t : List V) (G : List Slot) (s : L2.St) (H : Hp) (A1 A2 : List Addr) : Prop where
  tmp : AtS K (A1 ++ A2 ++ F.M0) H T (t.map some) A1
  loc : AtS K (A1 ++ A2 ++ F.M0) H G s A2
  good : Good F H (A1 ++ A2)
theorem Good.sub {K : PySem.W.Frag} {S : Type} {F : FC K S} {H : Hp} {A A' : List Addr} (g : Good F H A) (nd : A'.Nodup) (h : ∀ p, p ∈ A' → p ∈ A) : Good F H A' :=
  ⟨nd, fun p hp => g.out p (h p hp), fun p hp => g.new p (h p hp), g.has, g.stay, g.m0⟩
/-- what is untracked is new -/
theorem Good.fresh {K : PySem.W.Frag} {S : Type} {F : FC K S} {H : Hp} {A : List Addr} (g : Good F H A) {p : Addr} (hp : H p = none) : F.H0 p = none ∧ p ∉ F.M0 ∧ p ∉ F.I := by
  have hI : p ∉ F.I := fun z => by
    obtain ⟨o, ho, _⟩ := g.has p z
    rw [hp] at ho; cases ho
  have h0 : F.H0 p = none := by
    cases q : F.H0 p with
    | none => rfl
    | some o =>
      have := g.stay p o q hI
      rw [hp] at this; cases this
  refine ⟨h0, fun z => ?_, hI⟩
  obtain ⟨⟨o, ho, _⟩, _⟩ := g.m0 p z
  rw [h0] at ho; cases ho
def At {K : PySem.W.Frag} {S : Type} (F : FC K S) (T : List Slot) (t : List V) (G : List Slot) (s : L2.St) (H : Hp) : Prop := ∃ A1 A2, AtP F T t G s H A1 A2
end Td
namespace Td
open PySem PySem.Spec PyProof.Rows L2
section
variable {K : PySem.W.Frag} {S : Type} {F : FC K S} {T : List Slot} {t : List V} {G : List Slot} {s : L2.St} {H : Hp}
theorem At.len (h : At F T t G s H) : s.length = G.length := by
  obtain ⟨A1, A2, h⟩ := h
  exact h.loc.length
/-- a plain value becomes a temp -/
theorem At.push {U : Type} {r : Rp U} {a : U} {v : V} (h : At F T t G s H) (hr : ∀ M, r.rel K M H v a []) : At F (.is r a :: T) (v :: t) G s H := by
  obtain ⟨A1, A2, h⟩ := h
  exact ⟨A1, A2, .cons (B := []) ⟨v, rfl, hr _⟩ h.tmp, h.loc, h.good⟩
/-- the heap grows by an untracked thing -/
theorem At.heap {H' : Hp} (h : At F T t G s H) (k : ∀ p o, H p = some o → H' p = some o) : At F T t G s H' := by
  obtain ⟨A1, A2, h⟩ := h
  refine ⟨A1, A2, h.tmp.keep fun p o e _ => k p o e, h.loc.keep fun p o e _ => k p o e, ⟨h.good.nd, h.good.out, h.good.new, fun p hp => ?_, fun p o e hp => k p o (h.good.stay p o e hp), h.good.m0⟩⟩
  obtain ⟨o, ho, ht⟩ := h.good.has p hp
  exact ⟨o, k p o ho, ht⟩
theorem AtS.cons_inv {K : PySem.W.Frag} {M : List Addr} {H : Hp} {g : Slot} {G : List Slot} {x : Option V} {s : List (Option V)} {A : List Addr} (h : AtS K M H (g :: G) (x :: s) A) : ∃ B A', A = B ++ A' ∧ g.ok K M H x B ∧ AtS K M H G s A' := by
  cases h with
  | cons h t => exact ⟨_, _, rfl, h, t⟩
theorem At.pop {g : Slot} {v : V} (h : At F (g :: T) (v :: t) G s H) : At F T t G s H := by
  obtain ⟨A1, A2, h⟩ := h
  obtain ⟨B, A', eA, h1, h2⟩ := AtS.cons_inv h.tmp
  subst eA
  have hs : ∀ p, p ∈ A' ++ A2 → p ∈ (B ++ A') ++ A2 := fun p hp => by simp only [List.mem_append] at *; grind
  have hM : ∀ p, p ∈ A' ++ A2 ++ F.M0 → p ∈ (B ++ A') ++ A2 ++ F.M0 ∨ H p = none := fun p hp => .inl (by simp only [List.mem_append] at *; grind)
  refine ⟨A', A2, h2.grow hM, h.loc.grow hM, h.good.sub ?_ hs⟩
  have := h.good.nd
  rw [List.append_assoc] at this
  exact (List.nodup_append.mp this).2.1
/-- what stands in slot i -/
theorem At.slot (h : At F T t G s H) {i : Nat} {U : Type} {r : Rp U} {a : U} (e : G[i]? = some (.is r a)) : ∃ v M B, s[i]? = some (some v) ∧ r.rel K M H v a B := by
  obtain ⟨A1, A2, h⟩ := h
  obtain ⟨x, B, P1, P2, e1, ⟨v, e2, hr⟩, _⟩ := h.loc.at_ e
  subst e2
  exact ⟨v, _, B, e1, hr⟩
/-- a slot that owns nothing, read -/
theorem At.copy (h : At F T t G s H) {i : Nat} {U : Type} {r : Rp U} {a : U} (c : r.Cp) (e : G[i]? = some (.is r a)) : ∃ v, s[i]? = some (some v) ∧ At F (.is r a :: T) (v :: t) G s H := by
  obtain ⟨A1, A2, h⟩ := h
  obtain ⟨x, B, P1, P2, e1, ⟨v, e2, hr⟩, _⟩ := h.loc.at_ e
  subst e2
  have eB := c hr
  subst eB
  exact ⟨v, e1, A1, A2, .cons (B := []) ⟨v, rfl, hr⟩ h.tmp, h.loc, h.good⟩
/-- a slot's thing taken out of it -/
theorem At.move (h : At F T t G s H) {i : Nat} {U : Type} {r : Rp U} {a : U} (e : G[i]? = some (.is r a)) : ∃ v, s[i]? = some (some v) ∧ At F (.is r a :: T) (v :: t) (G.set i .un) s H := by
  obtain ⟨A1, A2, h⟩ := h
  obtain ⟨x, B, P1, P2, e1, ⟨v, e2, hr⟩, eA, back⟩ := h.loc.at_ e
  subst e2 eA
  have hM : ∀ p, p ∈ (B ++ A1) ++ (P1 ++ ([] ++ P2)) ++ F.M0 → p ∈ A1 ++ (P1 ++ (B ++ P2)) ++ F.M0 ∨ H p = none := fun p hp => .inl (by simp only [List.mem_append, List.nil_append] at *; grind)
  have nd := h.good.nd
  refine ⟨v, e1, B ++ A1, P1 ++ ([] ++ P2), .cons ⟨v, rfl, r.grow hr hM⟩ (h.tmp.grow hM), ?_, h.good.sub ?_ fun p hp => by simp only [List.mem_append, List.nil_append] at *; grind⟩
  · have z := back _ H .un (some v) [] (fun h _ => Slot.ok_grow h hM) rfl
    rwa [set_self e1] at z
  · simp only [List.nodup_append, List.mem_append, List.nil_append] at *
    grind
/-- a temp goes into slot i -/
theorem At.store (h : At F (g :: T) (v :: t) G s H) {g' : Slot} (i : Nat) (e : G[i]? = some g') : At F T t (G.set i g) (s.set i (some v)) H := by
  obtain ⟨A1, A2, h⟩ := h
  obtain ⟨B, A', eA, h1, h2⟩ := AtS.cons_inv h.tmp
  obtain ⟨x, B', P1, P2, e1, hr, eA2, back⟩ := h.loc.at_ e
  subst eA eA2
  have hM : ∀ p, p ∈ A' ++ (P1 ++ (B ++ P2)) ++ F.M0 → p ∈ (B ++ A') ++ (P1 ++ (B' ++ P2)) ++ F.M0 ∨ H p = none := fun p hp => .inl (by simp only [List.mem_append] at *; grind)
  have nd := h.good.nd
  refine ⟨A', P1 ++ (B ++ P2), h2.grow hM, back _ H g (some v) B (fun h _ => Slot.ok_grow h hM) (Slot.ok_grow h1 hM), h.good.sub ?_ fun p hp => by simp only [List.mem_append] at *; grind⟩
  simp only [List.nodup_append, List.mem_append] at *
  grind

/-- less is known -/
inductive Weak : List Slot → List Slot → Prop
  | nil : Weak [] []
  | un {g G G'} (h : Weak G G') : Weak (g :: G) (.un :: G')
  | eq {g G G'} (h : Weak G G') : Weak (g :: G) (g :: G')
theorem Weak.refl : ∀ G, Weak G G
  | [] => .nil
  | _ :: G => .eq (Weak.refl G)
theorem AtS.weak {M : List Addr} {G G' : List Slot} (w : Weak G G') : ∀ {s : List (Option V)} {A : List Addr}, AtS K M H G s A → ∃ A', AtS K M H G' s A' ∧ (∀ p, p ∈ A' → p ∈ A) ∧ (A.Nodup → A'.Nodup) := by
  induction w with
  | nil => intro s A h; exact ⟨A, h, fun _ z => z, id⟩
  | @un g G G' w ih =>
    intro s A h
    cases h with
    | @cons _ x B _ s A h t =>
      obtain ⟨A', h1, h2, h3⟩ := ih t
      refine ⟨[] ++ A', .cons (B := []) rfl h1, fun p hp => List.mem_append_right _ (h2 p hp), fun nd => h3 (List.nodup_append.mp nd).2.1⟩
  | @eq g G G' w ih =>
    intro s A h
    cases h with
    | @cons _ x B _ s A h t =>
      obtain ⟨A', h1, h2, h3⟩ := ih t
      refine ⟨B ++ A', .cons h h1, fun p hp => ?_, fun nd => ?_⟩
      · rcases List.mem_append.mp hp with hp | hp
        · exact List.mem_append_left _ hp
        · exact List.mem_append_right _ (h2 p hp)
      · obtain ⟨n1, n2, n3⟩ := List.nodup_append.mp nd
        exact List.nodup_append.mpr ⟨n1, h3 n2, fun a ha b hb => n3 a ha b (h2 b hb)⟩
theorem At.weak {G' : List Slot} (h : At F T t G s H) (w : Weak G G') : At F T t G' s H := by
  obtain ⟨A1, A2, h⟩ := h
  obtain ⟨A', h1, h2, h3⟩ := h.loc.weak w
  have nd := h.good.nd
  obtain ⟨n1, n2, n3⟩ := List.nodup_append.mp nd
  have hM : ∀ p, p ∈ A1 ++ A' ++ F.M0 → p ∈ A1 ++ A2 ++ F.M0 ∨ H p = none := fun p hp => .inl (by
    have := h2 p
    simp only [List.mem_append] at *
    grind)
  refine ⟨A1, A', h.tmp.grow hM, h1.grow hM, h.good.sub (List.nodup_append.mpr ⟨n1, h3 n2, fun a ha b hb => n3 a ha b (h2 b hb)⟩) fun p hp => ?_⟩
  have := h2 p
  simp only [List.mem_append] at *
  grind
theorem AtS.un : ∀ {M : List Addr} {s : List (Option V)}, AtS K M H (List.replicate s.length .un) s []
  | _, [] => .nil
  | _, _ :: s => .cons (B := []) rfl (AtS.un (s := s))
/-- of temps alone -/
theorem At.only (h : At F T t G s H) : At F T t (List.replicate s.length .un) s H := by
  obtain ⟨A1, A2, h⟩ := h
  have nd := h.good.nd
  have hM : ∀ p, p ∈ A1 ++ [] ++ F.M0 → p ∈ A1 ++ A2 ++ F.M0 ∨ H p = none := fun p hp => .inl (by simp only [List.mem_append] at *; grind)
  exact ⟨A1, [], h.tmp.grow hM, AtS.un, h.good.sub (by rw [List.append_nil]; exact (List.nodup_append.mp nd).1) fun p hp => by simp only [List.mem_append] at *; grind⟩
end
end Td

set_option Elab.async false
set_option linter.all false
set_option maxRecDepth 100000
set_option maxHeartbeats 4000000
namespace Td
open PySem PySem.Spec PyProof.Rows L2

/-- what an error holds -/
def rPay : Rp Pay where
  rel := fun K M H v a B => match a with
    | .non => v = .non ∧ B = []
    | .int i => rInt.rel K M H v i B
    | .pair a b => (rPair rInt rInt).rel K M H v (a, b) B
    | .lsI l => (rList rInt).rel K M H v l B
    | .lsP l => (rList (rPair rInt rInt)).rel K M H v l B
    | .str x => rStr.rel K M H v x B
  keep := by
    intro K M H H' v a B h k
    cases a with
    | non => exact h
    | int i => exact rInt.keep h k
    | pair a b => exact (rPair rInt rInt).keep h k
    | lsI l => exact (rList rInt).keep h k
    | lsP l => exact (rList (rPair rInt rInt)).keep h k
    | str x => exact rStr.keep h k
  grow := by
    intro K M M' H v a B h k
    cases a with
    | non => exact h
    | int i => exact rInt.grow h k
    | pair a b => exact (rPair rInt rInt).grow h k
    | lsI l => exact (rList rInt).grow h k
    | lsP l => exact (rList (rPair rInt rInt)).grow h k
    | str x => exact rStr.grow h k
  trk := by
    intro K M H v a B h
    cases a with
    | non => intro p hp; rw [h.2] at hp; cases hp
    | int i => exact rInt.trk h
    | pair a b => exact (rPair rInt rInt).trk h
    | lsI l => exact (rList rInt).trk h
    | lsP l => exact (rList (rPair rInt rInt)).trk h
    | str x => exact rStr.trk h

section
variable {K : PySem.W.Frag} {S : Type}
/-- an error may leave -/
def XP (F : FC K S) (σ : L2.St) (e : Exn) (s : S) : Prop := ∀ d v H', At F [.is rPay e.pay] [v] (F.io s) σ H' → H' d = some (.xd [("value", v)]) → F.W (.ref (He.ga K e.cls)) (some d) σ H'

/-! ### readings told by computations -/
def GE (F : FC K S) {U : Type} (te : TE) (G G' : S → List Slot) (r : Rp U) (m : SM S U) : Prop :=
  ∀ (T : List Slot) (t : List V) (σ : L2.St) (s : S) (H : Hp) (Q : VK), At F T t (G s) σ H →
    (m s).wp (fun a s' => ∀ v H', At F (.is r a :: T) (v :: t) (G' s') σ H' → Q v H') (XP F σ) → te σ H Q
def GT (F : FC K S) (te : TT) (G G' : S → List Slot) (m : SM S Bool) : Prop :=
  ∀ (T : List Slot) (t : List V) (σ : L2.St) (s : S) (H : Hp) (Q : Bool → Hp → Prop), At F T t (G s) σ H →
    (m s).wp (fun a s' => ∀ H', At F T t (G' s') σ H' → Q a H') (XP F σ) → te σ H Q
/-- an argument: a temp, or a name whose thing is read where it stands -/
inductive Arg : Type 1 where
  | t (g : Slot)
  | v (i : Nat)
  | u (w : V)
def tmps : List Arg → List Slot
  | [] => []
  | .t g :: L => g :: tmps L
  | .v _ :: L => tmps L
  | .u _ :: L => tmps L
inductive ArgV (σ : L2.St) : List Arg → List V → List V → Prop
  | nil : ArgV σ [] [] []
  | t {g L v ts vs} (h : ArgV σ L ts vs) : ArgV σ (.t g :: L) (v :: ts) (v :: vs)
  | v {i L v ts vs} (e : σ[i]? = some (some v)) (h : ArgV σ L ts vs) : ArgV σ (.v i :: L) ts (v :: vs)
  | u {L v ts vs} (h : ArgV σ L ts vs) : ArgV σ (.u v :: L) ts (v :: vs)
def GA (F : FC K S) {U : Type} (ta : TA) (G G' : S → List Slot) (L : U → List Arg) (m : SM S U) : Prop :=
  ∀ (T : List Slot) (t : List V) (σ : L2.St) (s : S) (H : Hp) (Q : List V → Hp → Prop), At F T t (G s) σ H →
    (m s).wp (fun a s' => ∀ ts vs H', At F ((tmps (L a)).reverse ++ T) (ts.reverse ++ t) (G' s') σ H' → ArgV σ (L a) ts vs → Q vs H') (XP F σ) → ta σ H Q

section
variable {F : FC K S} {G G1 G2 G' : S → List Slot}
theorem ga_nil : GA F tNil G G (fun _ : Unit => []) (ret ()) := fun T t σ s H Q h q => q [] [] H (by simpa [tmps] using h) .nil
theorem ga_cons {U W : Type} {r : Rp U} {te : TE} {tr : TA} {m1 : SM S U} {m2 : SM S W} {L : W → List Arg} (h1 : GE F te G G1 r m1) (h2 : GA F tr G1 G2 L m2) :
    GA F (tCons te tr) G G2 (fun p : U × W => .t (.is r p.1) :: L p.2) (bnd m1 fun a => bnd m2 fun b => ret (a, b)) := by
  intro T t σ s H Q h q
  refine h1 T t σ s H _ h (wp_mono (wp_bnd q) (fun a s1 q1 v H1 at1 => ?_) fun _ _ z => z)
  refine h2 (.is r a :: T) (v :: t) σ s1 H1 _ at1 (wp_mono (wp_bnd q1) (fun b s2 q2 ts vs H2 at2 av => ?_) fun _ _ z => z)
  exact q2 (v :: ts) (v :: vs) H2 (by simpa [tmps] using at2) (.t av)
theorem ga_var {W : Type} {i : Nat} {tr : TA} {m2 : SM S W} {L : W → List Arg} {U : S → Type} {r : ∀ s, Rp (U s)} {a : ∀ s, U s} (e : ∀ s, (G s)[i]? = some (.is (r s) (a s))) (h2 : GA F tr G G2 L m2) :
    GA F (tCons (tVar i) tr) G G2 (fun p : W => .v i :: L p) m2 := by
  intro T t σ s H Q h q
  obtain ⟨v, M, B, ev, _⟩ := h.slot (e s)
  refine ⟨v, ev, ?_⟩
  refine h2 T t σ s H _ h (wp_mono q (fun b s2 q2 ts vs H2 at2 av => ?_) fun _ _ z => z)
  exact q2 ts (v :: vs) H2 at2 (.v ev av)
/-- a pair at hand: its two values are known -/
def rBox {T U : Type} (v1 v2 : V) (r : Rp T) (q : Rp U) : Rp (T × U) where
  rel := fun K M H v a B => ∃ p B1 B2, v = .ref p ∧ SqT K H p [v1, v2] ∧ r.rel K M H v1 a.1 B1 ∧ q.rel K M H v2 a.2 B2 ∧ B = B1 ++ B2
  keep := by
    rintro K M H H' v a B ⟨p, B1, B2, e, hT, h1, h2, eB⟩ k
    subst eB
    exact ⟨p, B1, B2, e, sqT_keep hT k, r.keep h1 (fun p o e h => k p o e (h.imp id (Or.imp (fun z => List.mem_append_left _ z) id))), q.keep h2 (fun p o e h => k p o e (h.imp id (Or.imp (fun z => List.mem_append_right _ z) id))), rfl⟩
  grow := by
    rintro K M M' H v a B ⟨p, B1, B2, e, hT, h1, h2, eB⟩ k
    exact ⟨p, B1, B2, e, hT, r.grow h1 k, q.grow h2 k, eB⟩
  trk := by
    rintro K M H v a B ⟨p, B1, B2, e, hT, h1, h2, eB⟩ x hx
    subst eB
    rcases List.mem_append.mp hx with hx | hx
    · exact r.trk h1 x hx
    · exact q.trk h2 x hx
/-- how an argument may be read -/
inductive Rdd {U : Type} (G : List Slot) : Arg → Rp U → U → Prop
  | t {r a} : Rdd G (.t (.is r a)) r a
  | ts {r a} : Rdd G (.t (.is (sh r) a)) r a
  | v {i r a} (e : G[i]? = some (.is r a)) : Rdd G (.v i) r a
  | vs {i r a} (e : G[i]? = some (.is (sh r) a)) : Rdd G (.v i) r a
  | pn {i v r a} (e : G[i]? = some (.pn v r a)) : Rdd G (.v i) r a
  | b1 {i : Nat} {v1 v2 : V} {r : Rp U} {a : U} {W : Type} {q : Rp W} {b : W} (e : G[i]? = some (Slot.is (rBox v1 v2 r q) (a, b))) : Rdd G (.u v1) r a
  | b2 {i : Nat} {v1 v2 : V} {r : Rp U} {a : U} {W : Type} {q : Rp W} {b : W} (e : G[i]? = some (Slot.is (rBox v1 v2 q r) (b, a))) : Rdd G (.u v2) r a
theorem AtS.mem {M : List Addr} {H : Hp} {G : List Slot} {s : List (Option V)} {A : List Addr} (h : AtS K M H G s A) {i : Nat} {g : Slot} (e : G[i]? = some g) : ∃ x B, s[i]? = some x ∧ g.ok K M H x B ∧ ∀ p, p ∈ B → p ∈ A := by
  obtain ⟨x, B, P1, P2, e1, h1, eA, _⟩ := h.at_ e
  exact ⟨x, B, e1, h1, fun p hp => by rw [eA]; exact List.mem_append_right _ (List.mem_append_left _ hp)⟩
theorem rel_nil {U : Type} {r : Rp U} {M : List Addr} {H : Hp} {v : V} {a : U} {B : List Addr} (h : r.rel K M H v a B) : r.rel K [] H v a B := r.grow h fun p hp => by cases hp
theorem slot_is {U : Type} {r : Rp U} {M : List Addr} {H : Hp} {x : Option V} {a : U} {B : List Addr} (h : Slot.ok K M H (.is r a) x B) : ∃ v, x = some v ∧ r.rel K M H v a B := h
/-- the place of an argument's temp -/
theorem argV_tmp {σ : L2.St} : ∀ {L : List Arg} {ts vs : List V} {j : Nat} {g : Slot}, ArgV σ L ts vs → L[j]? = some (.t g) → ∃ (k : Nat) (v : V), (tmps L)[k]? = some g ∧ ts[k]? = some v ∧ vs[j]? = some v
  | _, _, _, j, g, .nil, e => by simp at e
  | _, _, _, 0, g, .t h, e => by
    have e' := Option.some.inj e
    cases e'
    exact ⟨0, _, rfl, rfl, rfl⟩
  | _, _, _, j + 1, g, .t h, e => by
    obtain ⟨k, v, h1, h2, h3⟩ := argV_tmp (j := j) h (by simpa using e)
    exact ⟨k + 1, v, by simpa [tmps] using h1, by simpa using h2, by simpa using h3⟩
  | _, _, _, 0, g, .v _ h, e => by
    have e' := Option.some.inj e
    cases e'
  | _, _, _, j + 1, g, .v _ h, e => by
    obtain ⟨k, v, h1, h2, h3⟩ := argV_tmp (j := j) h (by simpa using e)
    exact ⟨k, v, by simpa [tmps] using h1, h2, by simpa using h3⟩
  | _, _, _, 0, g, .u h, e => by
    have e' := Option.some.inj e
    cases e'
  | _, _, _, j + 1, g, .u h, e => by
    obtain ⟨k, v, h1, h2, h3⟩ := argV_tmp (j := j) h (by simpa using e)
    exact ⟨k, v, by simpa [tmps] using h1, h2, by simpa using h3⟩
theorem argV_u {σ : L2.St} : ∀ {L : List Arg} {ts vs : List V} {j : Nat} {w : V}, ArgV σ L ts vs → L[j]? = some (.u w) → vs[j]? = some w
  | _, _, _, j, w, .nil, e => by simp at e
  | _, _, _, 0, w, .t h, e => by
    have e' := Option.some.inj e
    cases e'
  | _, _, _, 0, w, .v _ h, e => by
    have e' := Option.some.inj e
    cases e'
  | _, _, _, 0, w, .u h, e => by
    have e' := Option.some.inj e
    cases e'
    rfl
  | _, _, _, j + 1, w, .t h, e => by simpa using argV_u (j := j) h (by simpa using e)
  | _, _, _, j + 1, w, .v _ h, e => by simpa using argV_u (j := j) h (by simpa using e)
  | _, _, _, j + 1, w, .u h, e => by simpa using argV_u (j := j) h (by simpa using e)
theorem argV_len {σ : L2.St} : ∀ {L : List Arg} {ts vs : List V}, ArgV σ L ts vs → vs.length = L.length ∧ ts.length = (tmps L).length
  | _, _, _, .nil => ⟨rfl, rfl⟩
  | _, _, _, .t h => by have := argV_len h; simp [tmps, this.1, this.2]
  | _, _, _, .v _ h => by have := argV_len h; simp [tmps, this.1, this.2]
  | _, _, _, .u h => by have := argV_len h; simp [tmps, this.1, this.2]
theorem argV_var {σ : L2.St} : ∀ {L : List Arg} {ts vs : List V} {j i : Nat}, ArgV σ L ts vs → L[j]? = some (.v i) → ∃ v, vs[j]? = some v ∧ σ[i]? = some (some v)
  | _, _, _, j, i, .nil, e => by simp at e
  | _, _, _, 0, i, .t h, e => by
    have e' := Option.some.inj e
    cases e'
  | _, _, _, j + 1, i, .t h, e => by
    obtain ⟨v, h1, h2⟩ := argV_var (j := j) h (by simpa using e)
    exact ⟨v, by simpa using h1, h2⟩
  | _, _, _, 0, i, .v ev h, e => by
    have e' := Option.some.inj e
    cases e'
    exact ⟨_, rfl, ev⟩
  | _, _, _, j + 1, i, .v _ h, e => by
    obtain ⟨v, h1, h2⟩ := argV_var (j := j) h (by simpa using e)
    exact ⟨v, by simpa using h1, h2⟩
  | _, _, _, 0, i, .u h, e => by
    have e' := Option.some.inj e
    cases e'
  | _, _, _, j + 1, i, .u h, e => by
    obtain ⟨v, h1, h2⟩ := argV_var (j := j) h (by simpa using e)
    exact ⟨v, by simpa using h1, h2⟩
theorem rev_get {T : Type _} {l : List T} {k : Nat} {x : T} (h : l[k]? = some x) (m : List T) : (l.reverse ++ m)[l.length - 1 - k]? = some x := by
  have hk := (List.getElem?_eq_some_iff.mp h).1
  rw [List.getElem?_append_left (by simp; omega), List.getElem?_reverse (by omega)]
  rw [show l.length - 1 - (l.length - 1 - k) = k by omega]
  exact h
theorem rdd {σ : L2.St} {T : List Slot} {t ts vs : List V} {L : List Arg} {Gs : List Slot} {H : Hp} {j : Nat} {arg : Arg} {U : Type} {r : Rp U} {a : U} (h : At F ((tmps L).reverse ++ T) (ts.reverse ++ t) Gs σ H) (av : ArgV σ L ts vs) (e : L[j]? = some arg) (rd : Rdd Gs arg r a) :
    ∃ v B, vs[j]? = some v ∧ r.rel K [] H v a B := by
  obtain ⟨A1, A2, h⟩ := h
  have tmp : ∀ {g : Slot}, L[j]? = some (.t g) → ∃ v M B, vs[j]? = some v ∧ g.ok K M H (some v) B := by
    intro g e
    obtain ⟨k, v, h1, h2, h3⟩ := argV_tmp av e
    obtain ⟨x, B, e1, h4, _⟩ := h.tmp.mem (rev_get h1 T)
    rw [← (argV_len av).2, List.map_append, List.map_reverse] at e1
    have h2' : (ts.map some)[k]? = some (some v) := by rw [List.getElem?_map, h2]; rfl
    have z := rev_get h2' (t.map some)
    rw [List.length_map, e1] at z
    cases z
    exact ⟨v, _, B, h3, h4⟩
  have loc : ∀ {i : Nat} {g : Slot}, L[j]? = some (.v i) → Gs[i]? = some g → ∃ v M B, vs[j]? = some v ∧ g.ok K M H (some v) B := by
    intro i g e eg
    obtain ⟨v, h1, h2⟩ := argV_var av e
    obtain ⟨x, B, e1, h4, _⟩ := h.loc.mem eg
    rw [h2] at e1
    cases e1
    exact ⟨v, _, B, h1, h4⟩
  cases rd with
  | t =>
    obtain ⟨v, M, B, h1, v', e', h2⟩ := tmp e
    cases e'
    exact ⟨v, B, h1, rel_nil h2⟩
  | ts =>
    obtain ⟨v, M, B, h1, v', e', h2⟩ := tmp e
    cases e'
    obtain ⟨_, A, h3, _⟩ := h2
    exact ⟨v, A, h1, rel_nil h3⟩
  | v eg =>
    obtain ⟨v, M, B, h1, v', e', h2⟩ := loc e eg
    cases e'
    exact ⟨v, B, h1, rel_nil h2⟩
  | vs eg =>
    obtain ⟨v, M, B, h1, v', e', h2⟩ := loc e eg
    cases e'
    obtain ⟨_, A, h3, _⟩ := h2
    exact ⟨v, A, h1, rel_nil h3⟩
  | pn eg =>
    obtain ⟨v, M, B, h1, e', h2⟩ := loc e eg
    cases e'
    exact ⟨_, B, h1, rel_nil h2⟩
  | b1 eg =>
    obtain ⟨x, B, e1, h4, _⟩ := h.loc.mem eg
    obtain ⟨v, _, p, B1, B2, _, _, h5, _⟩ := h4
    exact ⟨_, B1, argV_u av e, rel_nil h5⟩
  | b2 eg =>
    obtain ⟨x, B, e1, h4, _⟩ := h.loc.mem eg
    obtain ⟨v, _, p, B1, B2, _, _, _, h5, _⟩ := h4
    exact ⟨_, B2, argV_u av e, rel_nil h5⟩
/-- temps forgotten -/
theorem At.drop {T : List Slot} {t : List V} {Gs : List Slot} {σ : L2.St} {H : Hp} : ∀ {T1 : List Slot} {t1 : List V}, t1.length = T1.length → At F (T1 ++ T) (t1 ++ t) Gs σ H → At F T t Gs σ H
  | [], [], _, h => h
  | _ :: T1, _ :: t1, e, h => At.drop (T1 := T1) (t1 := t1) (by simpa using e) (At.pop h)
theorem At.drops {T : List Slot} {t ts vs : List V} {L : List Arg} {Gs : List Slot} {σ : L2.St} {H : Hp} (h : At F ((tmps L).reverse ++ T) (ts.reverse ++ t) Gs σ H) (av : ArgV σ L ts vs) : At F T t Gs σ H :=
  At.drop (by simp [(argV_len av).2]) h
end
end
end Td

set_option Elab.async false
set_option linter.all false
set_option maxRecDepth 100000
set_option maxHeartbeats 4000000
namespace Td
open PySem PySem.Spec PyProof.Rows L2

section
variable {K : PySem.W.Frag} {S : Type} {F : FC K S} {T : List Slot} {t : List V} {G : List Slot} {σ : L2.St} {H : Hp}
/-- a new tuple of two temps -/
theorem At.tup2 {U W : Type} {r : Rp U} {q : Rp W} {a : U} {b : W} {v w : V} (h : At F (.is q b :: .is r a :: T) (w :: v :: t) G σ H) {p : Addr} (hp : H p = none) : At F (.is (rPair r q) (a, b) :: T) (.ref p :: t) G σ (upd H p (.tup [v, w])) := by
  obtain ⟨A1, A2, h⟩ := h
  have k : ∀ x o, H x = some o → upd H p (.tup [v, w]) x = some o := fun x o e => by rw [upd_ne (ne_of_none e hp)]; exact e
  have nd := h.good.nd
  have hg := h.good
  obtain ⟨B2, A', eA, ⟨w', ew, h2⟩, ht⟩ := AtS.cons_inv h.tmp
  obtain ⟨B1, A'', eA', ⟨v', ev, h1⟩, ht⟩ := AtS.cons_inv ht
  cases ew; cases ev
  subst eA; subst eA'
  have hM : ∀ x, x ∈ (B1 ++ B2) ++ A'' ++ A2 ++ F.M0 → x ∈ B2 ++ (B1 ++ A'') ++ A2 ++ F.M0 ∨ H x = none := fun x hx => .inl (by simp only [List.mem_append] at *; grind)
  refine ⟨(B1 ++ B2) ++ A'', A2, .cons ⟨_, rfl, p, v, w, B1, B2, rfl, SqT.of upd_same, r.keep (r.grow h1 hM) (fun x o e _ => k x o e), q.keep (q.grow h2 hM) (fun x o e _ => k x o e), rfl⟩ ((ht.grow hM).keep fun x o e _ => k x o e), (h.loc.grow hM).keep fun x o e _ => k x o e, ?_⟩
  have hg' := hg.sub (A' := (B1 ++ B2) ++ A'' ++ A2) (by simp only [List.nodup_append, List.mem_append] at *; grind) (fun x hx => by simp only [List.mem_append] at *; grind)
  exact ⟨hg'.nd, hg'.out, hg'.new, fun x hx => let ⟨o, e, z⟩ := hg'.has x hx; ⟨o, k x o e, z⟩, fun x o e z => k x o (hg'.stay x o e z), hg'.m0⟩
theorem At.tup3 {U W Z : Type} {r : Rp U} {q : Rp W} {l : Rp Z} {a : U} {b : W} {c : Z} {v w u : V} (h : At F (.is l c :: .is q b :: .is r a :: T) (u :: w :: v :: t) G σ H) {p : Addr} (hp : H p = none) : At F (.is (rTup3 r q l) (a, b, c) :: T) (.ref p :: t) G σ (upd H p (.tup [v, w, u])) := by
  obtain ⟨A1, A2, h⟩ := h
  have k : ∀ x o, H x = some o → upd H p (.tup [v, w, u]) x = some o := fun x o e => by rw [upd_ne (ne_of_none e hp)]; exact e
  have nd := h.good.nd
  have hg := h.good
  obtain ⟨B3, A', eA, ⟨u', eu, h3⟩, ht⟩ := AtS.cons_inv h.tmp
  obtain ⟨B2, A3, eA3, ⟨w', ew, h2⟩, ht⟩ := AtS.cons_inv ht
  obtain ⟨B1, A'', eA', ⟨v', ev, h1⟩, ht⟩ := AtS.cons_inv ht
  cases eu; cases ew; cases ev
  subst eA; subst eA3; subst eA'
  have hM : ∀ x, x ∈ (B1 ++ (B2 ++ B3)) ++ A'' ++ A2 ++ F.M0 → x ∈ B3 ++ (B2 ++ (B1 ++ A'')) ++ A2 ++ F.M0 ∨ H x = none := fun x hx => .inl (by simp only [List.mem_append] at *; grind)
  refine ⟨(B1 ++ (B2 ++ B3)) ++ A'', A2, .cons ⟨_, rfl, p, v, w, u, B1, B2, B3, rfl, SqT.of upd_same, r.keep (r.grow h1 hM) (fun x o e _ => k x o e), q.keep (q.grow h2 hM) (fun x o e _ => k x o e), l.keep (l.grow h3 hM) (fun x o e _ => k x o e), rfl⟩ ((ht.grow hM).keep fun x o e _ => k x o e), (h.loc.grow hM).keep fun x o e _ => k x o e, ?_⟩
  have hg' := hg.sub (A' := (B1 ++ (B2 ++ B3)) ++ A'' ++ A2) (by simp only [List.nodup_append, List.mem_append] at *; grind) (fun x hx => by simp only [List.mem_append] at *; grind)
  exact ⟨hg'.nd, hg'.out, hg'.new, fun x hx => let ⟨o, e, z⟩ := hg'.has x hx; ⟨o, k x o e, z⟩, fun x o e z => k x o (hg'.stay x o e z), hg'.m0⟩
/-- temps of one kind: all pending items of a list -/
def pend {U : Type} (r : Rp U) (as : List U) : List Slot := (as.map (Slot.is r)).reverse
theorem pend_snoc {U : Type} (r : Rp U) (as : List U) (a : U) : pend r (as ++ [a]) = .is r a :: pend r as := by simp [pend]
theorem pend_len {U : Type} (r : Rp U) (as : List U) : (pend r as).length = as.length := by simp [pend]
theorem AtS.split {M : List Addr} : ∀ {G1 G2 : List Slot} {s1 s2 : List (Option V)} {A : List Addr}, s1.length = G1.length → AtS K M H (G1 ++ G2) (s1 ++ s2) A → ∃ A1 A2, A = A1 ++ A2 ∧ AtS K M H G1 s1 A1 ∧ AtS K M H G2 s2 A2
  | [], _, [], _, A, _, h => ⟨[], A, rfl, .nil, h⟩
  | _ :: G1, G2, _ :: s1, s2, _, e, h => by
    obtain ⟨B, A', eA, h1, h2⟩ := AtS.cons_inv h
    obtain ⟨A1, A2, e2, h3, h4⟩ := AtS.split (G1 := G1) (s1 := s1) (by simpa using e) h2
    exact ⟨B ++ A1, A2, by rw [eA, e2, List.append_assoc], .cons h1 h3, h4⟩
theorem AtS.all {U : Type} {r : Rp U} {M : List Addr} : ∀ {n : Nat} {as : List U} {vs : List V} {A : List Addr}, as.length = n → vs.length = n → AtS K M H (pend r as) (vs.reverse.map some) A → ∃ A', All3 (r.rel K M H) vs as A' ∧ A'.Perm A := by
  intro n
  induction n with
  | zero =>
    intro as vs A e1 e2 h
    obtain rfl : as = [] := List.eq_nil_of_length_eq_zero e1
    obtain rfl : vs = [] := List.eq_nil_of_length_eq_zero e2
    cases h
    exact ⟨[], .nil, .nil⟩
  | succ n ih =>
    intro as vs A e1 e2 h
    obtain ⟨as', a, rfl⟩ : ∃ as' a, as = as' ++ [a] := ⟨_, _, (List.dropLast_concat_getLast (l := as) (by intro z; simp [z] at e1)).symm⟩
    obtain ⟨vs', v, rfl⟩ : ∃ vs' v, vs = vs' ++ [v] := ⟨_, _, (List.dropLast_concat_getLast (l := vs) (by intro z; simp [z] at e2)).symm⟩
    rw [pend_snoc] at h
    simp only [List.reverse_append, List.reverse_cons, List.reverse_nil, List.nil_append, List.singleton_append, List.map_cons] at h
    obtain ⟨B, A', eA, ⟨v', ev, h1⟩, h2⟩ := AtS.cons_inv h
    cases ev
    obtain ⟨A2, h3, pm⟩ := ih (by simpa using e1) (by simpa using e2) h2
    refine ⟨A2 ++ (B ++ []), h3.append (.cons h1 .nil), ?_⟩
    rw [eA, List.append_nil]
    exact List.perm_append_comm.trans (pm.append_left B)
/-- a new list of pending items -/
theorem At.lst {U : Type} {r : Rp U} {as : List U} {vs : List V} (h : At F (pend r as ++ T) (vs.reverse ++ t) G σ H) (hl : vs.length = as.length) {p : Addr} (hp : H p = none) : At F (.is (rList r) as :: T) (.ref p :: t) G σ (upd H p (.lst vs)) := by
  obtain ⟨A1, A2, h⟩ := h
  have k : ∀ x o, H x = some o → upd H p (.lst vs) x = some o := fun x o e => by rw [upd_ne (ne_of_none e hp)]; exact e
  have nd := h.good.nd
  have hg := h.good
  have ht := h.tmp
  rw [List.map_append] at ht
  obtain ⟨B, A', eA, h1, ht⟩ := AtS.split (by rw [List.length_map, List.length_reverse, pend_len, hl]) ht
  obtain ⟨B', h2, pm⟩ := AtS.all (n := as.length) rfl hl h1
  subst eA
  obtain ⟨f0, f1, f2⟩ := hg.fresh hp
  have mB : ∀ x, x ∈ B' ↔ x ∈ B := fun x => pm.mem_iff
  have npA : p ∉ B ++ A' ++ A2 := fun z => by
    have tt : ∃ o, H p = some o := by
      rcases List.mem_append.mp z with z | z
      · obtain ⟨o, e, _⟩ := h.tmp.trk p z; exact ⟨o, e⟩
      · obtain ⟨o, e, _⟩ := h.loc.trk p z; exact ⟨o, e⟩
    obtain ⟨o, e⟩ := tt
    rw [hp] at e; cases e
  have hM : ∀ x, x ∈ (p :: B') ++ A' ++ A2 ++ F.M0 → x ∈ B ++ A' ++ A2 ++ F.M0 ∨ H x = none := fun x hx => by
    by_cases e : x = p
    · right; rw [e]; exact hp
    · left
      have := mB x
      simp only [List.cons_append, List.mem_cons, List.mem_append] at *
      grind
  refine ⟨(p :: B') ++ A', A2, .cons ⟨_, rfl, p, vs, B', rfl, upd_same, h2.imp fun v a B _ hr => r.keep (r.grow hr hM) (fun x o e _ => k x o e), rfl⟩ ((ht.grow hM).keep fun x o e _ => k x o e), (h.loc.grow hM).keep fun x o e _ => k x o e, ?_⟩
  have ndB : B'.Nodup := by
    rw [List.append_assoc] at nd
    exact (pm.nodup_iff).mpr (List.nodup_append.mp nd).1
  refine ⟨?_, fun x hx => ?_, fun x hx => ?_, fun x hx => let ⟨o, e, z⟩ := hg.has x hx; ⟨o, k x o e, z⟩, fun x o e z => k x o (hg.stay x o e z), hg.m0⟩
  · have := fun x => mB x
    simp only [List.cons_append, List.nodup_append, List.nodup_cons, List.mem_append] at *
    grind
  · have := mB x
    have := hg.out x
    simp only [List.cons_append, List.mem_cons, List.mem_append] at *
    grind
  · have := mB x
    have := hg.new x
    simp only [List.cons_append, List.mem_cons, List.mem_append] at *
    grind
/-- parts of a pair -/
theorem At.unpair {U W : Type} {r : Rp U} {q : Rp W} {a : U × W} {v : V} (h : At F (.is (rPair r q) a :: T) (v :: t) G σ H) : ∃ p x y, v = .ref p ∧ SqT K H p [x, y] ∧ At F (.is r a.1 :: .is q a.2 :: T) (x :: y :: t) G σ H := by
  obtain ⟨A1, A2, h⟩ := h
  have nd := h.good.nd
  obtain ⟨B, A', eA, ⟨v', ev, p, x, y, B1, B2, e, hT, h1, h2, eB⟩, ht⟩ := AtS.cons_inv h.tmp
  cases ev
  subst eA eB
  refine ⟨p, x, y, e, hT, (B1 ++ (B2 ++ A')), A2, ?_, ?_, ?_⟩
  · rw [show B1 ++ (B2 ++ A') ++ A2 ++ F.M0 = B1 ++ B2 ++ A' ++ A2 ++ F.M0 by simp]
    exact .cons ⟨x, rfl, h1⟩ (.cons ⟨y, rfl, h2⟩ ht)
  · rw [show B1 ++ (B2 ++ A') ++ A2 ++ F.M0 = B1 ++ B2 ++ A' ++ A2 ++ F.M0 by simp]
    exact h.loc
  · rw [show B1 ++ (B2 ++ A') ++ A2 = B1 ++ B2 ++ A' ++ A2 by simp]
    exact h.good
theorem At.unpairS {U W : Type} {r : Rp U} {q : Rp W} {a : U × W} {v : V} (h : At F (.is (sh (rPair r q)) a :: T) (v :: t) G σ H) : ∃ p x y, v = .ref p ∧ SqT K H p [x, y] ∧ At F (.is (sh r) a.1 :: .is (sh q) a.2 :: T) (x :: y :: t) G σ H := by
  obtain ⟨A1, A2, h⟩ := h
  obtain ⟨B, A', eA, ⟨v', ev, eB, C, ⟨p, x, y, B1, B2, e, hT, h1, h2, eC⟩, hC⟩, ht⟩ := AtS.cons_inv h.tmp
  cases ev
  subst eA eB eC
  exact ⟨p, x, y, e, hT, A', A2, .cons (B := []) ⟨x, rfl, rfl, B1, h1, fun z hz => hC z (List.mem_append_left _ hz)⟩ (.cons (B := []) ⟨y, rfl, rfl, B2, h2, fun z hz => hC z (List.mem_append_right _ hz)⟩ ht), h.loc, h.good⟩
/-- what is owned is let go -/
theorem At.freeze {U : Type} {r : Rp U} {a : U} {v : V} (h : At F (.is r a :: T) (v :: t) G σ H) : At F (.is (sh r) a :: T) (v :: t) G σ H := by
  obtain ⟨A1, A2, h⟩ := h
  have nd := h.good.nd
  obtain ⟨B, A', eA, ⟨v', ev, hr⟩, ht⟩ := AtS.cons_inv h.tmp
  cases ev
  subst eA
  have hM : ∀ x, x ∈ [] ++ A' ++ A2 ++ F.M0 → x ∈ B ++ A' ++ A2 ++ F.M0 ∨ H x = none := fun x hx => .inl (by simp only [List.mem_append] at *; grind)
  refine ⟨[] ++ A', A2, .cons ⟨v, rfl, Rp.to_sh hr fun x hx => ?_⟩ (ht.grow hM), h.loc.grow hM, h.good.sub (by simp only [List.nodup_append, List.nil_append, List.mem_append] at *; grind) fun x hx => by simp only [List.mem_append] at *; grind⟩
  have := h.good.out x
  simp only [List.nodup_append, List.nil_append, List.mem_append] at *
  grind
theorem At.unsh {U : Type} {r : Rp U} (c : r.Cp) {a : U} {v : V} (h : At F (.is (sh r) a :: T) (v :: t) G σ H) : At F (.is r a :: T) (v :: t) G σ H := by
  obtain ⟨A1, A2, h⟩ := h
  obtain ⟨B, A', eA, ⟨v', ev, eB, C, hr, hC⟩, ht⟩ := AtS.cons_inv h.tmp
  cases ev
  have eC := c hr
  subst eA eB eC
  exact ⟨[] ++ A', A2, .cons ⟨v, rfl, hr⟩ ht, h.loc, h.good⟩
end

theorem star1 {e : Expr} {es : List Expr} {env : Env} (h : PySem.W.isStarred e = false) : starEach (e :: es) env = (false, eval e env) :: starEach es env := by
  cases e <;> first | rfl | cases h
end Td

set_option Elab.async false
set_option linter.all false
set_option maxRecDepth 100000
set_option maxHeartbeats 4000000
namespace Td
open PySem PySem.Spec PyProof.Rows L2

structure EX (X : Cx) {S : Type} (F : FC X.K S) {U : Type} (e : Expr) (te : TE) (G G' : S → List Slot) (r : Rp U) (m : SM S U) : Prop where
  pe : PE X e te
  go : GE F te G G' r m
structure ET (X : Cx) {S : Type} (F : FC X.K S) (e : Expr) (te : TT) (G G' : S → List Slot) (m : SM S Bool) : Prop where
  pt : PT X e te
  go : GT F te G G' m
structure EW (X : Cx) {S : Type} (F : FC X.K S) (e : Expr) (te : TT) (G G' : S → List Slot) (m : SM S Bool) : Prop where
  pw : PW X e te
  go : GT F te G G' m
structure EA (X : Cx) {S : Type} (F : FC X.K S) {U : Type} (es : List Expr) (ta : TA) (G G' : S → List Slot) (L : U → List Arg) (m : SM S U) : Prop where
  pa : PA X es ta
  go : GA F ta G G' L m

/-! ### rules by values: the heap stays -/
def VO1 (K : PySem.W.Frag) (S : Type) {U W : Type} (r1 : Rp U) (r3 : Rp W) (rr : V → Hp → VK → Prop) (f : U → SM S W) : Prop :=
  ∀ (a : U) (v : V) (M B : List Addr) (H : Hp) (Q : VK) (s : S), r1.rel K M H v a B → (f a s).wp (fun c s' => s' = s → ∀ u, (∀ M, r3.rel K M H u c []) → Q u H) (fun _ _ => False) → rr v H Q
def VO2 (K : PySem.W.Frag) (S : Type) {U W Z : Type} (r1 : Rp U) (r2 : Rp W) (r3 : Rp Z) (rr : R2) (f : U → W → SM S Z) : Prop :=
  ∀ (a : U) (b : W) (v w : V) (M B M' B' : List Addr) (H : Hp) (Q : VK) (s : S), r1.rel K M H v a B → r2.rel K M' H w b B' →
    (f a b s).wp (fun c s' => s' = s → ∀ u, (∀ M, r3.rel K M H u c []) → Q u H) (fun _ _ => False) → rr v w H Q
/-- a computation that leaves the state and raises nothing -/
def Stl {S T : Type} (m : SM S T) : Prop := ∀ s, match m s with
  | .ok _ s' => s' = s
  | .exc _ _ => False
  | .stuck => True
theorem stl_ret {S T : Type} (a : T) : Stl (ret a : SM S T) := fun _ => rfl
theorem stl_stk {S T : Type} : Stl (stk : SM S T) := fun _ => trivial
theorem stl_grd {S : Type} {c : Prop} [Decidable c] : Stl (grd c : SM S Unit) := fun s => by
  unfold grd
  by_cases h : c
  · rw [if_pos h]
  · rw [if_neg h]; trivial
theorem stl_bnd {S T U : Type} {m : SM S T} {k : T → SM S U} (h : Stl m) (h' : ∀ a, Stl (k a)) : Stl (bnd m k) := fun s => by
  unfold bnd
  have z := h s
  cases hm : m s with
  | ok a s' =>
    rw [hm] at z
    cases z
    exact h' a s
  | exc e s' => rw [hm] at z; exact z.elim
  | stuck => trivial
theorem Stl.wp {S T : Type} {m : SM S T} (h : Stl m) {s : S} {P : T → S → Prop} {E : Exn → S → Prop} {E' : Exn → S → Prop} (q : (m s).wp P E) : (m s).wp (fun a s' => s' = s ∧ P a s) E' := by
  have z := h s
  cases hm : m s with
  | ok a s' =>
    rw [hm] at z q
    cases z
    exact ⟨rfl, q⟩
  | exc e s' => rw [hm] at z; exact z.elim
  | stuck => rw [hm] at q; exact q
theorem vo_I0 {K : PySem.W.Frag} {S : Type} (g : Int → Int → Int) : VO2 K S rInt rInt rInt (rI0 fun i j => .int (g i j)) (fun i j => ret (g i j)) :=
  fun a b v w _ _ _ _ H Q s h1 h2 q => ⟨a, b, h1.1, h2.1, q rfl _ fun _ => ⟨rfl, rfl⟩⟩
theorem vo_B0 {K : PySem.W.Frag} {S : Type} (g : Int → Int → Bool) : VO2 K S rInt rInt rBool (rI0 fun i j => .bl (g i j)) (fun i j => ret (g i j)) :=
  fun a b v w _ _ _ _ H Q s h1 h2 q => ⟨a, b, h1.1, h2.1, q rfl _ fun _ => ⟨rfl, rfl⟩⟩
def grdI {S : Type} (C : Int → Int → Prop) [∀ i j, Decidable (C i j)] (g : Int → Int → Int) (i j : Int) : SM S Int := bnd (grd (C i j)) fun _ => ret (g i j)
theorem vo_I {K : PySem.W.Frag} {S : Type} (C : Int → Int → Prop) [∀ i j, Decidable (C i j)] (g : Int → Int → Int) : VO2 K S rInt rInt rInt (rI C fun i j => .int (g i j)) (grdI C g) :=
  fun a b v w _ _ _ _ H Q s h1 h2 q => by
    obtain ⟨hc, q⟩ := wp_grd (wp_bnd q)
    exact ⟨a, b, h1.1, h2.1, hc, q rfl _ fun _ => ⟨rfl, rfl⟩⟩
/-- == of plain values -/
theorem vo_eq {K : PySem.W.Frag} {S T : Type} [DecidableEq T] {f : T → V} (hf : ∀ a b, f a = f b → a = b) (hs : ∀ a b, scal (f a) (f b) = true) : VO2 K S (rPl f) (rPl f) rBool rEq (fun a b => ret (decide (a = b))) :=
  fun a b v w _ _ _ _ H Q s h1 h2 q => by
    obtain ⟨e1, _⟩ := h1
    obtain ⟨e2, _⟩ := h2
    rw [e1, e2]
    refine ⟨hs a b, q rfl _ fun _ => ⟨?_, rfl⟩⟩
    by_cases e : a = b
    · rw [decide_eq_true e, decide_eq_true (congrArg f e)]
    · rw [decide_eq_false e, decide_eq_false (fun z => e (hf _ _ z))]
theorem vo_ne {K : PySem.W.Frag} {S T : Type} [DecidableEq T] {f : T → V} (hf : ∀ a b, f a = f b → a = b) (hs : ∀ a b, scal (f a) (f b) = true) : VO2 K S (rPl f) (rPl f) rBool rNe (fun a b => ret (!decide (a = b))) :=
  fun a b v w _ _ _ _ H Q s h1 h2 q => by
    obtain ⟨e1, _⟩ := h1
    obtain ⟨e2, _⟩ := h2
    rw [e1, e2]
    refine ⟨hs a b, q rfl _ fun _ => ⟨?_, rfl⟩⟩
    by_cases e : a = b
    · rw [decide_eq_true e, decide_eq_true (congrArg f e)]
    · rw [decide_eq_false e, decide_eq_false (fun z => e (hf _ _ z))]
theorem vo_eqI {K : PySem.W.Frag} {S : Type} : VO2 K S rInt rInt rBool rEq (fun a b => ret (decide (a = b))) := vo_eq (fun _ _ e => by injection e) fun _ _ => rfl
theorem vo_neI {K : PySem.W.Frag} {S : Type} : VO2 K S rInt rInt rBool rNe (fun a b => ret (!decide (a = b))) := vo_ne (fun _ _ e => by injection e) fun _ _ => rfl
theorem vo_eqS {K : PySem.W.Frag} {S : Type} : VO2 K S rStr rStr rBool rEq (fun a b => ret (decide (a = b))) := vo_eq (fun _ _ e => by injection e) fun _ _ => rfl
theorem vo_neS {K : PySem.W.Frag} {S : Type} : VO2 K S rStr rStr rBool rNe (fun a b => ret (!decide (a = b))) := vo_ne (fun _ _ e => by injection e) fun _ _ => rfl
theorem vo_eqB {K : PySem.W.Frag} {S : Type} : VO2 K S rBool rBool rBool rEq (fun a b => ret (decide (a = b))) := vo_eq (fun _ _ e => by injection e) fun _ _ => rfl
theorem vo_neB {K : PySem.W.Frag} {S : Type} : VO2 K S rBool rBool rBool rNe (fun a b => ret (!decide (a = b))) := vo_ne (fun _ _ e => by injection e) fun _ _ => rfl

section
variable {X : Cx} {S : Type} {F : FC X.K S} {U W Z : Type} {r r1 : Rp U} {r2 : Rp W} {r3 : Rp Z} {e a b : Expr} {te ta tb : TE} {G G1 G2 G' : S → List Slot} {m m1 : SM S U} {m2 : SM S W} {pos : Pos}
/-- the two temps used up, the answer a temp -/
theorem fin2 {T : List Slot} {t : List V} {Gs : List Slot} {σ : L2.St} {H : Hp} {g1 g2 : Slot} {v w : V} {c : Z} {u : V} (h : At F (g2 :: g1 :: T) (w :: v :: t) Gs σ H) (hr : ∀ M, r3.rel X.K M H u c []) : At F (.is r3 c :: T) (u :: t) Gs σ H := (h.pop.pop).push hr
theorem top_rel {T : List Slot} {t : List V} {Gs : List Slot} {σ : L2.St} {H : Hp} {x : U} {v : V} (h : At F (.is r x :: T) (v :: t) Gs σ H) : ∃ M B, r.rel X.K M H v x B := by
  obtain ⟨A1, A2, h⟩ := h
  obtain ⟨B, A', eA, ⟨v', ev, hr⟩, ht⟩ := AtS.cons_inv h.tmp
  cases ev
  exact ⟨_, B, hr⟩
theorem snd_rel {T : List Slot} {t : List V} {Gs : List Slot} {σ : L2.St} {H : Hp} {g : Slot} {x : U} {v w : V} (h : At F (g :: .is r x :: T) (w :: v :: t) Gs σ H) : ∃ M B, r.rel X.K M H v x B := top_rel h.pop
theorem go_op {rr : R2} {f : U → W → SM S Z} (hf : ∀ a b, Stl (f a b)) (hv : VO2 X.K S r1 r2 r3 rr f) (h1 : GE F ta G G1 r1 m1) (h2 : GE F tb G1 G2 r2 m2) : GE F (tOp rr ta tb) G G2 r3 (bnd m1 fun a => bnd m2 fun b => f a b) := by
  intro T t σ s H Q h q
  refine h1 T t σ s H _ h (wp_mono (wp_bnd q) (fun a s1 q1 v H1 at1 => ?_) fun _ _ z => z)
  refine h2 _ _ σ s1 H1 _ at1 (wp_mono (wp_bnd q1) (fun b s2 q2 w H2 at2 => ?_) fun _ _ z => z)
  obtain ⟨M1, B1, k1⟩ := snd_rel at2
  obtain ⟨M2, B2, k2⟩ := top_rel at2
  refine hv a b v w M1 B1 M2 B2 H2 Q s2 k1 k2 (wp_mono ((hf a b).wp q2) (fun c s3 q3 e u hu => ?_) fun _ _ z => z)
  exact q3.2 u H2 (fin2 at2 hu)
theorem ex_bin {op : Operator} {rr : R2} {f : U → W → SM S Z} (ho : OpR X (binaryOp op) rr) (hv : VO2 X.K S r1 r2 r3 rr f) (hf : ∀ a b, Stl (f a b)) (h1 : EX X F a ta G G1 r1 m1) (h2 : EX X F b tb G1 G2 r2 m2) :
    EX X F (.BinOp a op b pos) (tOp rr ta tb) G G2 r3 (bnd m1 fun a => bnd m2 fun b => f a b) := ⟨pe_op ho h1.pe h2.pe, go_op hf hv h1.go h2.go⟩
theorem ex_cmp {op : CmpOp} {rr : R2} {f : U → W → SM S Bool} (ho : OpR X (compareOp op) rr) (hv : VO2 X.K S r1 r2 rBool rr f) (hf : ∀ a b, Stl (f a b)) (h1 : EX X F a ta G G1 r1 m1) (h2 : EX X F b tb G1 G2 r2 m2) (hm : behindInMarks op b = false) :
    EX X F (.Compare a [op] [b] pos) (tOp rr ta tb) G G2 rBool (bnd m1 fun a => bnd m2 fun b => f a b) := ⟨pe_cmpR ho h1.pe h2.pe hm, go_op hf hv h1.go h2.go⟩
theorem go_test {te : TE} {m : SM S Bool} (h : GE F te G G' rBool m) : GT F (tTest te) G G' m := by
  intro T t σ s H Q h0 q
  refine h T t σ s H _ h0 (wp_mono q (fun c s1 q1 v H1 at1 => ?_) fun _ _ z => z)
  obtain ⟨M, B, k, _⟩ := top_rel at1
  exact ⟨c, k, q1 H1 at1.pop⟩
theorem go_B {te : TE} {m : SM S Bool} (h : GE F te G G' rBool m) : GT F (tB te) G G' m := go_test h
theorem et_cmp {op : CmpOp} {rr : R2} {f : U → W → SM S Bool} (ho : OpR X (compareOp op) rr) (hv : VO2 X.K S r1 r2 rBool rr f) (hf : ∀ a b, Stl (f a b)) (h1 : EX X F a ta G G1 r1 m1) (h2 : EX X F b tb G1 G2 r2 m2) (hm : behindInMarks op b = false) :
    ET X F (.Compare a [op] [b] pos) (tTest (tOp rr ta tb)) G G2 (bnd m1 fun a => bnd m2 fun b => f a b) := ⟨pt_cmpR ho h1.pe h2.pe hm, go_test (go_op hf hv h1.go h2.go)⟩
theorem et_val {m : SM S Bool} (h : EX X F e te G G' rBool m) (he : ∀ whole, isTrue e X.env whole = (do let v ← whole; standAt e.pos; holding [v] (truthy v)) := by intro _; rfl) : ET X F e (tB te) G G' m := ⟨pt_val h.pe he, go_B h.go⟩
/-- names, constants -/
theorem ex_var (i : Nat) {a : U} {x : Str} (c : r.Cp) (hG : ∀ s, (G s)[i]? = some (.is r a)) (hN : X.N[i]? = some x := by rfl) (hv : Vis X.env.scope x := by first | exact Or.inl rfl | exact Or.inr (Or.inl rfl) | exact Or.inr (Or.inr rfl))
    (hd : (x == ("__debug__" : Str)) = false := by decide) (hcd : (x == ("__classdict__" : Str)) = false := by decide) : EX X F (.Name x pos) (tVar i) G G r (ret a) :=
  ⟨pe_var hN hv hd hcd, fun T t σ s H Q h q => by
    obtain ⟨v, e, at1⟩ := h.copy c (hG s)
    exact ⟨v, e, q v H at1⟩⟩
/-- a name whose thing is taken out of it -/
theorem ex_mv (i : Nat) {a : U} {x : Str} (hG : ∀ s, (G s)[i]? = some (.is r a)) (hN : X.N[i]? = some x := by rfl) (hv : Vis X.env.scope x := by first | exact Or.inl rfl | exact Or.inr (Or.inl rfl) | exact Or.inr (Or.inr rfl))
    (hd : (x == ("__debug__" : Str)) = false := by decide) (hcd : (x == ("__classdict__" : Str)) = false := by decide) : EX X F (.Name x pos) (tVar i) G (fun s => (G s).set i .un) r (ret a) :=
  ⟨pe_var hN hv hd hcd, fun T t σ s H Q h q => by
    obtain ⟨v, e, at1⟩ := h.move (hG s)
    exact ⟨v, e, q v H at1⟩⟩
theorem go_c {f : U → V} {a : U} : GE F (tC (f a)) G G (rPl f) (ret a) := fun T t σ s H Q h q => q _ H (h.push fun _ => ⟨rfl, rfl⟩)
theorem ex_int {i : Int} {j : Nat} : EX X F (.Constant (.int i) j pos) (tC (.int i)) G G rInt (ret i) := ⟨pe_int, go_c⟩
theorem ex_bool {i : Bool} {j : Nat} : EX X F (.Constant (.bool i) j pos) (tC (.bl i)) G G rBool (ret i) := ⟨pe_bl, go_c⟩
theorem ex_str {i : Str} {j : Nat} : EX X F (.Constant (.str i) j pos) (tC (.str i)) G G rStr (ret i) := ⟨pe_str, go_c⟩
theorem ex_none {j : Nat} : EX X F (.Constant .none j pos) (tC .non) G G rNon (ret ()) := ⟨pe_non, go_c (f := fun _ : Unit => V.non) (a := ())⟩
theorem ex_noneO {j : Nat} : EX X F (.Constant .none j pos) (tC .non) G G (rOpt r) (ret none) := ⟨pe_non, fun T t σ s H Q h q => q _ H (h.push fun _ => ⟨rfl, rfl⟩)⟩
/-- the answer read another way -/
theorem go_map {f : U → W} (h : GE F te G G' r1 m1) (k : ∀ a v M H B, r1.rel X.K M H v a B → r2.rel X.K M H v (f a) B) : GE F te G G' r2 (bnd m1 fun a => ret (f a)) := by
  intro T t σ s H Q h0 q
  refine h T t σ s H Q h0 (wp_mono (wp_bnd q) (fun a s1 q1 v H1 at1 => q1 v H1 ?_) fun _ _ z => z)
  obtain ⟨A1, A2, at1⟩ := at1
  refine ⟨A1, A2, ?_, at1.loc, at1.good⟩
  obtain ⟨B, A', eA, ⟨v', ev, hr⟩, ht⟩ := AtS.cons_inv at1.tmp
  subst eA
  exact .cons ⟨v', ev, k _ _ _ _ _ hr⟩ ht
theorem ex_some (h : EX X F e te G G' r m) : EX X F e te G G' (rOpt r) (bnd m fun a => ret (some a)) := ⟨h.pe, go_map h.go fun _ _ _ _ _ h => h⟩
theorem ex_freeze (h : EX X F e te G G' r m) : EX X F e te G G' (sh r) m := ⟨h.pe, fun T t σ s H Q h0 q => h.go T t σ s H Q h0 (wp_mono q (fun a s1 q1 v H1 at1 => q1 v H1 at1.freeze) fun _ _ z => z)⟩
theorem ex_unsh (c : r.Cp) (h : EX X F e te G G' (sh r) m) : EX X F e te G G' r m := ⟨h.pe, fun T t σ s H Q h0 q => h.go T t σ s H Q h0 (wp_mono q (fun a s1 q1 v H1 at1 => q1 v H1 (at1.unsh c)) fun _ _ z => z)⟩
/-- tuples -/
theorem ex_tup2 {x1 : Nat} (h1 : EX X F a ta G G1 r1 m1) (h2 : EX X F b tb G1 G2 r2 m2) (hs2 : PySem.W.isStarred a = false := by rfl) (hs1 : PySem.W.isStarred b = false := by rfl) : EX X F (.Tuple [a, b] x1 pos) (tTup (tCons ta (tCons tb tNil))) G G2 (rPair r1 r2) (bnd m1 fun a => bnd m2 fun b => ret (a, b)) :=
  ⟨pe_tup (pa_cons h1.pe (pa_cons h2.pe pa_nil (star1 hs1)) (star1 hs2)), fun T t σ s H Q h q => by
    refine h1.go T t σ s H _ h (wp_mono (wp_bnd q) (fun a s1 q1 v H1 at1 => ?_) fun _ _ z => z)
    refine h2.go _ _ σ s1 H1 _ at1 (wp_mono (wp_bnd q1) (fun b s2 q2 w H2 at2 => ?_) fun _ _ z => z)
    refine ⟨by show 2 ≤ sizeLine; decide, fun p hp => ?_⟩
    exact q2 _ _ (at2.tup2 hp)⟩
theorem ex_tup3 {c : Expr} {tc : TE} {m3 : SM S Z} {G3 : S → List Slot} {x1 : Nat} (h1 : EX X F a ta G G1 r1 m1) (h2 : EX X F b tb G1 G2 r2 m2) (h3 : EX X F c tc G2 G3 r3 m3) (hs3 : PySem.W.isStarred a = false := by rfl) (hs2 : PySem.W.isStarred b = false := by rfl) (hs1 : PySem.W.isStarred c = false := by rfl) : EX X F (.Tuple [a, b, c] x1 pos) (tTup (tCons ta (tCons tb (tCons tc tNil)))) G G3 (rTup3 r1 r2 r3) (bnd m1 fun a => bnd m2 fun b => bnd m3 fun c => ret (a, b, c)) :=
  ⟨pe_tup (pa_cons h1.pe (pa_cons h2.pe (pa_cons h3.pe pa_nil (star1 hs1)) (star1 hs2)) (star1 hs3)), fun T t σ s H Q h q => by
    refine h1.go T t σ s H _ h (wp_mono (wp_bnd q) (fun a s1 q1 v H1 at1 => ?_) fun _ _ z => z)
    refine h2.go _ _ σ s1 H1 _ at1 (wp_mono (wp_bnd q1) (fun b s2 q2 w H2 at2 => ?_) fun _ _ z => z)
    refine h3.go _ _ σ s2 H2 _ at2 (wp_mono (wp_bnd q2) (fun c s3 q3 u H3 at3 => ?_) fun _ _ z => z)
    refine ⟨by show 3 ≤ sizeLine; decide, fun p hp => ?_⟩
    exact q3 _ _ (at3.tup3 hp)⟩
/-- a if t else b -/
theorem ex_if {c : Expr} {tc : TT} {mc : SM S Bool} {mb : SM S U} (hc : ET X F c tc G G1 mc) (h1 : EX X F a ta G1 G2 r m) (h2 : EX X F b tb G1 G2 r mb) : EX X F (.IfExp c a b pos) (tIf tc ta tb) G G2 r (bnd mc fun k => if k then m else mb) :=
  ⟨pe_ifExp hc.pt h1.pe h2.pe, fun T t σ s H Q h q => by
    refine hc.go T t σ s H _ h (wp_mono (wp_bnd q) (fun k s1 q1 H1 at1 => ?_) fun _ _ z => z)
    cases k with
    | true => exact h1.go T t σ s1 H1 Q at1 q1
    | false => exact h2.go T t σ s1 H1 Q at1 q1⟩
/-- and, or, not -/
theorem ew_and1 {mc : SM S Bool} {tc : TT} (h : ET X F a tc G G1 mc) : EW X F (.BoolOp .And [a] pos) tc G G1 mc := ⟨pw_and1 h.pt, h.go⟩
theorem ew_or1 {mc : SM S Bool} {tc : TT} (h : ET X F a tc G G1 mc) : EW X F (.BoolOp .Or [a] pos) tc G G1 mc := ⟨pw_or1 h.pt, h.go⟩
theorem ew_and {rest : List Expr} {mc md : SM S Bool} {tc td : TT} (h : ET X F a tc G G1 mc) (h2 : EW X F (.BoolOp .And (b :: rest) pos) td G1 G1 md) : EW X F (.BoolOp .And (a :: b :: rest) pos) (tAnd tc td) G G1 (bnd mc fun k => if k then md else ret false) :=
  ⟨pw_and h.pt h2.pw, fun T t σ s H Q h0 q => by
    refine h.go T t σ s H _ h0 (wp_mono (wp_bnd q) (fun k s1 q1 H1 at1 => ?_) fun _ _ z => z)
    cases k with
    | true => exact h2.go T t σ s1 H1 Q at1 q1
    | false => exact q1 H1 at1⟩
theorem ew_or {rest : List Expr} {mc md : SM S Bool} {tc td : TT} (h : ET X F a tc G G1 mc) (h2 : EW X F (.BoolOp .Or (b :: rest) pos) td G1 G1 md) : EW X F (.BoolOp .Or (a :: b :: rest) pos) (tOr tc td) G G1 (bnd mc fun k => if k then ret true else md) :=
  ⟨pw_or h.pt h2.pw, fun T t σ s H Q h0 q => by
    refine h.go T t σ s H _ h0 (wp_mono (wp_bnd q) (fun k s1 q1 H1 at1 => ?_) fun _ _ z => z)
    cases k with
    | true => exact q1 H1 at1
    | false => exact h2.go T t σ s1 H1 Q at1 q1⟩
theorem et_w {tc : TT} {mc : SM S Bool} (h : EW X F e tc G G1 mc) : ET X F e tc G G1 mc := ⟨h.pw.pt, h.go⟩
theorem et_not {tc : TT} {mc : SM S Bool} (h : ET X F a tc G G1 mc) : ET X F (.UnaryOp .Not a pos) (tNot tc) G G1 (bnd mc fun k => ret (!k)) :=
  ⟨pt_not h.pt, fun T t σ s H Q h0 q => h.go T t σ s H _ h0 (wp_mono (wp_bnd q) (fun k s1 q1 H1 at1 => q1 H1 at1) fun _ _ z => z)⟩
theorem ex_not {mc : SM S Bool} (h : EX X F a ta G G1 rBool mc) : EX X F (.UnaryOp .Not a pos) (tNotV ta) G G1 rBool (bnd mc fun k => ret (!k)) :=
  ⟨pe_not h.pe, fun T t σ s H Q h0 q => h.go T t σ s H _ h0 (wp_mono (wp_bnd q) (fun k s1 q1 v H1 at1 => by
    obtain ⟨M, B, e, _⟩ := top_rel at1
    exact ⟨k, e, q1 _ H1 (at1.pop.push fun _ => ⟨rfl, rfl⟩)⟩) fun _ _ z => z)⟩
theorem ex_one {op : BoolOp} {mc : SM S Bool} (h : EX X F a ta G G1 rBool mc) : EX X F (.BoolOp op [a] pos) ta G G1 rBool mc := ⟨pe_one h.pe, h.go⟩
theorem ex_and {rest : List Expr} {mc md : SM S Bool} (h : EX X F a ta G G1 rBool mc) (h2 : EX X F (.BoolOp .And (b :: rest) pos) tb G1 G1 rBool md) : EX X F (.BoolOp .And (a :: b :: rest) pos) (tAndV ta tb) G G1 rBool (bnd mc fun k => if k then md else ret false) :=
  ⟨pe_and h.pe h2.pe, fun T t σ s H Q h0 q => h.go T t σ s H _ h0 (wp_mono (wp_bnd q) (fun k s1 q1 v H1 at1 => by
    obtain ⟨M, B, e, _⟩ := top_rel at1
    refine ⟨k, e, ?_⟩
    cases k with
    | true => exact h2.go T t σ s1 H1 Q at1.pop q1
    | false => exact q1 _ H1 (at1.pop.push fun _ => ⟨rfl, rfl⟩)) fun _ _ z => z)⟩
theorem ex_or {rest : List Expr} {mc md : SM S Bool} (h : EX X F a ta G G1 rBool mc) (h2 : EX X F (.BoolOp .Or (b :: rest) pos) tb G1 G1 rBool md) : EX X F (.BoolOp .Or (a :: b :: rest) pos) (tOrV ta tb) G G1 rBool (bnd mc fun k => if k then ret true else md) :=
  ⟨pe_or h.pe h2.pe, fun T t σ s H Q h0 q => h.go T t σ s H _ h0 (wp_mono (wp_bnd q) (fun k s1 q1 v H1 at1 => by
    obtain ⟨M, B, e, _⟩ := top_rel at1
    refine ⟨k, e, ?_⟩
    cases k with
    | true => exact q1 _ H1 (at1.pop.push fun _ => ⟨rfl, rfl⟩)
    | false => exact h2.go T t σ s1 H1 Q at1.pop q1) fun _ _ z => z)⟩
end
end Td

set_option Elab.async false
set_option linter.all false
set_option maxRecDepth 100000
set_option maxHeartbeats 4000000
namespace Td
open PySem PySem.Spec PyProof.Rows L2

section
variable {K : PySem.W.Frag} {S : Type} {F : FC K S} {T : List Slot} {t : List V} {G : List Slot} {σ : L2.St} {H : Hp}
/-- what lies under the top temp goes -/
theorem At.dropU {g : Slot} {v : V} : ∀ {T1 : List Slot} {t1 : List V}, t1.length = T1.length → At F (g :: (T1 ++ T)) (v :: (t1 ++ t)) G σ H → At F (g :: T) (v :: t) G σ H := by
  intro T1 t1 e h
  obtain ⟨A1, A2, h⟩ := h
  have nd := h.good.nd
  obtain ⟨B, A', eA, h1, ht⟩ := AtS.cons_inv h.tmp
  rw [List.map_append] at ht
  obtain ⟨C, D, eC, h2, h3⟩ := AtS.split (by rw [List.length_map, e]) ht
  subst eA eC
  have hM : ∀ x, x ∈ B ++ D ++ A2 ++ F.M0 → x ∈ B ++ (C ++ D) ++ A2 ++ F.M0 ∨ H x = none := fun x hx => .inl (by simp only [List.mem_append] at *; grind)
  exact ⟨B ++ D, A2, .cons (Slot.ok_grow h1 hM) (h3.grow hM), h.loc.grow hM, h.good.sub (by simp only [List.nodup_append, List.mem_append] at *; grind) fun x hx => by simp only [List.mem_append] at *; grind⟩
theorem At.dropM {T0 T1 : List Slot} {t0 t1 : List V} (e0 : t0.length = T0.length) (e : t1.length = T1.length) (h : At F (T0 ++ (T1 ++ T)) (t0 ++ (t1 ++ t)) G σ H) : At F (T0 ++ T) (t0 ++ t) G σ H := by
  obtain ⟨A1, A2, h⟩ := h
  have nd := h.good.nd
  have ht := h.tmp
  rw [List.map_append, List.map_append] at ht
  obtain ⟨B, A', eA, h1, ht⟩ := AtS.split (by rw [List.length_map, e0]) ht
  obtain ⟨C, D, eC, h2, h3⟩ := AtS.split (by rw [List.length_map, e]) ht
  subst eA eC
  have hM : ∀ x, x ∈ B ++ D ++ A2 ++ F.M0 → x ∈ B ++ (C ++ D) ++ A2 ++ F.M0 ∨ H x = none := fun x hx => .inl (by simp only [List.mem_append] at *; grind)
  refine ⟨B ++ D, A2, ?_, h.loc.grow hM, h.good.sub (by simp only [List.nodup_append, List.mem_append] at *; grind) fun x hx => by simp only [List.mem_append] at *; grind⟩
  rw [List.map_append]
  exact (h1.grow hM).append (h3.grow hM)
/-- the arguments used up, a thing that owns nothing comes -/
theorem AtP.fin {L : List Arg} {ts vs : List V} {A1 A2 : List Addr} (h : AtP F ((tmps L).reverse ++ T) (ts.reverse ++ t) G σ H A1 A2) (av : ArgV σ L ts vs) {U : Type} {r : Rp U} {u : V} {a : U} (hr : r.rel K (A1 ++ A2 ++ F.M0) H u a []) : At F (.is r a :: T) (u :: t) G σ H :=
  At.dropU (by simp [(argV_len av).2]) (⟨A1, A2, .cons (B := []) ⟨u, rfl, hr⟩ h.tmp, h.loc, h.good⟩ : At F (.is r a :: ((tmps L).reverse ++ T)) (u :: (ts.reverse ++ t)) G σ H)
/-- .. and stay -/
theorem AtP.pushM {A1 A2 : List Addr} (h : AtP F T t G σ H A1 A2) {U : Type} {r : Rp U} {u : V} {a : U} (hr : r.rel K (A1 ++ A2 ++ F.M0) H u a []) : AtP F (.is r a :: T) (u :: t) G σ H A1 A2 :=
  ⟨.cons (B := []) ⟨u, rfl, hr⟩ h.tmp, h.loc, h.good⟩
theorem rddM {ts vs : List V} {L : List Arg} {j : Nat} {arg : Arg} {U : Type} {r : Rp U} {a : U} {A1 A2 : List Addr} (h : AtP F ((tmps L).reverse ++ T) (ts.reverse ++ t) G σ H A1 A2) (av : ArgV σ L ts vs) (e : L[j]? = some arg) (rd : Rdd G arg r a) :
    ∃ v B, vs[j]? = some v ∧ r.rel K (A1 ++ A2 ++ F.M0) H v a B := by
  have tmp : ∀ {g : Slot}, L[j]? = some (.t g) → ∃ v B, vs[j]? = some v ∧ g.ok K (A1 ++ A2 ++ F.M0) H (some v) B := by
    intro g e
    obtain ⟨k, v, h1, h2, h3⟩ := argV_tmp av e
    obtain ⟨x, B, e1, h4, _⟩ := h.tmp.mem (rev_get h1 T)
    rw [← (argV_len av).2, List.map_append, List.map_reverse] at e1
    have h2' : (ts.map some)[k]? = some (some v) := by rw [List.getElem?_map, h2]; rfl
    have z := rev_get h2' (t.map some)
    rw [List.length_map, e1] at z
    cases z
    exact ⟨v, B, h3, h4⟩
  have loc : ∀ {i : Nat} {g : Slot}, L[j]? = some (.v i) → G[i]? = some g → ∃ v B, vs[j]? = some v ∧ g.ok K (A1 ++ A2 ++ F.M0) H (some v) B := by
    intro i g e eg
    obtain ⟨v, h1, h2⟩ := argV_var av e
    obtain ⟨x, B, e1, h4, _⟩ := h.loc.mem eg
    rw [h2] at e1
    cases e1
    exact ⟨v, B, h1, h4⟩
  cases rd with
  | t =>
    obtain ⟨v, B, h1, v', e', h2⟩ := tmp e
    cases e'
    exact ⟨v, B, h1, h2⟩
  | ts =>
    obtain ⟨v, B, h1, v', e', h2⟩ := tmp e
    cases e'
    obtain ⟨_, A, h3, _⟩ := h2
    exact ⟨v, A, h1, h3⟩
  | v eg =>
    obtain ⟨v, B, h1, v', e', h2⟩ := loc e eg
    cases e'
    exact ⟨v, B, h1, h2⟩
  | vs eg =>
    obtain ⟨v, B, h1, v', e', h2⟩ := loc e eg
    cases e'
    obtain ⟨_, A, h3, _⟩ := h2
    exact ⟨v, A, h1, h3⟩
  | pn eg =>
    obtain ⟨v, B, h1, e', h2⟩ := loc e eg
    cases e'
    exact ⟨_, B, h1, h2⟩
  | b1 eg =>
    obtain ⟨x, B, e1, h4, _⟩ := h.loc.mem eg
    obtain ⟨v, _, p, B1, B2, _, _, h5, _⟩ := h4
    exact ⟨_, B1, argV_u av e, h5⟩
  | b2 eg =>
    obtain ⟨x, B, e1, h4, _⟩ := h.loc.mem eg
    obtain ⟨v, _, p, B1, B2, _, _, _, h5, _⟩ := h4
    exact ⟨_, B2, argV_u av e, h5⟩
/-- shared arguments -/
inductive RdS {U : Type} (G : List Slot) : Arg → Rp U → U → Prop
  | t {r a} : RdS G (.t (.is (sh r) a)) r a
  | v {i r a} (e : G[i]? = some (.is (sh r) a)) : RdS G (.v i) r a
  | tc {r a} (c : r.Cp) : RdS G (.t (.is r a)) r a
  | vc {i r a} (c : r.Cp) (e : G[i]? = some (.is r a)) : RdS G (.v i) r a
theorem rdS {ts vs : List V} {L : List Arg} {j : Nat} {arg : Arg} {U : Type} {r : Rp U} {a : U} {A1 A2 : List Addr} (h : AtP F ((tmps L).reverse ++ T) (ts.reverse ++ t) G σ H A1 A2) (av : ArgV σ L ts vs) (e : L[j]? = some arg) (rd : RdS G arg r a) :
    ∃ v, vs[j]? = some v ∧ (sh r).rel K (A1 ++ A2 ++ F.M0) H v a [] := by
  cases rd with
  | t =>
    obtain ⟨v, B, h1, eB, A, h3⟩ := rddM (r := sh r) h av e .t
    exact ⟨v, h1, rfl, A, h3⟩
  | v eg =>
    obtain ⟨v, B, h1, eB, A, h3⟩ := rddM (r := sh r) h av e (.v eg)
    exact ⟨v, h1, rfl, A, h3⟩
  | tc c =>
    obtain ⟨v, B, h1, h3⟩ := rddM h av e .t
    have eB := c h3
    subst eB
    exact ⟨v, h1, rfl, [], h3, fun _ z => by cases z⟩
  | vc c eg =>
    obtain ⟨v, B, h1, h3⟩ := rddM h av e (.v eg)
    have eB := c h3
    subst eB
    exact ⟨v, h1, rfl, [], h3, fun _ z => by cases z⟩
/-- an operand -/
def GO (F : FC K S) {U : Type} (te : TE) (G G' : S → List Slot) (arg : U → Arg) (m : SM S U) : Prop :=
  ∀ (T : List Slot) (t : List V) (σ : L2.St) (s : S) (H : Hp) (Q : VK), At F T t (G s) σ H →
    (m s).wp (fun a s' => ∀ ts v H', At F ((tmps [arg a]).reverse ++ T) (ts.reverse ++ t) (G' s') σ H' → ArgV σ [arg a] ts [v] → Q v H') (XP F σ) → te σ H Q
end

structure EO (X : Cx) {S : Type} (F : FC X.K S) {U : Type} (e : Expr) (te : TE) (G G' : S → List Slot) (arg : U → Arg) (m : SM S U) : Prop where
  pe : PE X e te
  go : GO F te G G' arg m
section
variable {X : Cx} {S : Type} {F : FC X.K S} {U W Z : Type} {r r1 : Rp U} {r2 : Rp W} {r3 : Rp Z} {e a b : Expr} {es : List Expr} {te ta tb : TE} {tr : TA} {G G1 G2 G' : S → List Slot} {m m1 : SM S U} {m2 : SM S W} {pos : Pos} {arg : U → Arg} {L : W → List Arg}
theorem eo_t (h : EX X F e te G G' r m) : EO X F e te G G' (fun a => .t (.is r a)) m :=
  ⟨h.pe, fun T t σ s H Q h0 q => h.go T t σ s H Q h0 (wp_mono q (fun a s1 q1 v H1 at1 => q1 [v] v H1 (by simpa [tmps] using at1) (.t .nil)) fun _ _ z => z)⟩
theorem eo_v (i : Nat) {g : S → Slot} {x : Str} {a : U} (hG : ∀ s, (G s)[i]? = some (g s)) (hs : ∀ s v, v = none → ∀ M H B, ¬ (g s).ok X.K M H v B) (hN : X.N[i]? = some x := by rfl) (hv : Vis X.env.scope x := by first | exact Or.inl rfl | exact Or.inr (Or.inl rfl) | exact Or.inr (Or.inr rfl))
    (hd : (x == ("__debug__" : Str)) = false := by decide) (hcd : (x == ("__classdict__" : Str)) = false := by decide) : EO X F (.Name x pos) (tVar i) G G (fun _ : U => .v i) (ret a) :=
  ⟨pe_var hN hv hd hcd, fun T t σ s H Q h q => by
    obtain ⟨A1, A2, h0⟩ := id h
    obtain ⟨x, B, e1, h1, _⟩ := h0.loc.mem (hG s)
    cases x with
    | none => exact (hs s none rfl _ _ _ h1).elim
    | some v => exact ⟨v, e1, q [] v H (by simpa [tmps] using h) (.v e1 .nil)⟩⟩
theorem is_some {r : Rp U} {a : U} {K : PySem.W.Frag} : ∀ v, v = none → ∀ M H B, ¬ (Slot.is r a).ok K M H v B := fun v e M H B z => by
  obtain ⟨u, z, _⟩ := z
  rw [e] at z; cases z
theorem pn_some {r : Rp U} {a : U} {w : V} {K : PySem.W.Frag} : ∀ v, v = none → ∀ M H B, ¬ (Slot.pn w r a).ok K M H v B := fun v e M H B z => by
  obtain ⟨z, _⟩ := z
  rw [e] at z; cases z
/-- a name read where it stands -/
theorem eo_is (i : Nat) {a : U} {x : Str} (hG : ∀ s, (G s)[i]? = some (.is r a)) (hN : X.N[i]? = some x := by rfl) (hv : Vis X.env.scope x := by first | exact Or.inl rfl | exact Or.inr (Or.inl rfl) | exact Or.inr (Or.inr rfl))
    (hd : (x == ("__debug__" : Str)) = false := by decide) (hcd : (x == ("__classdict__" : Str)) = false := by decide) : EO X F (.Name x pos) (tVar i) G G (fun _ : U => .v i) (ret a) := eo_v i hG (fun _ => is_some) hN hv hd hcd
theorem eo_own (i : Nat) {b : Z} {a : U} {x : Str} (hG : ∀ s, (G s)[i]? = some (.is r3 b)) (hN : X.N[i]? = some x := by rfl) (hv : Vis X.env.scope x := by first | exact Or.inl rfl | exact Or.inr (Or.inl rfl) | exact Or.inr (Or.inr rfl))
    (hd : (x == ("__debug__" : Str)) = false := by decide) (hcd : (x == ("__classdict__" : Str)) = false := by decide) : EO X F (.Name x pos) (tVar i) G G (fun _ : U => .v i) (ret a) := eo_v i hG (fun _ => is_some) hN hv hd hcd
theorem eo_pn (i : Nat) {w : S → V} {f : S → Z} {a : U} {x : Str} (hG : ∀ s, (G s)[i]? = some (.pn (w s) r3 (f s))) (hN : X.N[i]? = some x := by rfl) (hv : Vis X.env.scope x := by first | exact Or.inl rfl | exact Or.inr (Or.inl rfl) | exact Or.inr (Or.inr rfl))
    (hd : (x == ("__debug__" : Str)) = false := by decide) (hcd : (x == ("__classdict__" : Str)) = false := by decide) : EO X F (.Name x pos) (tVar i) G G (fun _ : U => .v i) (ret a) := eo_v i hG (fun _ => pn_some) hN hv hd hcd
theorem ea_nil : EA X F [] tNil G G (fun _ : Unit => []) (ret ()) := ⟨pa_nil, ga_nil⟩
theorem tmps_cons (g : Arg) (L : List Arg) : tmps (g :: L) = tmps [g] ++ tmps L := by cases g <;> rfl
theorem argV_cons {σ : L2.St} {g : Arg} {L : List Arg} {ts us ws : List V} {v : V} (h : ArgV σ [g] ts [v]) (h2 : ArgV σ L us ws) : ArgV σ (g :: L) (ts ++ us) (v :: ws) := by
  cases h with
  | t h => cases h; exact .t h2
  | v e h => cases h; exact .v e h2
  | u h => cases h; exact .u h2
theorem ea_cons (h1 : EO X F e te G G1 arg m1) (h2 : EA X F es tr G1 G2 L m2) (hs : PySem.W.isStarred e = false := by rfl) :
    EA X F (e :: es) (tCons te tr) G G2 (fun p : U × W => arg p.1 :: L p.2) (bnd m1 fun a => bnd m2 fun b => ret (a, b)) :=
  ⟨pa_cons h1.pe h2.pa (star1 hs), fun T t σ s H Q h q => by
    refine h1.go T t σ s H _ h (wp_mono (wp_bnd q) (fun a s1 q1 ts v H1 at1 av1 => ?_) fun _ _ z => z)
    refine h2.go _ _ σ s1 H1 _ at1 (wp_mono (wp_bnd q1) (fun b s2 q2 us ws H2 at2 av2 => ?_) fun _ _ z => z)
    refine q2 (ts ++ us) (v :: ws) H2 ?_ (argV_cons av1 av2)
    rw [tmps_cons]
    simpa using at2⟩
/-- a two-place operation over arguments -/
theorem go_argop {A : Type} {LA : A → List Arg} {mA : SM S A} {rr : R2} {f : A → SM S Z} (h : GA F (tCons ta (tCons tb tNil)) G G' LA mA) (hl : ∀ a, (LA a).length = 2) (hf : ∀ a, Stl (f a))
    (hv : ∀ (a : A) (s : S) (T : List Slot) (t ts : List V) (x y : V) (σ : L2.St) (H : Hp) (Q : VK) (A1 A2 : List Addr), AtP F ((tmps (LA a)).reverse ++ T) (ts.reverse ++ t) (G' s) σ H A1 A2 → ArgV σ (LA a) ts [x, y] →
      (f a s).wp (fun c s' => s' = s ∧ ∀ u, At F (.is r3 c :: T) (u :: t) (G' s) σ H → Q u H) (fun _ _ => True) → rr x y H Q) : GE F (tOp rr ta tb) G G' r3 (bnd mA f) := by
  intro T t σ s H Q h0 q
  refine h T t σ s H (fun vs H => match vs with | [x, y] => rr x y H Q | _ => False) h0 (wp_mono (wp_bnd q) (fun a s1 q1 ts vs H1 at1 av => ?_) fun _ _ z => z)
  obtain ⟨A1, A2, at1⟩ := at1
  have key : ∀ x y, ArgV σ (LA a) ts [x, y] → rr x y H1 Q := fun x y av => by
    refine hv a s1 T t ts x y σ H1 Q A1 A2 at1 av (wp_mono ((hf a).wp (E' := fun _ _ => True) q1) (fun c s2 q2 => ?_) fun _ _ _ => trivial)
    obtain ⟨e, q2⟩ := q2
    subst e
    exact ⟨rfl, fun u hu => q2 u H1 hu⟩
  have len := (argV_len av).1
  rw [hl a] at len
  match vs, av, len with
  | [x, y], av, _ => exact key x y av
/-- .. a call's -/
theorem go_argcall {A : Type} {LA : A → List Arg} {mA : SM S A} {rr : List V → Hp → VK → Prop} {ta : TA} {f : A → SM S Z} (h : GA F ta G G' LA mA) (hf : ∀ a, Stl (f a))
    (hv : ∀ (a : A) (s : S) (T : List Slot) (t ts vs : List V) (σ : L2.St) (H : Hp) (Q : VK) (A1 A2 : List Addr), AtP F ((tmps (LA a)).reverse ++ T) (ts.reverse ++ t) (G' s) σ H A1 A2 → ArgV σ (LA a) ts vs →
      (f a s).wp (fun c s' => s' = s ∧ ∀ u H', At F (.is r3 c :: T) (u :: t) (G' s) σ H' → Q u H') (fun _ _ => True) → rr vs H Q) : GE F (tCB rr ta) G G' r3 (bnd mA f) := by
  intro T t σ s H Q h0 q
  refine h T t σ s H _ h0 (wp_mono (wp_bnd q) (fun a s1 q1 ts vs H1 at1 av => ?_) fun _ _ z => z)
  obtain ⟨A1, A2, at1⟩ := at1
  refine hv a s1 T t ts vs σ H1 Q A1 A2 at1 av (wp_mono ((hf a).wp (E' := fun _ _ => True) q1) (fun c s2 q2 => ?_) fun _ _ _ => trivial)
  obtain ⟨e, q2⟩ := q2
  subst e
  exact ⟨rfl, q2⟩

/-! ### items -/
def ixM {S T : Type} (xs : List T) (i : Int) : SM S T := match atI xs i with
  | some a => ret a
  | none => stk
theorem stl_ixM {T : Type} (xs : List T) (i : Int) : Stl (ixM xs i : SM S T) := by
  unfold ixM
  cases atI xs i with
  | none => exact stl_stk
  | some a => exact stl_ret a
theorem wp_ixM {T : Type} {xs : List T} {i : Int} {s : S} {P : T → S → Prop} {E : Exn → S → Prop} (h : (ixM xs i s).wp P E) : ∃ a, atI xs i = some a ∧ P a s := by
  unfold ixM at h
  cases e : atI xs i with
  | none => rw [e] at h; exact h.elim
  | some a => rw [e] at h; exact ⟨a, rfl, h⟩
theorem atI_all {K : PySem.W.Frag} {T : Type} {R : V → T → List Addr → Prop} {vs : List V} {as : List T} {A : List Addr} (h : All3 R vs as A) {i : Int} {a : T} (e : atI as i = some a) : ∃ v B, atI vs i = some v ∧ R v a B ∧ ∀ p, p ∈ B → p ∈ A := by
  unfold atI at e ⊢
  rw [h.length]
  cases q : ixN as.length i with
  | none => rw [q] at e; cases e
  | some j =>
    rw [q] at e
    exact h.get' (i := j) e
section
variable {A : Type} {LA : A → List Arg} {mA : SM S A} {xs : A → List Z} {ix : A → Int} {argX argI : A → Arg}
/-- xs[i], the item owning nothing -/
theorem ex_ixL (h : EA X F [a, b] (tCons ta (tCons tb tNil)) G G' LA mA) (hL : ∀ a, LA a = [argX a, argI a]) (c : r3.Cp) (hx : ∀ a s, Rdd (G' s) (argX a) (rList r3) (xs a)) (hi : ∀ a s, Rdd (G' s) (argI a) rInt (ix a)) (hs : PlainIx b := by exact fun _ _ => rfl) (p1 : PE X a ta) (p2 : PE X b tb) :
    EX X F (.Subscript a b pos) (tOp (rIxL X.K) ta tb) G G' r3 (bnd mA fun a => ixM (xs a) (ix a)) :=
  ⟨pe_ix ix_list p1 p2 hs, go_argop h.go (fun a => by rw [hL]; rfl) (fun a => stl_ixM _ _) fun a s T t ts x y σ H Q A1 A2 at1 av q => by
    obtain ⟨v, B, e1, p, vs, A, ev, hp, hA, eB⟩ := rddM (j := 0) at1 av (by rw [hL]; rfl) (hx a s)
    obtain ⟨w, B', e2, ew, _⟩ := rddM (j := 1) at1 av (by rw [hL]; rfl) (hi a s)
    cases e1; cases e2
    obtain ⟨z, ez, _, q⟩ := wp_ixM q
    obtain ⟨u, Bu, e3, hr, _⟩ := atI_all (K := X.K) hA ez
    have eBu := c hr
    subst eBu
    exact ⟨p, vs, ix a, u, ev, ew, SqL.of hp, e3, q u (at1.fin av hr)⟩⟩
/-- .. the item shared -/
theorem ex_ixLs (h : EA X F [a, b] (tCons ta (tCons tb tNil)) G G' LA mA) (hL : ∀ a, LA a = [argX a, argI a]) (hx : ∀ a s, RdS (G' s) (argX a) (rList r3) (xs a)) (hi : ∀ a s, Rdd (G' s) (argI a) rInt (ix a)) (hs : PlainIx b := by exact fun _ _ => rfl) (p1 : PE X a ta) (p2 : PE X b tb) :
    EX X F (.Subscript a b pos) (tOp (rIxL X.K) ta tb) G G' (sh r3) (bnd mA fun a => ixM (xs a) (ix a)) :=
  ⟨pe_ix ix_list p1 p2 hs, go_argop h.go (fun a => by rw [hL]; rfl) (fun a => stl_ixM _ _) fun a s T t ts x y σ H Q A1 A2 at1 av q => by
    obtain ⟨v, e1, _, C, ⟨p, vs, A, ev, hp, hA, eC⟩, hC⟩ := rdS (j := 0) at1 av (by rw [hL]; rfl) (hx a s)
    obtain ⟨w, B', e2, ew, _⟩ := rddM (j := 1) at1 av (by rw [hL]; rfl) (hi a s)
    cases e1; cases e2
    obtain ⟨z, ez, _, q⟩ := wp_ixM q
    obtain ⟨u, Bu, e3, hr, sub⟩ := atI_all (K := X.K) hA ez
    exact ⟨p, vs, ix a, u, ev, ew, SqL.of hp, e3, q u (at1.fin (r := sh r3) av ⟨rfl, Bu, hr, fun x hx => hC x (by rw [eC]; exact List.mem_cons_of_mem _ (sub x hx))⟩)⟩⟩
end
/-- a place of a tuple: R says at which place stands what -/
def Plc (K : PySem.W.Frag) {U W : Type} (R : Rp U) (i : Int) (r : Rp W) (f : U → W) : Prop :=
  ∀ {M H v a B}, R.rel K M H v a B → ∃ p vs u B', v = .ref p ∧ SqT K H p vs ∧ atI vs i = some u ∧ r.rel K M H u (f a) B' ∧ ∀ x, x ∈ B' → x ∈ B
theorem plc2_0 {K : PySem.W.Frag} : Plc K (rPair r1 r2) 0 r1 (fun p => p.1) := by
  rintro M H v a B ⟨p, v1, v2, B1, B2, e, hT, h1, h2, eB⟩
  exact ⟨p, _, v1, B1, e, hT, rfl, h1, fun x hx => by rw [eB]; exact List.mem_append_left _ hx⟩
theorem plc2_1 {K : PySem.W.Frag} : Plc K (rPair r1 r2) 1 r2 (fun p => p.2) := by
  rintro M H v a B ⟨p, v1, v2, B1, B2, e, hT, h1, h2, eB⟩
  exact ⟨p, _, v2, B2, e, hT, rfl, h2, fun x hx => by rw [eB]; exact List.mem_append_right _ hx⟩
theorem plc3_0 {K : PySem.W.Frag} : Plc K (rTup3 r1 r2 r3) 0 r1 (fun p => p.1) := by
  rintro M H v a B ⟨p, v1, v2, v3, B1, B2, B3, e, hT, h1, h2, h3, eB⟩
  exact ⟨p, _, v1, B1, e, hT, rfl, h1, fun x hx => by rw [eB]; exact List.mem_append_left _ hx⟩
theorem plc3_1 {K : PySem.W.Frag} : Plc K (rTup3 r1 r2 r3) 1 r2 (fun p => p.2.1) := by
  rintro M H v a B ⟨p, v1, v2, v3, B1, B2, B3, e, hT, h1, h2, h3, eB⟩
  exact ⟨p, _, v2, B2, e, hT, rfl, h2, fun x hx => by rw [eB]; exact List.mem_append_right _ (List.mem_append_left _ hx)⟩
theorem plc3_2 {K : PySem.W.Frag} : Plc K (rTup3 r1 r2 r3) 2 r3 (fun p => p.2.2) := by
  rintro M H v a B ⟨p, v1, v2, v3, B1, B2, B3, e, hT, h1, h2, h3, eB⟩
  exact ⟨p, _, v3, B3, e, hT, rfl, h3, fun x hx => by rw [eB]; exact List.mem_append_right _ (List.mem_append_right _ hx)⟩
section
variable {R : Rp W} {f : W → Z} {xs : U → W} {i : Int} {j : Nat} {p1 : Pos}
/-- t[0], t[1], .. of a tuple -/
theorem ex_plc (h : EO X F a ta G G' arg m) (hp : Plc X.K R i r3 f) (c : r3.Cp) (hx : ∀ a s, Rdd (G' s) (arg a) R (xs a)) :
    EX X F (.Subscript a (.Constant (.int i) j p1) pos) (tOp (rIxT X.K) ta (tC (.int i))) G G' r3 (bnd m fun a => ret (f (xs a))) :=
  ⟨pe_ix ix_tup h.pe pe_int fun _ _ => rfl, fun T t σ s H Q h0 q => h.go T t σ s H _ h0 (wp_mono (wp_bnd q) (fun a s1 q1 ts v H1 at1 av => by
    obtain ⟨A1, A2, at1⟩ := at1
    obtain ⟨v', B, e1, hr⟩ := rddM (j := 0) at1 av rfl (hx a s1)
    cases e1
    obtain ⟨p, vs, u, B', ev, hT, ei, hu, sub⟩ := hp hr
    have eB := c hu
    subst eB
    exact ⟨p, vs, i, u, ev, rfl, hT, ei, q1 u H1 (at1.fin av hu)⟩) fun _ _ z => z)⟩
theorem ex_plcS (h : EO X F a ta G G' arg m) (hp : Plc X.K R i r3 f) (hx : ∀ a s, RdS (G' s) (arg a) R (xs a)) :
    EX X F (.Subscript a (.Constant (.int i) j p1) pos) (tOp (rIxT X.K) ta (tC (.int i))) G G' (sh r3) (bnd m fun a => ret (f (xs a))) :=
  ⟨pe_ix ix_tup h.pe pe_int fun _ _ => rfl, fun T t σ s H Q h0 q => h.go T t σ s H _ h0 (wp_mono (wp_bnd q) (fun a s1 q1 ts v H1 at1 av => by
    obtain ⟨A1, A2, at1⟩ := at1
    obtain ⟨v', e1, _, C, hr, hC⟩ := rdS (j := 0) at1 av rfl (hx a s1)
    cases e1
    obtain ⟨p, vs, u, B', ev, hT, ei, hu, sub⟩ := hp hr
    exact ⟨p, vs, i, u, ev, rfl, hT, ei, q1 u H1 (at1.fin (r := sh r3) av ⟨rfl, B', hu, fun x hx => hC x (sub x hx)⟩)⟩) fun _ _ z => z)⟩
end
end
end Td

set_option Elab.async false
set_option linter.all false
set_option maxRecDepth 100000
set_option maxHeartbeats 4000000
namespace Td
open PySem PySem.Spec PyProof.Rows L2

section
variable {K : PySem.W.Frag} {S : Type} {F : FC K S} {T : List Slot} {t : List V} {G : List Slot} {σ : L2.St} {H : Hp}
/-- the heap with one owned list changed: what does not own it stays -/
theorem keep_upd {M B : List Addr} {D : Addr} {vs : List V} {o' : HO} (hD : H D = some (.lst vs)) (hM : D ∈ M) (hB : D ∉ B) : ∀ p o, H p = some o → (p ∉ M ∨ p ∈ B ∨ isTup o = true) → upd H D o' p = some o := by
  intro p o e hp
  have ne : p ≠ D := by
    rintro rfl
    rcases hp with z | z | z
    · exact z hM
    · exact hB z
    · rw [hD] at e; cases e; cases z
  rw [upd_ne ne]; exact e
theorem good_upd {D : Addr} {vs ws : List V} {A A' : List Addr} (g : Good F H A) (hD : H D = some (.lst vs)) (hA : D ∈ A) (nd : A'.Nodup) (sub : ∀ p, p ∈ A' → p ∈ A) : Good F (upd H D (.lst ws)) A' := by
  have g' := g.sub nd sub
  refine ⟨g'.nd, g'.out, g'.new, fun p hp => ?_, fun p o e hI => ?_, g'.m0⟩
  · obtain ⟨o, ho, z⟩ := g.has p hp
    by_cases h : p = D
    · subst h; exact ⟨_, upd_same, rfl⟩
    · exact ⟨o, by rw [upd_ne h]; exact ho, z⟩
  · have ne : p ≠ D := by
      rintro rfl
      rcases g.new p hA with z | z
      · rw [z] at e; cases e
      · exact hI z
    rw [upd_ne ne]
    exact g.stay p o e hI
/-- a list in slot i is changed: what its items and the temps own is given anew -/
theorem AtP.mutS {i : Nat} {U : Type} {r : Rp U} {xs : List U} {A1 A2 : List Addr} (h : AtP F T t G σ H A1 A2) (e : G[i]? = some (.is (rList r) xs)) :
    ∃ D vs B, σ[i]? = some (some (.ref D)) ∧ H D = some (.lst vs) ∧ All3 (r.rel K (A1 ++ A2 ++ F.M0) H) vs xs B ∧ vs.length = xs.length ∧ (B ++ A1).Nodup ∧
      ∀ (ws : List V) (ys : List U) (B' : List Addr) (T' : List Slot) (t' : List V) (A1' : List Addr), All3 (r.rel K (A1 ++ A2 ++ F.M0) H) ws ys B' → AtS K (A1 ++ A2 ++ F.M0) H T' (t'.map some) A1' →
        (B' ++ A1').Nodup → (∀ p, p ∈ B' ++ A1' → p ∈ B ++ A1) → At F T' t' (G.set i (.is (rList r) ys)) σ (upd H D (.lst ws)) := by
  obtain ⟨x, C, P1, P2, e1, ⟨v, ev, D, vs, B, ed, hD, hA, eC⟩, eA, back⟩ := h.loc.at_ e
  subst ev ed eC eA
  have nd := h.good.nd
  refine ⟨D, vs, B, e1, hD, hA, hA.length, by simp only [List.cons_append, List.nodup_append, List.nodup_cons, List.mem_cons, List.mem_append] at *; grind, fun ws ys B' T' t' A1' h1 h2 nd' sub => ?_⟩
  have hM : ∀ x, x ∈ A1' ++ (P1 ++ ((D :: B') ++ P2)) ++ F.M0 → x ∈ A1 ++ (P1 ++ ((D :: B) ++ P2)) ++ F.M0 ∨ H x = none := fun x hx => .inl (by
    have := sub x
    simp only [List.cons_append, List.mem_cons, List.mem_append] at *
    grind)
  have hMD : D ∈ A1' ++ (P1 ++ ((D :: B') ++ P2)) ++ F.M0 := by simp
  have hDB : D ∉ B' ++ A1' := fun z => by
    have := sub D z
    simp only [List.cons_append, List.nodup_append, List.nodup_cons, List.mem_cons, List.mem_append] at *
    grind
  have hDP : D ∉ P1 ++ P2 := fun z => by
    simp only [List.cons_append, List.nodup_append, List.nodup_cons, List.mem_cons, List.mem_append] at *
    grind
  refine ⟨A1', P1 ++ ((D :: B') ++ P2), (h2.grow hM).keep (keep_upd hD hMD fun z => hDB (List.mem_append_right _ z)), ?_, good_upd h.good hD (by simp) ?_ fun p hp => ?_⟩
  · have z := back (A1' ++ (P1 ++ ((D :: B') ++ P2)) ++ F.M0) (upd H D (.lst ws)) (.is (rList r) ys) (some (.ref D)) (D :: B')
      (fun h sub => Slot.ok_keep (Slot.ok_grow h hM) (keep_upd hD hMD fun z => hDP (by
        rcases sub D z with q | q
        · exact List.mem_append_left _ q
        · exact List.mem_append_right _ q)))
      ⟨_, rfl, D, ws, B', rfl, upd_same, h1.imp fun v a C hC hr => r.keep (r.grow hr hM) (keep_upd hD hMD fun z => hDB (List.mem_append_left _ (hC D z))), rfl⟩
    rwa [set_self e1] at z
  · have hsub := sub
    simp only [List.cons_append, List.nodup_append, List.nodup_cons, List.mem_cons, List.mem_append] at *
    grind
  · have := sub p
    simp only [List.cons_append, List.mem_cons, List.mem_append] at *
    grind
/-- a thing at the end of a list in a slot -/
theorem At.appendS {i : Nat} {U : Type} {r : Rp U} {xs : List U} {y : U} {v : V} (h : At F (.is r y :: T) (v :: t) G σ H) (e : G[i]? = some (.is (rList r) xs)) :
    ∃ D vs, σ[i]? = some (some (.ref D)) ∧ H D = some (.lst vs) ∧ vs.length = xs.length ∧ At F T t (G.set i (.is (rList r) (xs ++ [y]))) σ (upd H D (.lst (vs ++ [v]))) := by
  obtain ⟨A1, A2, h⟩ := h
  obtain ⟨D, vs, B, e1, hD, hA, hl, nd0, k⟩ := h.mutS e
  obtain ⟨C, A', eA, ⟨v', ev, hr⟩, ht⟩ := AtS.cons_inv h.tmp
  cases ev
  refine ⟨D, vs, e1, hD, hl, k (vs ++ [v]) (xs ++ [y]) (B ++ (C ++ [])) T t A' (hA.append (.cons hr .nil)) ht ?_ fun p hp => ?_⟩
  · rw [eA] at nd0
    simpa using nd0
  · rw [eA]
    simpa using hp
/-- the same where the list is a temp -/
theorem AtP.mutT {U : Type} {r : Rp U} {xs : List U} {D : Addr} {A1 A2 : List Addr} (h : AtP F (.is (rList r) xs :: T) (.ref D :: t) G σ H A1 A2) :
    ∃ vs B A', A1 = (D :: B) ++ A' ∧ H D = some (.lst vs) ∧ All3 (r.rel K (A1 ++ A2 ++ F.M0) H) vs xs B ∧ vs.length = xs.length ∧ AtS K (A1 ++ A2 ++ F.M0) H T (t.map some) A' := by
  obtain ⟨C, A', eA, ⟨v', ev, p, vs, B, ed, hD, hA, eC⟩, ht⟩ := AtS.cons_inv h.tmp
  cases ev
  cases ed
  subst eC
  exact ⟨vs, B, A', eA, hD, hA, hA.length, ht⟩
theorem At.appendT {U : Type} {r : Rp U} {xs : List U} {y : U} {v : V} {D : Addr} (h : At F (.is r y :: .is (rList r) xs :: T) (v :: .ref D :: t) G σ H) :
    ∃ vs, H D = some (.lst vs) ∧ vs.length = xs.length ∧ At F (.is (rList r) (xs ++ [y]) :: T) (.ref D :: t) G σ (upd H D (.lst (vs ++ [v]))) := by
  obtain ⟨A1, A2, h⟩ := h
  obtain ⟨C, A', eA, ⟨v', ev, hr⟩, ht⟩ := AtS.cons_inv h.tmp
  obtain ⟨C', A'', eA', ⟨v2, ev2, p, vs, B, ed, hD, hA, eC⟩, ht'⟩ := AtS.cons_inv ht
  cases ev
  cases ev2
  cases ed
  subst eA eA' eC
  have nd := h.good.nd
  have hM : ∀ x, x ∈ (D :: (B ++ (C ++ []))) ++ A'' ++ A2 ++ F.M0 → x ∈ C ++ ((D :: B) ++ A'') ++ A2 ++ F.M0 ∨ H x = none := fun x hx => .inl (by
    simp only [List.cons_append, List.mem_cons, List.mem_append, List.append_nil] at *
    grind)
  have hMD : D ∈ (D :: (B ++ (C ++ []))) ++ A'' ++ A2 ++ F.M0 := by simp
  have ndx : D ∉ B ∧ D ∉ C ∧ D ∉ A'' ∧ D ∉ A2 := by
    simp only [List.cons_append, List.nodup_append, List.nodup_cons, List.mem_cons, List.mem_append] at nd
    grind
  refine ⟨vs, hD, hA.length, (D :: (B ++ (C ++ []))) ++ A'', A2, .cons ⟨_, rfl, D, vs ++ [v], B ++ (C ++ []), rfl, upd_same, ?_, rfl⟩ ?_, ?_, good_upd h.good hD (by simp) ?_ fun p hp => ?_⟩
  · refine All3.imp (hA.append (.cons hr .nil)) fun w a E hE hw => r.keep (r.grow hw hM) (keep_upd hD hMD fun z => ?_)
    have := hE D z
    simp only [List.append_nil, List.mem_append] at this
    grind
  · exact (ht'.grow hM).keep (keep_upd hD hMD ndx.2.2.1)
  · exact (h.loc.grow hM).keep (keep_upd hD hMD ndx.2.2.2)
  · simp only [List.cons_append, List.nodup_append, List.nodup_cons, List.mem_cons, List.mem_append, List.append_nil] at *
    grind
  · simp only [List.cons_append, List.mem_cons, List.mem_append, List.append_nil] at *
    grind
/-- all pushed -/
theorem AtP.pushAll {U : Type} {r : Rp U} {A1 A2 : List Addr} : ∀ {vs : List V} {as : List U} {A : List Addr}, All3 (r.rel K (A1 ++ A2 ++ F.M0) H) vs as A → A = [] → ∀ {T : List Slot} {t : List V}, AtP F T t G σ H A1 A2 → AtP F (pend r as ++ T) (vs.reverse ++ t) G σ H A1 A2 := by
  intro vs as A h
  induction h with
  | nil => intro _ T t h0; exact h0
  | @cons v a B vs as A h ht ih =>
    intro e T t h0
    have e1 : B = [] := (List.append_eq_nil_iff.mp e).1
    have e2 : A = [] := (List.append_eq_nil_iff.mp e).2
    subst e1
    have z := ih e2 (h0.pushM h)
    simpa [pend] using z
theorem cp_all {U : Type} {r : Rp U} (c : r.Cp) {M : List Addr} {vs : List V} {as : List U} {A : List Addr} (h : All3 (r.rel K M H) vs as A) : A = [] := by
  induction h with
  | nil => rfl
  | cons h t ih => rw [c h, ih]; rfl
theorem sh_all {U : Type} {r : Rp U} {M : List Addr} {vs : List V} {as : List U} {A : List Addr} (h : All3 (r.rel K M H) vs as A) (hA : ∀ p, p ∈ A → p ∉ M) : All3 ((sh r).rel K M H) vs as [] := by
  induction h with
  | nil => exact .nil
  | @cons v a B vs as A h t ih =>
    exact .cons (B := []) ⟨rfl, B, h, fun p hp => hA p (List.mem_append_left _ hp)⟩ (ih fun p hp => hA p (List.mem_append_right _ hp))
/-- a new list of things that own nothing, the arguments used up -/
theorem AtP.newL {L : List Arg} {ts vs : List V} {A1 A2 : List Addr} (h : AtP F ((tmps L).reverse ++ T) (ts.reverse ++ t) G σ H A1 A2) (av : ArgV σ L ts vs) {U : Type} {r : Rp U} {as : List U} {ws : List V} (hr : All3 (r.rel K (A1 ++ A2 ++ F.M0) H) ws as []) {p : Addr} (hp : H p = none) :
    At F (.is (rList r) as :: T) (.ref p :: t) G σ (upd H p (.lst ws)) := by
  have z := h.pushAll hr rfl
  exact At.dropU (by simp [(argV_len av).2]) (At.lst ⟨A1, A2, z⟩ hr.length hp)
end

/-! ### displays of lists -/
def GL {K : PySem.W.Frag} {S : Type} (F : FC K S) {U : Type} (ta : TA) (G G' : S → List Slot) (r : Rp U) (m : SM S (List U)) : Prop :=
  ∀ (T : List Slot) (t : List V) (σ : L2.St) (s : S) (H : Hp) (Q : List V → Hp → Prop), At F T t (G s) σ H →
    (m s).wp (fun as s' => ∀ vs H', At F (pend r as ++ T) (vs.reverse ++ t) (G' s') σ H' → vs.length = as.length → Q vs H') (XP F σ) → ta σ H Q
structure EL (X : Cx) {S : Type} (F : FC X.K S) {U : Type} (es : List Expr) (ta : TA) (G G' : S → List Slot) (r : Rp U) (m : SM S (List U)) : Prop where
  pa : PA X es ta
  go : GL F ta G G' r m
section
variable {X : Cx} {S : Type} {F : FC X.K S} {U W Z : Type} {r r1 : Rp U} {r2 : Rp W} {r3 : Rp Z} {e a b : Expr} {es : List Expr} {te ta tb : TE} {tr : TA} {G G1 G2 G' : S → List Slot} {m m1 : SM S U} {m2 : SM S W} {ml : SM S (List U)} {pos : Pos} {arg : U → Arg} {argW : W → Arg}
theorem el_nil : EL X F [] tNil G G r (ret []) := ⟨pa_nil, fun T t σ s H Q h q => q [] H (by simpa [pend] using h) rfl⟩
theorem el_cons (h1 : EX X F e te G G1 r m1) (h2 : EL X F es tr G1 G2 r ml) (hs : PySem.W.isStarred e = false := by rfl) : EL X F (e :: es) (tCons te tr) G G2 r (bnd m1 fun a => bnd ml fun l => ret (a :: l)) :=
  ⟨pa_cons h1.pe h2.pa (star1 hs), fun T t σ s H Q h q => by
    refine h1.go T t σ s H _ h (wp_mono (wp_bnd q) (fun a s1 q1 v H1 at1 => ?_) fun _ _ z => z)
    refine h2.go _ _ σ s1 H1 _ at1 (wp_mono (wp_bnd q1) (fun l s2 q2 vs H2 at2 hl => ?_) fun _ _ z => z)
    exact q2 (v :: vs) H2 (by simpa [pend] using at2) (by simp [hl])⟩
/-- *e: the items own nothing -/
theorem el_star {p : Pos} {xs : W → List U} (h1 : EO X F e te G G1 argW m2) (c : r.Cp) (hx : ∀ a s, Rdd (G1 s) (argW a) (rList r) (xs a)) (h2 : EL X F es tr G1 G2 r ml) (hs : starEach (.Starred e p :: es) X.env = (true, eval e X.env) :: starEach es X.env := by rfl) :
    EL X F (.Starred e p :: es) (StX.tStar X.K te tr) G G2 r (bnd m2 fun a => bnd ml fun l => ret (xs a ++ l)) :=
  ⟨StX.pa_star h1.pe h2.pa hs, fun T t σ s H Q h q => by
    refine h1.go T t σ s H _ h (wp_mono (wp_bnd q) (fun a s1 q1 ts v H1 at1 av => ?_) fun _ _ z => z)
    obtain ⟨A1, A2, at1⟩ := at1
    obtain ⟨v', B, e1, p, vs, A, ev, hp, hA, eB⟩ := rddM (j := 0) at1 av rfl (hx a s1)
    cases e1
    have eA := cp_all c hA
    subst eA
    refine ⟨p, vs, ev, .inr (SqL.of hp), ?_⟩
    have at2 := at1.pushAll hA rfl
    have at3 : At F (pend r (xs a) ++ T) (vs.reverse ++ t) (G1 s1) σ H1 := At.dropM (by rw [List.length_reverse, pend_len, hA.length]) (by simp [(argV_len av).2]) ⟨A1, A2, at2⟩
    refine h2.go _ _ σ s1 H1 _ at3 (wp_mono (wp_bnd q1) (fun l s2 q2 ws H2 at4 hl => ?_) fun _ _ z => z)
    exact q2 (vs ++ ws) H2 (by simpa [pend] using at4) (by simp [hl, hA.length])⟩
end
end Td

set_option Elab.async false
set_option linter.all false
set_option maxRecDepth 100000
set_option maxHeartbeats 4000000
namespace Td
open PySem PySem.Spec PyProof.Rows L2

section
variable {X : Cx} {S : Type} {F : FC X.K S} {U W Z : Type} {r r1 : Rp U} {r2 : Rp W} {r3 : Rp Z} {e a b : Expr} {es : List Expr} {te ta tb : TE} {tr : TA} {G G1 G2 G' : S → List Slot} {m m1 : SM S U} {m2 : SM S W} {ml : SM S (List U)} {pos p0 : Pos} {arg : U → Arg} {argW : W → Arg}
def lenG {S T : Type} (xs : List T) : SM S Unit := grd (xs.length ≤ sizeLine)
theorem ex_lst (h : EL X F es tr G G' r ml) : EX X F (.List es pos) (tLst tr) G G' (rList r) (bnd ml fun xs => bnd (lenG xs) fun _ => ret xs) :=
  ⟨pe_lst h.pa, fun T t σ s H Q h0 q => h.go T t σ s H _ h0 (wp_mono (wp_bnd q) (fun xs s1 q1 vs H1 at1 hl => by
    obtain ⟨hz, q1⟩ := wp_grd (wp_bnd q1)
    exact ⟨by rw [hl]; exact hz, fun p hp => q1 _ _ (at1.lst hl hp)⟩) fun _ _ z => z)⟩
/-- one argument read -/
theorem go_call1 {rr : List V → Hp → VK → Prop} {f : U → SM S Z} (h : GO F te G G' arg m) (hf : ∀ a, Stl (f a))
    (hv : ∀ (a : U) (s : S) (T : List Slot) (t ts : List V) (v : V) (σ : L2.St) (H : Hp) (Q : VK) (A1 A2 : List Addr), AtP F ((tmps [arg a]).reverse ++ T) (ts.reverse ++ t) (G' s) σ H A1 A2 → ArgV σ [arg a] ts [v] →
      (f a s).wp (fun c s' => s' = s ∧ ∀ u H', At F (.is r3 c :: T) (u :: t) (G' s) σ H' → Q u H') (fun _ _ => True) → rr [v] H Q) : GE F (tCB rr (tCons te tNil)) G G' r3 (bnd m f) := by
  intro T t σ s H Q h0 q
  refine h T t σ s H _ h0 (wp_mono (wp_bnd q) (fun a s1 q1 ts v H1 at1 av => ?_) fun _ _ z => z)
  obtain ⟨A1, A2, at1⟩ := at1
  refine hv a s1 T t ts v σ H1 Q A1 A2 at1 av (wp_mono ((hf a).wp (E' := fun _ _ => True) q1) (fun c s2 q2 => ?_) fun _ _ _ => trivial)
  obtain ⟨e, q2⟩ := q2
  subst e
  exact ⟨rfl, q2⟩
theorem ex_callB1 {id : String} {x : Str} {rr : List V → Hp → VK → Prop} {f : U → SM S Z} (hc : CallR X (.builtin id) rr) (hg : Gl X x) (hm : X.mg x = none) (hv : bootBuiltins x = some (.builtin id)) (h : EO X F e te G G' arg m) (hgo : GE F (tCB rr (tCons te tNil)) G G' r3 (bnd m f))
    (hs : PySem.W.isStarred e = false := by rfl) (hn : x ≠ "__name__" := by decide) (hdb : (x == ("__debug__" : Str)) = false := by decide) : EX X F (.Call (.Name x p0) [e] [] pos) (tCB rr (tCons te tNil)) G G' r3 (bnd m f) :=
  ⟨pe_callB hc hg hm hv (pa_cons h.pe pa_nil (star1 hs)) hn hdb (star1 hs), hgo⟩
theorem ex_len {xs : U → List Z} (h : EO X F e te G G' arg m) (hx : ∀ a s, Rdd (G' s) (arg a) (rList r3) (xs a)) (hg : Gl X "len") (hm : X.mg "len" = none) (hs : PySem.W.isStarred e = false := by rfl) :
    EX X F (.Call (.Name "len" p0) [e] [] pos) (tCB (fun xs H Q => ∃ p ys, xs = [.ref p] ∧ (SqL X.K H p ys ∨ SqT X.K H p ys) ∧ Q (.int ys.length) H) (tCons te tNil)) G G' rInt (bnd m fun a => ret ((xs a).length : Int)) :=
  ex_callB1 call_len_seq hg hm PySem.boot_len h (go_call1 h.go (fun _ => stl_ret _) fun a s T t ts v σ H Q A1 A2 at1 av q => by
    obtain ⟨v', B, e1, p, vs, A, ev, hp, hA, eB⟩ := rddM (j := 0) at1 av rfl (hx a s)
    cases e1
    obtain ⟨_, q⟩ := q
    exact ⟨p, vs, by rw [ev], .inl (SqL.of hp), q _ H (at1.fin av ⟨by rw [hA.length], rfl⟩)⟩) hs
theorem ex_lenT {xs : U → List Z} (h : EO X F e te G G' arg m) (hx : ∀ a s, Rdd (G' s) (arg a) (rTupL r3) (xs a)) (hg : Gl X "len") (hm : X.mg "len" = none) (hs : PySem.W.isStarred e = false := by rfl) :
    EX X F (.Call (.Name "len" p0) [e] [] pos) (tCB (fun xs H Q => ∃ p ys, xs = [.ref p] ∧ (SqL X.K H p ys ∨ SqT X.K H p ys) ∧ Q (.int ys.length) H) (tCons te tNil)) G G' rInt (bnd m fun a => ret ((xs a).length : Int)) :=
  ex_callB1 call_len_seq hg hm PySem.boot_len h (go_call1 h.go (fun _ => stl_ret _) fun a s T t ts v σ H Q A1 A2 at1 av q => by
    obtain ⟨v', B, e1, p, vs, ev, hp, hA⟩ := rddM (j := 0) at1 av rfl (hx a s)
    cases e1
    obtain ⟨_, q⟩ := q
    exact ⟨p, vs, by rw [ev], .inr hp, q _ H (at1.fin av ⟨by rw [hA.length], rfl⟩)⟩) hs
/-- list(xs): a new list of things that own nothing -/
theorem ex_list {xs : U → List Z} (h : EO X F e te G G' arg m) (c : r3.Cp) (hx : ∀ a s, Rdd (G' s) (arg a) (rList r3) (xs a)) (hg : Gl X "list") (hm : X.mg "list" = none) (hs : PySem.W.isStarred e = false := by rfl) :
    EX X F (.Call (.Name "list" p0) [e] [] pos) (tCB (fun xs H Q => ∃ p ys, xs = [.ref p] ∧ (SqL X.K H p ys ∨ SqT X.K H p ys) ∧ ∀ l, H l = none → Q (.ref l) (upd H l (.lst ys))) (tCons te tNil)) G G' (rList r3) (bnd m fun a => ret (xs a)) :=
  ⟨pe_callTy call_list_of hg hm PyProof.Rows.boot_list (pa_cons h.pe pa_nil (star1 hs)) (he := star1 hs), go_call1 h.go (fun _ => stl_ret _) fun a s T t ts v σ H Q A1 A2 at1 av q => by
    obtain ⟨v', B, e1, p, vs, A, ev, hp, hA, eB⟩ := rddM (j := 0) at1 av rfl (hx a s)
    cases e1
    obtain ⟨_, q⟩ := q
    have eA := cp_all c hA
    subst eA
    exact ⟨p, vs, by rw [ev], .inl (SqL.of hp), fun l hl => q _ _ (at1.newL av hA hl)⟩⟩
theorem ex_listT {xs : U → List Z} (h : EO X F e te G G' arg m) (c : r3.Cp) (hx : ∀ a s, Rdd (G' s) (arg a) (rTupL r3) (xs a)) (hg : Gl X "list") (hm : X.mg "list" = none) (hs : PySem.W.isStarred e = false := by rfl) :
    EX X F (.Call (.Name "list" p0) [e] [] pos) (tCB (fun xs H Q => ∃ p ys, xs = [.ref p] ∧ (SqL X.K H p ys ∨ SqT X.K H p ys) ∧ ∀ l, H l = none → Q (.ref l) (upd H l (.lst ys))) (tCons te tNil)) G G' (rList r3) (bnd m fun a => ret (xs a)) :=
  ⟨pe_callTy call_list_of hg hm PyProof.Rows.boot_list (pa_cons h.pe pa_nil (star1 hs)) (he := star1 hs), go_call1 h.go (fun _ => stl_ret _) fun a s T t ts v σ H Q A1 A2 at1 av q => by
    obtain ⟨v', B, e1, p, vs, ev, hp, hA⟩ := rddM (j := 0) at1 av rfl (hx a s)
    cases e1
    obtain ⟨_, q⟩ := q
    have eA := cp_all c hA
    subst eA
    exact ⟨p, vs, by rw [ev], .inr hp, fun l hl => q _ _ (at1.newL av hA hl)⟩⟩
/-- calls of built-ins on plain values -/
theorem go_callP1 {rr : List V → Hp → VK → Prop} {f : U → SM S Z} (h : GE F te G G' r m) (hf : ∀ a, Stl (f a)) (hv : VO1 X.K S r r3 (fun v H Q => rr [v] H Q) f) : GE F (tCB rr (tCons te tNil)) G G' r3 (bnd m f) := by
  intro T t σ s H Q h0 q
  refine h T t σ s H _ h0 (wp_mono (wp_bnd q) (fun a s1 q1 v H1 at1 => ?_) fun _ _ z => z)
  obtain ⟨M, B, k⟩ := top_rel at1
  refine hv a v M B H1 Q s1 k (wp_mono ((hf a).wp q1) (fun c s2 q2 e u hu => ?_) fun _ _ z => z)
  exact q2.2 u H1 (at1.pop.push hu)
theorem go_callP2 {rr : List V → Hp → VK → Prop} {f : U → W → SM S Z} (h1 : GE F ta G G1 r m) (h2 : GE F tb G1 G2 r2 m2) (hf : ∀ a b, Stl (f a b)) (hv : VO2 X.K S r r2 r3 (fun v w H Q => rr [v, w] H Q) f) : GE F (tCB rr (tCons ta (tCons tb tNil))) G G2 r3 (bnd m fun a => bnd m2 fun b => f a b) := by
  intro T t σ s H Q h0 q
  refine h1 T t σ s H _ h0 (wp_mono (wp_bnd q) (fun a s1 q1 v H1 at1 => ?_) fun _ _ z => z)
  refine h2 _ _ σ s1 H1 _ at1 (wp_mono (wp_bnd q1) (fun b s2 q2 w H2 at2 => ?_) fun _ _ z => z)
  obtain ⟨M1, B1, k1⟩ := snd_rel at2
  obtain ⟨M2, B2, k2⟩ := top_rel at2
  refine hv a b v w M1 B1 M2 B2 H2 Q s2 k1 k2 (wp_mono ((hf a b).wp q2) (fun c s3 q3 e u hu => ?_) fun _ _ z => z)
  exact q3.2 u H2 (fin2 at2 hu)
end
section
variable {X : Cx} {S : Type} {F : FC X.K S} {e a b : Expr} {te ta tb : TE} {G G1 G2 G' : S → List Slot} {m m1 m2 : SM S Int} {mb : SM S Bool} {pos p0 : Pos}
theorem ex_abs (h : EX X F e te G G' rInt m) (hg : Gl X "abs") (hm : X.mg "abs" = none) (hs : PySem.W.isStarred e = false := by rfl) :
    EX X F (.Call (.Name "abs" p0) [e] [] pos) (tCB (fun xs H Q => ∃ i, xs = [.int i] ∧ Q (.int (if i < 0 then -i else i)) H) (tCons te tNil)) G G' rInt (bnd m fun i => ret (if i < 0 then -i else i)) :=
  ⟨pe_callB call_abs hg hm PyProof.Rows.boot_abs (pa_cons h.pe pa_nil (star1 hs)) (he := star1 hs), go_callP1 h.go (fun _ => stl_ret _) fun a v M B H Q s k q => ⟨a, by rw [k.1], q rfl _ fun _ => ⟨rfl, rfl⟩⟩⟩
theorem ex_intI (h : EX X F e te G G' rInt m) (hg : Gl X "int") (hm : X.mg "int" = none) (hs : PySem.W.isStarred e = false := by rfl) :
    EX X F (.Call (.Name "int" p0) [e] [] pos) (tCB (fun xs H Q => (∃ i, xs = [.int i] ∧ Q (.int i) H) ∨ ∃ k, xs = [.bl k] ∧ Q (.int (if k then 1 else 0)) H) (tCons te tNil)) G G' rInt (bnd m fun i => ret i) :=
  ⟨pe_callTy call_int1 hg hm PyProof.Rows.boot_int (pa_cons h.pe pa_nil (star1 hs)) (he := star1 hs), go_callP1 h.go (fun _ => stl_ret _) fun a v M B H Q s k q => .inl ⟨a, by rw [k.1], q rfl _ fun _ => ⟨rfl, rfl⟩⟩⟩
theorem ex_intB (h : EX X F e te G G' rBool mb) (hg : Gl X "int") (hm : X.mg "int" = none) (hs : PySem.W.isStarred e = false := by rfl) :
    EX X F (.Call (.Name "int" p0) [e] [] pos) (tCB (fun xs H Q => (∃ i, xs = [.int i] ∧ Q (.int i) H) ∨ ∃ k, xs = [.bl k] ∧ Q (.int (if k then 1 else 0)) H) (tCons te tNil)) G G' rInt (bnd mb fun k => ret (if k then 1 else 0)) :=
  ⟨pe_callTy call_int1 hg hm PyProof.Rows.boot_int (pa_cons h.pe pa_nil (star1 hs)) (he := star1 hs), go_callP1 h.go (fun _ => stl_ret _) fun a v M B H Q s k q => .inr ⟨a, by rw [k.1], q rfl _ fun _ => ⟨rfl, rfl⟩⟩⟩
theorem ex_max2 (h1 : EX X F a ta G G1 rInt m1) (h2 : EX X F b tb G1 G2 rInt m2) (hg : Gl X "max") (hm : X.mg "max" = none) (hc : X.calm = true := by rfl) (hs : PySem.W.isStarred a = false := by rfl) (hs2 : PySem.W.isStarred b = false := by rfl) :
    EX X F (.Call (.Name "max" p0) [a, b] [] pos) (tCB (fun xs H Q => ∃ i j, xs = [.int i, .int j] ∧ Q (.int (if j > i then j else i)) H) (tCons ta (tCons tb tNil))) G G2 rInt (bnd m1 fun i => bnd m2 fun j => ret (if j > i then j else i)) :=
  ⟨pe_callB (call_max2 hc) hg hm PyProof.Rows.boot_max (pa_cons h1.pe (pa_cons h2.pe pa_nil (star1 hs2)) (star1 hs)) (he := star1 hs) (hpl := by rw [star1 hs2]; rfl), go_callP2 h1.go h2.go (fun _ _ => stl_ret _) fun a b v w M B M' B' H Q s k k' q => ⟨a, b, by rw [k.1, k'.1], q rfl _ fun _ => ⟨rfl, rfl⟩⟩⟩
theorem ex_min2 (h1 : EX X F a ta G G1 rInt m1) (h2 : EX X F b tb G1 G2 rInt m2) (hg : Gl X "min") (hm : X.mg "min" = none) (hc : X.calm = true := by rfl) (hs : PySem.W.isStarred a = false := by rfl) (hs2 : PySem.W.isStarred b = false := by rfl) :
    EX X F (.Call (.Name "min" p0) [a, b] [] pos) (tCB (fun xs H Q => ∃ i j, xs = [.int i, .int j] ∧ Q (.int (if j < i then j else i)) H) (tCons ta (tCons tb tNil))) G G2 rInt (bnd m1 fun i => bnd m2 fun j => ret (if j < i then j else i)) :=
  ⟨pe_callB (call_min2 hc) hg hm PyProof.Rows.boot_min (pa_cons h1.pe (pa_cons h2.pe pa_nil (star1 hs2)) (star1 hs)) (he := star1 hs) (hpl := by rw [star1 hs2]; rfl), go_callP2 h1.go h2.go (fun _ _ => stl_ret _) fun a b v w M B M' B' H Q s k k' q => ⟨a, b, by rw [k.1, k'.1], q rfl _ fun _ => ⟨rfl, rfl⟩⟩⟩
/-- unary minus -/
theorem ex_neg (h : EX X F e te G G' rInt m) : EX X F (.UnaryOp .USub e pos) (tUn (rU fun i => .int (-i)) te) G G' rInt (bnd m fun i => ret (-i)) :=
  ⟨pe_un un_neg h.pe, fun T t σ s H Q h0 q => h.go T t σ s H _ h0 (wp_mono (wp_bnd q) (fun i s1 q1 v H1 at1 => by
    obtain ⟨M, B, k, _⟩ := top_rel at1
    exact ⟨i, k, q1 _ H1 (at1.pop.push fun _ => ⟨rfl, rfl⟩)⟩) fun _ _ z => z)⟩
end

/-! ### things that are walked -/
structure Src {K : PySem.W.Frag} {S : Type} (F : FC K S) (C : List Slot → Prop) (J : It) (g : List Slot) (hv : List V) {A : Type} (rx : Rp A) (xs : List A) : Prop where
  len : hv.length = g.length
  go : ∀ {i T1 t1 T t G σ H}, C G → t1.length = T1.length → At F (T1 ++ (g ++ T)) (t1 ++ (hv ++ t)) G σ H → i < xs.length → J.go i H
  stop : ∀ {i T1 t1 T t G σ H}, C G → t1.length = T1.length → At F (T1 ++ (g ++ T)) (t1 ++ (hv ++ t)) G σ H → xs.length ≤ i → J.stop i H
  yld : ∀ {i a x T1 t1 T t G σ H H'}, C G → t1.length = T1.length → At F (T1 ++ (g ++ T)) (t1 ++ (hv ++ t)) G σ H → J.yld i H x H' → xs[i]? = some a → At F (.is rx a :: (T1 ++ (g ++ T))) (x :: (t1 ++ (hv ++ t))) G σ H'
def GI {K : PySem.W.Frag} {S : Type} (F : FC K S) {A : Type} (wi : TI) (G G' : S → List Slot) (C : List Slot → Prop) (rx : Rp A) (m : SM S (List A)) : Prop :=
  ∀ (T : List Slot) (t : List V) (σ : L2.St) (s : S) (H : Hp) (R : It → Hp → Prop), At F T t (G s) σ H →
    (m s).wp (fun xs s' => ∀ J g hv H', Src F C J g hv rx xs → At F (g ++ T) (hv ++ t) (G' s') σ H' → R J H') (XP F σ) → wi σ H R
structure EI (X : Cx) {S : Type} (F : FC X.K S) {A : Type} (tg e : Expr) (wi : TI) (G G' : S → List Slot) (C : List Slot → Prop) (rx : Rp A) (m : SM S (List A)) : Prop where
  pi : PI X tg e wi
  go : GI F wi G G' C rx m
section
variable {K : PySem.W.Frag} {S : Type} {F : FC K S} {T : List Slot} {t : List V} {G : List Slot} {σ : L2.St} {H : Hp} {A : Type} {rx : Rp A} {xs : List A}
theorem rev_get' {T : Type _} (l1 l2 : List T) (k : Nat) : (l1 ++ l2)[l1.length + k]? = l2[k]? := by
  rw [List.getElem?_append_right (by omega)]
  congr 1; omega
/-- a held temp, wherever it stands -/
theorem held {T1 : List Slot} {t1 : List V} {g : Slot} {v : V} {A1 A2 : List Addr} (e : t1.length = T1.length) (h : AtP F (T1 ++ ([g] ++ T)) (t1 ++ ([v] ++ t)) G σ H A1 A2) : ∃ B, g.ok K (A1 ++ A2 ++ F.M0) H (some v) B := by
  obtain ⟨x, B, e1, h1, _⟩ := h.tmp.mem (i := T1.length + 0) (g := g) (by rw [rev_get']; rfl)
  rw [List.map_append, show T1.length + 0 = (t1.map some).length + 0 by rw [List.length_map, e], rev_get'] at e1
  cases e1
  exact ⟨B, h1⟩
/-- a shared list -/
theorem src_sh {a : Addr} (c : rx.Cp) : Src F (fun _ => True) (Itl K a) [.is (sh (rList rx)) xs] [.ref a] rx xs where
  len := rfl
  go := by
    intro i T1 t1 T t G σ H _ e h hi
    obtain ⟨A1, A2, h⟩ := h
    obtain ⟨B, v, ev, _, C, ⟨p, vs, A, ep, hp, hA, _⟩, _⟩ := held e h
    cases ev
    cases ep
    have hi' : i < vs.length := by rw [hA.length]; exact hi
    exact ⟨vs, vs[i], SqL.of hp, List.getElem?_eq_getElem hi'⟩
  stop := by
    intro i T1 t1 T t G σ H _ e h hi
    obtain ⟨A1, A2, h⟩ := h
    obtain ⟨B, v, ev, _, C, ⟨p, vs, A, ep, hp, hA, _⟩, _⟩ := held e h
    cases ev
    cases ep
    exact ⟨vs, SqL.of hp, by rw [hA.length]; exact hi⟩
  yld := by
    intro i a x T1 t1 T t G σ H H' _ e h hy ha
    obtain ⟨A1, A2, h⟩ := h
    obtain ⟨B, v, ev, _, C, ⟨p, vs, A, ep, hp, hA, _⟩, _⟩ := held e h
    cases ev
    cases ep
    obtain ⟨rfl, hy⟩ := hy
    obtain ⟨w, D, e1, hr, _⟩ := hA.get' ha
    have e2 := hy vs (SqL.of hp)
    rw [e1] at e2
    cases e2
    have eD := c hr
    subst eD
    exact ⟨A1, A2, h.pushM hr⟩
theorem src_shS {a : Addr} : Src F (fun _ => True) (Itl K a) [.is (sh (rList rx)) xs] [.ref a] (sh rx) xs where
  len := rfl
  go := by
    intro i T1 t1 T t G σ H _ e h hi
    obtain ⟨A1, A2, h⟩ := h
    obtain ⟨B, v, ev, _, C, ⟨p, vs, A, ep, hp, hA, _⟩, _⟩ := held e h
    cases ev
    cases ep
    have hi' : i < vs.length := by rw [hA.length]; exact hi
    exact ⟨vs, vs[i], SqL.of hp, List.getElem?_eq_getElem hi'⟩
  stop := by
    intro i T1 t1 T t G σ H _ e h hi
    obtain ⟨A1, A2, h⟩ := h
    obtain ⟨B, v, ev, _, C, ⟨p, vs, A, ep, hp, hA, _⟩, _⟩ := held e h
    cases ev
    cases ep
    exact ⟨vs, SqL.of hp, by rw [hA.length]; exact hi⟩
  yld := by
    intro i a x T1 t1 T t G σ H H' _ e h hy ha
    obtain ⟨A1, A2, h⟩ := h
    obtain ⟨B, v, ev, _, C, ⟨p, vs, A, ep, hp, hA, eC⟩, hC⟩ := held e h
    cases ev
    cases ep
    obtain ⟨rfl, hy⟩ := hy
    obtain ⟨w, D, e1, hr, sub⟩ := hA.get' ha
    have e2 := hy vs (SqL.of hp)
    rw [e1] at e2
    cases e2
    exact ⟨A1, A2, h.pushM (r := sh rx) ⟨rfl, D, hr, fun x hx => hC x (by rw [eC]; exact List.mem_cons_of_mem _ (sub x hx))⟩⟩
/-- lo, lo + 1, .. -/
def upto (lo : Int) (n : Nat) : List Int := (List.range n).map fun (i : Nat) => lo + (i : Int)
theorem upto_len (lo : Int) (n : Nat) : (upto lo n).length = n := by simp [upto]
theorem upto_get {lo : Int} {n i : Nat} {a : Int} (h : (upto lo n)[i]? = some a) : a = lo + (i : Int) := by
  unfold upto at h
  rw [List.getElem?_map] at h
  cases e : (List.range n)[i]? with
  | none => rw [e] at h; cases h
  | some j =>
    rw [e] at h
    have e2 : j = i := by
      rw [List.getElem?_range] at e
      · cases e; rfl
      · have := (List.getElem?_eq_some_iff.mp e).1
        simpa using this
    subst e2
    exact (Option.some.inj h).symm
theorem src_rng {lo : Int} {n : Nat} : Src F (fun _ => True) (Itr lo n) [] [] rInt (upto lo n) where
  len := rfl
  go := fun _ _ _ hi => by rw [upto_len] at hi; exact hi
  stop := fun _ _ _ hi => by rw [upto_len] at hi; exact hi
  yld := by
    intro i a x T1 t1 T t G σ H H' _ e h hy ha
    obtain ⟨rfl, rfl⟩ := hy
    rw [upto_get ha]
    exact At.push h fun _ => ⟨rfl, rfl⟩
end
end Td

set_option Elab.async false
set_option linter.all false
set_option maxRecDepth 100000
set_option maxHeartbeats 4000000
namespace Td
open PySem PySem.Spec PyProof.Rows L2

/-! ### targets -/
def GG {K : PySem.W.Frag} {S : Type} (F : FC K S) (g : TG) (ws : List Nat) {A : Type} (rx : Rp A) (G : List Slot) (Gt : A → List Slot) : Prop :=
  ∀ (T : List Slot) (t : List V) (σ : L2.St) (H : Hp) (v : V) (a : A) (Q : L2.St → Hp → Prop), At F (.is rx a :: T) (v :: t) G σ H →
    (∀ σ', At F T t (Gt a) σ' H → σ'.length = σ.length → (∀ j, j ∉ ws → σ'[j]? = σ[j]?) → Q σ' H) → g v σ H Q
structure EG (X : Cx) {S : Type} (F : FC X.K S) (tg : Expr) (g : TG) (ws : List Nat) {A : Type} (rx : Rp A) (G : List Slot) (Gt : A → List Slot) : Prop where
  pg : PG X tg g
  go : GG F g ws rx G Gt
section
variable {X : Cx} {S : Type} {F : FC X.K S} {A B C : Type} {rx : Rp A} {ry : Rp B} {rz : Rp C} {G : List Slot} {pos : Pos}
theorem gg_name {K : PySem.W.Frag} {F : FC K S} {i : Nat} {g' : Slot} (e : G[i]? = some g') : GG F (gName i) [i] rx G (fun a => G.set i (.is rx a)) := by
  intro T t σ H v a Q h q
  refine q _ (h.store i e) (by simp) fun j hj => ?_
  rw [List.getElem?_set_ne (by intro z; exact hj (by simp [z]))]
theorem eg_name {i : Nat} {x : Str} {g' : Slot} (e : G[i]? = some g') (hN : X.N.Nodup) (hi : X.N[i]? = some x := by rfl) (hx : Loc X.env.scope x := by first | exact Or.inl rfl | exact Or.inr rfl) (hf : X.fn x = true ∨ X.env.scope.names.lookup x = some .local := by first | exact .inl rfl | exact .inr rfl) :
    EG X F (.Name x pos) (gName i) [i] rx G (fun a => G.set i (.is rx a)) := ⟨pg_name hN hi hx hf, gg_name e⟩
theorem eg_pair {e1 e2 : Expr} {g1 g2 : TG} {w1 w2 : List Nat} {k : Nat} {ws : List Nat} {Gt : A × B → List Slot} {G1 : A → List Slot} {G2 : A → B → List Slot} (hc : X.calm = true) (h1 : EG X F e1 g1 w1 rx G G1) (h2 : ∀ a, EG X F e2 g2 w2 ry (G1 a) (G2 a))
    (ha : Inhabited A) (hws : ws = w1 ++ w2 := by rfl) (hGt : ∀ p, Gt p = G2 p.1 p.2 := by intro _; rfl) (hs1 : (assignEach [e1, e2] X.env).map (·.2) = assign e1 X.env :: (assignEach [e2] X.env).map (·.2) := by rfl) (hs2 : (assignEach [e2] X.env).map (·.2) = assign e2 X.env :: (assignEach [] X.env).map (·.2) := by rfl)
    (hn : (assignEach [e1, e2] X.env).length = 2 := by rfl) (hst : (assignEach [e1, e2] X.env).findIdx? (·.1) = none := by rfl) :
    EG X F (.Tuple [e1, e2] k pos) (gTup X.K 2 (gCons g1 (gCons g2 gNil))) ws (rPair rx ry) G Gt :=
  ⟨pg_tup hc (pgs_cons h1.pg (pgs_cons (h2 ha.default).pg pgs_nil hs2) hs1) hn hst, fun T t σ H v a Q h q => by
    have eG : Gt = fun p => G2 p.1 p.2 := funext hGt
    subst hws eG
    obtain ⟨p, x, y, ev, hT, h⟩ := h.unpair
    refine ⟨p, [x, y], ev, hT, rfl, x, [y], rfl, ?_⟩
    refine h1.go _ _ σ H x a.1 _ h fun σ1 at1 l1 k1 => ?_
    refine ⟨y, [], rfl, ?_⟩
    refine (h2 a.1).go _ _ σ1 H y a.2 _ at1 fun σ2 at2 l2 k2 => ?_
    exact ⟨rfl, q σ2 at2 (l2.trans l1) fun j hj => (k2 j fun z => hj (List.mem_append_right _ z)).trans (k1 j fun z => hj (List.mem_append_left _ z))⟩⟩
theorem eg_pairS {e1 e2 : Expr} {g1 g2 : TG} {w1 w2 : List Nat} {k : Nat} {ws : List Nat} {Gt : A × B → List Slot} {G1 : A → List Slot} {G2 : A → B → List Slot} (hc : X.calm = true) (h1 : EG X F e1 g1 w1 (sh rx) G G1) (h2 : ∀ a, EG X F e2 g2 w2 (sh ry) (G1 a) (G2 a))
    (ha : Inhabited A) (hws : ws = w1 ++ w2 := by rfl) (hGt : ∀ p, Gt p = G2 p.1 p.2 := by intro _; rfl) (hs1 : (assignEach [e1, e2] X.env).map (·.2) = assign e1 X.env :: (assignEach [e2] X.env).map (·.2) := by rfl) (hs2 : (assignEach [e2] X.env).map (·.2) = assign e2 X.env :: (assignEach [] X.env).map (·.2) := by rfl)
    (hn : (assignEach [e1, e2] X.env).length = 2 := by rfl) (hst : (assignEach [e1, e2] X.env).findIdx? (·.1) = none := by rfl) :
    EG X F (.Tuple [e1, e2] k pos) (gTup X.K 2 (gCons g1 (gCons g2 gNil))) ws (sh (rPair rx ry)) G Gt :=
  ⟨pg_tup hc (pgs_cons h1.pg (pgs_cons (h2 ha.default).pg pgs_nil hs2) hs1) hn hst, fun T t σ H v a Q h q => by
    have eG : Gt = fun p => G2 p.1 p.2 := funext hGt
    subst hws eG
    obtain ⟨p, x, y, ev, hT, h⟩ := h.unpairS
    refine ⟨p, [x, y], ev, hT, rfl, x, [y], rfl, ?_⟩
    refine h1.go _ _ σ H x a.1 _ h fun σ1 at1 l1 k1 => ?_
    refine ⟨y, [], rfl, ?_⟩
    refine (h2 a.1).go _ _ σ1 H y a.2 _ at1 fun σ2 at2 l2 k2 => ?_
    exact ⟨rfl, q σ2 at2 (l2.trans l1) fun j hj => (k2 j fun z => hj (List.mem_append_right _ z)).trans (k1 j fun z => hj (List.mem_append_left _ z))⟩⟩
end

/-! ### statements -/
/-- how a block ends: on its end with n, at a return with b, at break or continue with l -/
inductive Fl (N L R : Type) where
  | nx (n : N)
  | rt (b : R)
  | bk (l : L)
  | ct (l : L)
def FlP {K : PySem.W.Frag} {S : Type} (F : FC K S) {N L R : Type} (T : List Slot) (t : List V) (GN : N → S → List Slot) (GL : L → S → List Slot) (r : Rp R) (D : Ends) : Fl N L R → S → Prop
  | .nx n, s => ∀ σ' H', At F T t (GN n s) σ' H' → D.nx σ' H'
  | .ct l, s => ∀ σ' H', At F T t (GL l s) σ' H' → D.ct σ' H'
  | .bk l, s => ∀ σ' H', At F T t (GL l s) σ' H' → D.bk σ' H'
  | .rt b, s => ∀ v σ' H', At F [.is r b] [v] (F.io s) σ' H' → D.rt v H'
def XA {K : PySem.W.Frag} {S : Type} (F : FC K S) (e : Exn) (s : S) : Prop := ∀ σ, XP F σ e s
def GB {K : PySem.W.Frag} {S : Type} (F : FC K S) {N L R : Type} (ts : TS) (G : S → List Slot) (GN : N → S → List Slot) (GL : L → S → List Slot) (r : Rp R) (out : SM S (Fl N L R)) : Prop :=
  ∀ (T : List Slot) (t : List V) (σ : L2.St) (s : S) (H : Hp) (D : Ends), At F T t (G s) σ H → (out s).wp (FlP F T t GN GL r D) (XA F) → ts D σ H
structure BX (X : Cx) {S : Type} (F : FC X.K S) {N L R : Type} (sts : List Stmt) (ts : TS) (G : S → List Slot) (GN : N → S → List Slot) (GL : L → S → List Slot) (r : Rp R) (out : SM S (Fl N L R)) : Prop where
  ps : PSs X sts ts
  go : GB F ts G GN GL r out
def thn_ {S N N' L R : Type} (m : SM S (Fl N L R)) (k : N → SM S (Fl N' L R)) : SM S (Fl N' L R) := bnd m fun fl => match fl with
  | .nx n => k n
  | .rt b => ret (.rt b)
  | .bk l => ret (.bk l)
  | .ct l => ret (.ct l)
/-- a block that does not come to its end -/
def esc {S N L R : Type} (m : SM S (Fl Empty L R)) : SM S (Fl N L R) := bnd m fun fl => match fl with
  | .nx n => n.elim
  | .rt b => ret (.rt b)
  | .bk l => ret (.bk l)
  | .ct l => ret (.ct l)
inductive Lp (L R : Type) where
  | dn (l : L)
  | rt (b : R)
/-- for: the items, the body, the loop's state -/
def forM_ {S A L R : Type} : List A → (L → A → SM S (Fl L L R)) → L → SM S (Lp L R)
  | [], _, l => ret (.dn l)
  | x :: xs, f, l => bnd (f l x) fun fl => match fl with
    | .nx l' => forM_ xs f l'
    | .ct l' => forM_ xs f l'
    | .bk l' => ret (.dn l')
    | .rt b => ret (.rt b)
/-- while: fuel, test, body -/
def whileM_ {S L R : Type} : Nat → (L → SM S Bool) → (L → SM S (Fl L L R)) → L → SM S (Lp L R)
  | 0, _, _, _ => stk
  | n + 1, c, f, l => bnd (c l) fun k => if k then bnd (f l) fun fl => (match fl with
    | .nx l' => whileM_ n c f l'
    | .ct l' => whileM_ n c f l'
    | .bk l' => ret (.dn l')
    | .rt b => ret (.rt b)) else ret (.dn l)
def lpM {S N L L' R : Type} (m : SM S (Lp L R)) (k : L → SM S (Fl N L' R)) : SM S (Fl N L' R) := bnd m fun fl => match fl with
  | .dn l => k l
  | .rt b => ret (.rt b)
section
variable {X : Cx} {S : Type} {F : FC X.K S} {N N' L L' R : Type} {G G1 G2 : S → List Slot} {GN : N → S → List Slot} {GJ : N' → S → List Slot} {GL : L → S → List Slot} {GP : L' → S → List Slot} {r : Rp R} {pos p0 p1 : Pos} {rest : List Stmt} {tr : TS}
theorem bx_end (n : N) (hw : ∀ s, Weak (G s) (GN n s)) : BX X F [] tNext G GN GL r (ret (.nx n)) :=
  ⟨pss_nil, fun T t σ s H D h q => q σ H (h.weak (hw s))⟩
theorem bx_asg {U : Type} {r1 : Rp U} {e : Expr} {te : TE} {m : SM S U} {out : U → SM S (Fl N L R)} {x : Str} (i : Nat) {gs : S → Slot} (hN : X.N.Nodup) (h : EX X F e te G G1 r1 m) (hb : ∀ a, BX X F rest tr (fun s => (G1 s).set i (.is r1 a)) GN GL r (out a)) (ha : Inhabited U)
    (he : ∀ s, (G1 s)[i]? = some (gs s)) (hs : swapsWith e (some (.Name x p0)) pos.line X.env = pure false := by rfl) (hi : X.N[i]? = some x := by rfl) (hx : Loc X.env.scope x := by first | exact Or.inl rfl | exact Or.inr rfl) (hf : X.fn x = true ∨ X.env.scope.names.lookup x = some .local := by first | exact .inl rfl | exact .inr rfl) :
    BX X F (.Assign [.Name x p0] e pos :: rest) (tSeq (tAsg te (gName i)) tr) G GN GL r (bnd m out) :=
  ⟨pss_cons (ps_set hN hi hx h.pe hs hf) (hb ha.default).ps, fun T t σ s H D h0 q =>
    h.go T t σ s H _ h0 (wp_mono (wp_bnd q) (fun a s1 q1 v H1 at1 => (hb a).go T t _ s1 H1 D (at1.store i (he s1)) q1) fun e s z => z σ)⟩
/-- a comprehension given to a name on one line -/
theorem bx_asgW {U : Type} {r1 : Rp U} {st : Stmt} {te : TE} {m : SM S U} {out : U → SM S (Fl N L R)} (i : Nat) {gs : S → Slot} (hp : PS X st (tAsg te (gName i))) (h : GE F te G G1 r1 m) (hb : ∀ a, BX X F rest tr (fun s => (G1 s).set i (.is r1 a)) GN GL r (out a)) (ha : Inhabited U)
    (he : ∀ s, (G1 s)[i]? = some (gs s)) : BX X F (st :: rest) (tSeq (tAsg te (gName i)) tr) G GN GL r (bnd m out) :=
  ⟨pss_cons hp (hb ha.default).ps, fun T t σ s H D h0 q =>
    h T t σ s H _ h0 (wp_mono (wp_bnd q) (fun a s1 q1 v H1 at1 => (hb a).go T t _ s1 H1 D (at1.store i (he s1)) q1) fun e s z => z σ)⟩
/-- a target of several names -/
theorem bx_tgt {U : Type} {r1 : Rp U} {e tg : Expr} {te : TE} {g : TG} {ws : List Nat} {Gt : S → U → List Slot} {m : SM S U} {out : U → SM S (Fl N L R)} (h : EX X F e te G G1 r1 m) (hg : ∀ s, EG X F tg g ws r1 (G1 s) (Gt s)) (hb : ∀ a, BX X F rest tr (fun s => Gt s a) GN GL r (out a)) (ha : Inhabited U) (hS : Inhabited S)
    (hs : swapsWithSole [tg] e pos.line X.env = pure false := by rfl) (hw : swappedStores [tg] e X.env = pure none := by rfl) (h1 : (assignEach [tg] X.env).map (·.2) = [assign tg X.env] := by rfl) :
    BX X F (.Assign [tg] e pos :: rest) (tSeq (tAsg te g) tr) G GN GL r (bnd m out) :=
  ⟨pss_cons (ps_asg h.pe (hg hS.default).pg hs hw h1) (hb ha.default).ps, fun T t σ s H D h0 q =>
    h.go T t σ s H _ h0 (wp_mono (wp_bnd q) (fun a s1 q1 v H1 at1 => (hg s1).go T t σ H1 v a _ at1 fun σ' at2 _ _ => (hb a).go T t σ' s1 H1 D at2 q1) fun e s z => z σ)⟩
/-- a, b = e1, e2 -/
theorem bx_par {U W : Type} {r1 : Rp U} {r2 : Rp W} {a b : Expr} {ta tb : TE} {m1 : SM S U} {m2 : SM S W} {out : U → W → SM S (Fl N L R)} {x y : Str} {px py pt pt2 : Pos} {kt k2 : Nat} (i j : Nat) {gs gs' : S → Slot} (hN : X.N.Nodup) (hc : X.calm = true) (hij : i ≠ j)
    (h1 : EX X F a ta G G1 r1 m1) (h2 : EX X F b tb G1 G2 r2 m2) (hb : ∀ a b, BX X F rest tr (fun s => ((G2 s).set j (.is r2 b)).set i (.is r1 a)) GN GL r (out a b)) (ha : Inhabited U) (ha2 : Inhabited W) (he : ∀ s, (G2 s)[i]? = some (gs s)) (he2 : ∀ s, (G2 s)[j]? = some (gs' s))
    (hw : swappedStores [.Tuple [.Name x px, .Name y py] kt pt] (.Tuple [a, b] k2 pt2) X.env = pure (some [x, y]) := by rfl) (hs : swapsWithSole [.Tuple [.Name x px, .Name y py] kt pt] (.Tuple [a, b] k2 pt2) pos.line X.env = pure false := by rfl)
    (hi : X.N[i]? = some x := by rfl) (hj : X.N[j]? = some y := by rfl) (hx : X.env.scope.names.lookup x = some .local := by rfl) (hy : X.env.scope.names.lookup y = some .local := by rfl) (hsa : PySem.W.isStarred a = false := by rfl) (hsb : PySem.W.isStarred b = false := by rfl) :
    BX X F (.Assign [.Tuple [.Name x px, .Name y py] kt pt] (.Tuple [a, b] k2 pt2) pos :: rest) (tSeq (tPar i j (tCons ta (tCons tb tNil))) tr) G GN GL r (bnd m1 fun a => bnd m2 fun b => out a b) :=
  ⟨pss_cons (ps_par hc hN hi hj hij hx hy (pa_cons h1.pe (pa_cons h2.pe pa_nil (star1 hsb)) (star1 hsa)) hw hs) (hb ha.default ha2.default).ps, fun T t σ s H D h0 q => by
    refine h1.go T t σ s H _ h0 (wp_mono (wp_bnd q) (fun a s1 q1 v H1 at1 => ?_) fun e s z => z σ)
    refine h2.go _ _ σ s1 H1 _ at1 (wp_mono (wp_bnd q1) (fun b s2 q2 w H2 at2 => ?_) fun e s z => z σ)
    refine ⟨v, w, rfl, (hb a b).go T t _ s2 H2 D ?_ q2⟩
    have z := (at2.store j (he2 s2)).store i (by rw [List.getElem?_set_ne (Ne.symm hij)]; exact he s2)
    rwa [List.set_comm (l := σ) _ _ (Ne.symm hij)] at z⟩
theorem bx_ret {e : Expr} {te : TE} {m : SM S R} (h : EX X F e te G G1 r m) (hw : ∀ s, Weak (G1 s) (F.io s)) : BX X F (.Return (some e) pos :: rest) (tSeq (tRet te) tNever) G GN GL r (bnd m fun a => ret (.rt a)) :=
  ⟨pss_cons (ps_ret h.pe) pss_never, fun T t σ s H D h0 q =>
    h.go T t σ s H _ h0 (wp_mono (wp_bnd q) (fun a s1 q1 v H1 at1 => q1 v σ H1 (by
      have z := at1.weak (hw s1)
      exact At.dropM (T0 := [_]) (t0 := [v]) (T := []) (t := []) rfl (T1 := T) (t1 := t) (by obtain ⟨A1, A2, hz⟩ := h0; have := hz.tmp.length; simpa using this) (by simpa using z))) fun e s z => z σ)⟩
theorem bx_expr {U : Type} {r1 : Rp U} {e : Expr} {te : TE} {m : SM S U} {out : SM S (Fl N L R)} (h : EX X F e te G G1 r1 m) (hb : BX X F rest tr G1 GN GL r out) (hs : swapsWith e none pos.line X.env = pure false := by rfl) :
    BX X F (.Expr e pos :: rest) (tSeq (tDrop te) tr) G GN GL r (bnd m fun _ => out) :=
  ⟨pss_cons (ps_expr h.pe hs) hb.ps, fun T t σ s H D h0 q =>
    h.go T t σ s H _ h0 (wp_mono (wp_bnd q) (fun a s1 q1 v H1 at1 => hb.go T t σ s1 H1 D at1.pop q1) fun e s z => z σ)⟩
theorem bx_pass {out : SM S (Fl N L R)} (hb : BX X F rest tr G GN GL r out) : BX X F (.Pass pos :: rest) (tSeq tNext tr) G GN GL r out := ⟨pss_cons ps_pass hb.ps, fun T t σ s H D h0 q => hb.go T t σ s H D h0 q⟩
theorem bx_brk (l : L) (hw : ∀ s, Weak (G s) (GL l s)) : BX X F (.Break pos :: rest) (tSeq tBreak tNever) G GN GL r (ret (.bk l)) := ⟨pss_cons ps_break pss_never, fun T t σ s H D h0 q => q σ H (h0.weak (hw s))⟩
theorem bx_cnt (l : L) (hw : ∀ s, Weak (G s) (GL l s)) : BX X F (.Continue pos :: rest) (tSeq tCont tNever) G GN GL r (ret (.ct l)) := ⟨pss_cons ps_continue pss_never, fun T t σ s H D h0 q => q σ H (h0.weak (hw s))⟩
theorem flp_mono {T : List Slot} {t : List V} {D D' : Ends} {fl : Fl N L R} {s : S} (h : FlP F T t GN GL r D fl s) (hn : ∀ σ H, D.nx σ H → D'.nx σ H) (hr : ∀ v H, D.rt v H → D'.rt v H) (hb : ∀ σ H, D.bk σ H → D'.bk σ H) (hc : ∀ σ H, D.ct σ H → D'.ct σ H) : FlP F T t GN GL r D' fl s := by
  cases fl with
  | nx n => exact fun σ' H' z => hn _ _ (h σ' H' z)
  | rt b => exact fun v σ' H' z => hr _ _ (h v σ' H' z)
  | bk l => exact fun σ' H' z => hb _ _ (h σ' H' z)
  | ct l => exact fun σ' H' z => hc _ _ (h σ' H' z)
theorem bx_if {c : Expr} {A B : List Stmt} {tc : TT} {ta tb : TS} {mc : SM S Bool} {oA oB : SM S (Fl N' L R)} {out : N' → SM S (Fl N L R)} (hc : ET X F c tc G G1 mc) (h1 : BX X F A ta G1 GJ GL r oA) (h2 : BX X F B tb G1 GJ GL r oB) (hr : ∀ n, BX X F rest tr (GJ n) GN GL r (out n)) (ha : Inhabited N') :
    BX X F (.If c A B pos :: rest) (tSeq (tIfS tc ta tb) tr) G GN GL r (bnd mc fun k => thn_ (if k then oA else oB) out) :=
  ⟨pss_cons (ps_if hc.pt h1.ps h2.ps) (hr ha.default).ps, fun T t σ s H D h0 q => by
    refine hc.go T t σ s H _ h0 (wp_mono (wp_bnd q) (fun k s1 q1 H1 at1 => ?_) fun e s z => z σ)
    have fin : ∀ {fl : Fl N' L R} {s2 : S}, ((match fl with | .nx n => out n | .rt b => ret (.rt b) | .bk l => ret (.bk l) | .ct l => ret (.ct l) : SM S (Fl N L R)) s2).wp (FlP F T t GN GL r D) (XA F) → FlP F T t GJ GL r { D with nx := tr D } fl s2 := fun {fl s2} q2 => by
      cases fl with
      | nx n => exact fun σ' H' at2 => (hr n).go T t σ' s2 H' D at2 q2
      | rt b => exact q2
      | bk l => exact q2
      | ct l => exact q2
    cases k with
    | true => exact h1.go T t σ s1 H1 { D with nx := tr D } at1 (wp_mono (wp_bnd q1) (fun fl s2 q2 => fin q2) fun _ _ z => z)
    | false => exact h2.go T t σ s1 H1 { D with nx := tr D } at1 (wp_mono (wp_bnd q1) (fun fl s2 q2 => fin q2) fun _ _ z => z)⟩
/-- if whose suite does not come to its end, without else -/
theorem bx_ifr {c : Expr} {A : List Stmt} {tc : TT} {ta : TS} {mc : SM S Bool} {oA : SM S (Fl Empty L R)} {out : SM S (Fl N L R)} {GE_ : Empty → S → List Slot} (hc : ET X F c tc G G1 mc) (h1 : BX X F A ta G1 GE_ GL r oA) (hr : BX X F rest tr G1 GN GL r out) :
    BX X F (.If c A [] pos :: rest) (tSeq (tIfS tc ta tNext) tr) G GN GL r (bnd mc fun k => if k then esc oA else out) :=
  ⟨pss_cons (ps_if hc.pt h1.ps pss_nil) hr.ps, fun T t σ s H D h0 q => by
    refine hc.go T t σ s H _ h0 (wp_mono (wp_bnd q) (fun k s1 q1 H1 at1 => ?_) fun e s z => z σ)
    cases k with
    | true =>
      refine h1.go T t σ s1 H1 { D with nx := tr D } at1 (wp_mono (wp_bnd q1) (fun fl s2 q2 => ?_) fun _ _ z => z)
      cases fl with
      | nx n => exact n.elim
      | rt b => exact q2
      | bk l => exact q2
      | ct l => exact q2
    | false => exact hr.go T t σ s1 H1 D at1 q1⟩
/-- both suites do not come to their ends -/
theorem bx_ife {c : Expr} {A B : List Stmt} {tc : TT} {ta tb : TS} {mc : SM S Bool} {oA oB : SM S (Fl Empty L R)} {GE_ : Empty → S → List Slot} {GE2 : Empty → S → List Slot} (hc : ET X F c tc G G1 mc) (h1 : BX X F A ta G1 GE_ GL r oA) (h2 : BX X F B tb G1 GE2 GL r oB) :
    BX X F (.If c A B pos :: rest) (tSeq (tIfS tc ta tb) tNever) G GN GL r (bnd mc fun k => if k then esc oA else esc oB) :=
  ⟨pss_cons (ps_if hc.pt h1.ps h2.ps) pss_never, fun T t σ s H D h0 q => by
    refine hc.go T t σ s H _ h0 (wp_mono (wp_bnd q) (fun k s1 q1 H1 at1 => ?_) fun e s z => z σ)
    cases k with
    | true =>
      refine h1.go T t σ s1 H1 _ at1 (wp_mono (wp_bnd q1) (fun fl s2 q2 => ?_) fun _ _ z => z)
      cases fl with
      | nx n => exact n.elim
      | rt b => exact q2
      | bk l => exact q2
      | ct l => exact q2
    | false =>
      refine h2.go T t σ s1 H1 _ at1 (wp_mono (wp_bnd q1) (fun fl s2 q2 => ?_) fun _ _ z => z)
      cases fl with
      | nx n => exact n.elim
      | rt b => exact q2
      | bk l => exact q2
      | ct l => exact q2⟩
/-- for -/
theorem bx_for {A : Type} {rx : Rp A} {tg e : Expr} {body : List Stmt} {wi : TI} {g : TG} {ws : List Nat} {tb : TS} {mi : SM S (List A)} {f : L' → A → SM S (Fl L' L' R)} {out : L' → SM S (Fl N L R)} {Gt : L' → S → A → List Slot} {C : List Slot → Prop}
    (hp : PassesOwn (model X.prog X.w) X.A X.env X.xe) (hc : X.calm = true) (GP : L' → S → List Slot) (l0 : L') (hi : EI X F tg e wi G G1 C rx mi) (hw : ∀ s, Weak (G1 s) (GP l0 s)) (hC : ∀ l s, C (GP l s)) (hg : ∀ l s, EG X F tg g ws rx (GP l s) (Gt l s))
    (hb : ∀ l x, BX X F body tb (fun s => Gt l s x) GP GP r (f l x)) (hr : ∀ l, BX X F rest tr (GP l) GN GL r (out l)) (hA : Inhabited A) (hS : Inhabited S) (hs : ∀ x, foldedSetIterable e X.env x = pure x := by intro _; rfl) :
    BX X F (.For tg e body [] pos :: rest) (tSeq (tFor wi g tb) tr) G GN GL r (bnd mi fun xs => lpM (forM_ xs f l0) out) :=
  ⟨pss_cons (ps_for hp hc hi.pi (hg l0 hS.default).pg (hb l0 hA.default).ps hs) (hr l0).ps, fun T t σ s H D h0 q => by
    refine hi.go T t σ s H _ h0 (wp_mono (wp_bnd q) (fun xs s1 q1 J gv hv H1 src at1 => ?_) fun e s z => z σ)
    refine ⟨fun i m σ H => m = xs.length - i ∧ i ≤ xs.length ∧ ∃ l s, At F (gv ++ T) (hv ++ t) (GP l s) σ H ∧ ((lpM (forM_ (xs.drop i) f l) out : SM S (Fl N L R)) s).wp (FlP F T t GN GL r D) (XA F),
      ⟨xs.length, by simp, Nat.zero_le _, l0, s1, at1.weak (hw s1), by simpa using q1⟩, ?_⟩
    rintro i m σ H ⟨rfl, hi, l, s, at2, q2⟩
    by_cases hlt : i < xs.length
    · refine .inr ⟨src.go (T1 := []) (t1 := []) (hC l s) rfl at2 hlt, fun σ' H' => ∃ l s, At F (gv ++ T) (hv ++ t) (GP l s) σ' H' ∧ ((lpM (forM_ (xs.drop (i + 1)) f l) out : SM S (Fl N L R)) s).wp (FlP F T t GN GL r D) (XA F),
        fun σ' H' ⟨l, s, at3, q3⟩ => ⟨xs.length - (i + 1), by omega, rfl, hlt, l, s, at3, q3⟩, fun x H' hy => ?_⟩
      have at3 := src.yld (T1 := []) (t1 := []) (hC l s) rfl at2 hy (List.getElem?_eq_getElem hlt)
      refine (hg l s).go _ _ σ H' x xs[i] _ at3 fun σ2 at4 _ _ => ?_
      rw [List.drop_eq_getElem_cons hlt] at q2
      refine (hb l xs[i]).go (gv ++ T) (hv ++ t) σ2 s H' _ at4 ?_
      refine wp_mono (wp_bnd (wp_bnd q2)) (fun fl s3 q3 => ?_) fun _ _ z => z
      cases fl with
      | nx l' => exact fun σ' H' z => ⟨l', s3, z, bnd_wp q3⟩
      | ct l' => exact fun σ' H' z => ⟨l', s3, z, bnd_wp q3⟩
      | bk l' => exact fun σ' H' z => (hr l').go T t σ' s3 H' D (At.drop src.len z) q3
      | rt b => exact q3
    · have e : i = xs.length := by omega
      subst e
      refine .inl ⟨src.stop (T1 := []) (t1 := []) (hC l s) rfl at2 (Nat.le_refl _), ?_⟩
      rw [List.drop_length] at q2
      exact (hr l).go T t σ s H D (At.drop src.len at2) (wp_bnd q2)⟩
/-- while -/
theorem bx_while {c : Expr} {body : List Stmt} {tc : TT} {tb : TS} {mc : L' → SM S Bool} {f : L' → SM S (Fl L' L' R)} {out : L' → SM S (Fl N L R)}
    (hp : PassesOwn (model X.prog X.w) X.A X.env X.xe) (GP : L' → S → List Slot) (l0 : L') (n : Nat) (hw : ∀ s, Weak (G s) (GP l0 s)) (hc : ∀ l, ET X F c tc (GP l) (GP l) (mc l)) (hb : ∀ l, BX X F body tb (GP l) GP GP r (f l)) (hr : ∀ l, BX X F rest tr (GP l) GN GL r (out l)) :
    BX X F (.While c body [] pos :: rest) (tSeq (tWhile tc tb) tr) G GN GL r (lpM (whileM_ n mc f l0) out) :=
  ⟨pss_cons (ps_while hp (hc l0).pt (hb l0).ps) (hr l0).ps, fun T t σ s H D h0 q => by
    refine ⟨fun m σ H => ∃ l s, At F T t (GP l s) σ H ∧ ((lpM (whileM_ m mc f l) out : SM S (Fl N L R)) s).wp (FlP F T t GN GL r D) (XA F), ⟨n, l0, s, h0.weak (hw s), q⟩, ?_⟩
    rintro m σ H ⟨l, s, at1, q1⟩
    cases m with
    | zero => exact (wp_bnd q1).elim
    | succ m =>
      refine (hc l).go T t σ s H _ at1 (wp_mono (wp_bnd (wp_bnd q1)) (fun k s2 q2 H2 at2 => ?_) fun e s z => z σ)
      cases k with
      | true =>
        refine ⟨fun σ' H' => ∃ l s, At F T t (GP l s) σ' H' ∧ ((lpM (whileM_ m mc f l) out : SM S (Fl N L R)) s).wp (FlP F T t GN GL r D) (XA F), fun σ' H' z => ⟨m, Nat.lt_succ_self m, z⟩, ?_⟩
        refine (hb l).go T t σ s2 H2 _ at2 (wp_mono (wp_bnd q2) (fun fl s3 q3 => ?_) fun _ _ z => z)
        cases fl with
        | nx l' => exact fun σ' H' z => ⟨l', s3, z, bnd_wp q3⟩
        | ct l' => exact fun σ' H' z => ⟨l', s3, z, bnd_wp q3⟩
        | bk l' => exact fun σ' H' z => (hr l').go T t σ' s3 H' D z q3
        | rt b => exact q3
      | false => exact (hr l).go T t σ s2 H2 D at2 q2⟩
end
end Td

set_option Elab.async false
set_option linter.all false
set_option maxRecDepth 100000
set_option maxHeartbeats 4000000
namespace Td
open PySem PySem.Spec PyProof.Rows L2

/-! ### a def's promise -/
def FC.c {K : PySem.W.Frag} {S : Type} (H : Hp) (I M0 : List Addr) : FC K S := ⟨H, I, M0, fun _ => [], fun _ _ _ _ => True⟩
theorem At.re {K : PySem.W.Frag} {S S' : Type} {F : FC K S} {F' : FC K S'} {T : List Slot} {t : List V} {G : List Slot} {σ : L2.St} {H : Hp} (h : At F T t G σ H) (e1 : F'.H0 = F.H0) (e2 : F'.I = F.I) (e3 : F'.M0 = F.M0) : At F' T t G σ H := by
  obtain ⟨A1, A2, h⟩ := h
  obtain ⟨h1, h2, h3⟩ := h
  exact ⟨A1, A2, by rw [e3]; exact h1, by rw [e3]; exact h2, ⟨h3.nd, by rw [e3]; exact h3.out, by rw [e1, e2]; exact h3.new, by rw [e2]; exact h3.has, by rw [e1, e2]; exact h3.stay, by rw [e1, e2, e3]; exact h3.m0⟩⟩
def SpG (K : PySem.W.Frag) {S U W : Type} (n : Nat) (Ps : U → S → List V → List Slot) (ioT : S → List Slot) (iov : List V → List V) (r : Rp W) (f : U → SM S W) : Sp := fun vs H Q E =>
  ∃ (u : U) (s : S) (I M0 : List Addr), vs.length = n ∧ At (FC.c (K := K) (S := S) H I M0) [] [] (Ps u s vs) (vs.map some) H ∧
    (f u s).wp (fun b s' => ∀ v H', At (FC.c (K := K) (S := S) H I M0) (.is r b :: ioT s') (v :: iov vs) [] [] H' → Q v H')
      (fun e s' => ∀ d v H', At (FC.c (K := K) (S := S) H I M0) (.is rPay e.pay :: ioT s') (v :: iov vs) [] [] H' → H' d = some (.xd [("value", v)]) → E (.ref (He.ga K e.cls)) (some d) H')
/-- a def without an in/out argument -/
abbrev SpP (K : PySem.W.Frag) {U W : Type} (n : Nat) (Ps : U → List Slot) (r : Rp W) (f : U → SM Unit W) : Sp := SpG K (S := Unit) n (fun u _ _ => Ps u) (fun _ => []) (fun _ => []) r f

/-- what stands in a representation does not hang on M -/
def Rp.Clo {T : Type} (r : Rp T) : Prop := ∀ {K M M' H v a B}, r.rel K M H v a B → r.rel K M' H v a B
theorem clo_pl {T : Type} {f : T → V} : (rPl f).Clo := fun h => h
theorem clo_int : rInt.Clo := fun h => h
theorem clo_bool : rBool.Clo := fun h => h
theorem clo_str : rStr.Clo := fun h => h
theorem clo_non : rNon.Clo := fun h => h
theorem clo_pair {T U : Type} {r : Rp T} {q : Rp U} (c1 : r.Clo) (c2 : q.Clo) : (rPair r q).Clo := by
  rintro K M M' H v a B ⟨p, v1, v2, B1, B2, e, hT, h1, h2, eB⟩
  exact ⟨p, v1, v2, B1, B2, e, hT, c1 h1, c2 h2, eB⟩
theorem clo_tup3 {T U W : Type} {r : Rp T} {q : Rp U} {t : Rp W} (c1 : r.Clo) (c2 : q.Clo) (c3 : t.Clo) : (rTup3 r q t).Clo := by
  rintro K M M' H v a B ⟨p, v1, v2, v3, B1, B2, B3, e, hT, h1, h2, h3, eB⟩
  exact ⟨p, v1, v2, v3, B1, B2, B3, e, hT, c1 h1, c2 h2, c3 h3, eB⟩
theorem clo_opt {T : Type} {r : Rp T} (c : r.Clo) : (rOpt r).Clo := by
  intro K M M' H v a B h
  cases a with
  | none => exact h
  | some a => exact c h
theorem clo_list {T : Type} {r : Rp T} (c : r.Clo) : (rList r).Clo := by
  rintro K M M' H v a B ⟨p, vs, A, e, hp, hA, eB⟩
  exact ⟨p, vs, A, e, hp, hA.imp fun _ _ _ _ h => c h, eB⟩
theorem clo_pay : rPay.Clo := by
  intro K M M' H v a B h
  cases a with
  | non => exact h
  | int i => exact h
  | pair a b => exact clo_pair clo_int clo_int h
  | lsI l => exact clo_list clo_int h
  | lsP l => exact clo_list (clo_pair clo_int clo_int) h
  | str x => exact h

section
variable {K : PySem.W.Frag} {S S' : Type} {F : FC K S} {T : List Slot} {t : List V} {G : List Slot} {σ : L2.St} {H H' : Hp}
/-- behind a call: what it gave, and all that stood -/
theorem At.back {U : Type} {r : Rp U} {b : U} {v : V} {M0' : List Addr} {A1 A2 : List Addr} (h : AtP F T t G σ H A1 A2) (hx : At (FC.c (K := K) (S := S') H [] M0') [.is r b] [v] [] [] H')
    (hM : r.Clo ∨ ∀ p, p ∈ A1 ++ A2 ++ F.M0 → p ∈ M0') : At F (.is r b :: T) (v :: t) G σ H' := by
  obtain ⟨X1, X2, hx⟩ := hx
  obtain ⟨B, A', eA, ⟨v', ev, hr⟩, ht⟩ := AtS.cons_inv hx.tmp
  cases ev
  cases ht
  have e2 : X2 = [] := by
    have := hx.loc
    cases this; rfl
  subst e2 eA
  have gx := hx.good
  have nB : ∀ p, p ∈ B → H p = none := fun p hp => (gx.new p (by simpa using hp)).resolve_right (by intro z; cases z)
  have st : ∀ p o, H p = some o → H' p = some o := fun p o e => gx.stay p o e (by intro z; cases z)
  have ndB : B.Nodup := by simpa using gx.nd
  have tr : ∀ p, p ∈ A1 ++ A2 ++ F.M0 → H p ≠ none := fun p hp e => by
    rcases List.mem_append.mp hp with hp | hp
    · rcases List.mem_append.mp hp with hp | hp
      · obtain ⟨o, z, _⟩ := h.tmp.trk p hp; rw [e] at z; cases z
      · obtain ⟨o, z, _⟩ := h.loc.trk p hp; rw [e] at z; cases z
    · obtain ⟨⟨o, z, _⟩, hI⟩ := h.good.m0 p hp
      have := h.good.stay p o z hI
      rw [e] at this; cases this
  have dis : ∀ p, p ∈ B → p ∉ A1 ++ A2 ++ F.M0 := fun p hp z => tr p z (nB p hp)
  have hM' : ∀ x, x ∈ (B ++ A1) ++ A2 ++ F.M0 → x ∈ A1 ++ A2 ++ F.M0 ∨ H x = none := fun x hx => by
    by_cases hB : x ∈ B
    · exact .inr (nB x hB)
    · left
      simp only [List.mem_append] at *
      grind
  refine ⟨B ++ A1, A2, .cons ⟨v, rfl, ?_⟩ ((h.tmp.grow hM').keep fun p o e _ => st p o e), (h.loc.grow hM').keep fun p o e _ => st p o e, ?_⟩
  · rcases hM with c | hM
    · exact c hr
    · refine r.grow hr fun p hp => .inl ?_
      have z := hM p
      show p ∈ (B ++ []) ++ [] ++ M0'
      simp only [List.mem_append] at *
      grind
  · refine ⟨?_, fun p hp => ?_, fun p hp => ?_, fun p hp => ?_, fun p o e hI => st p o (h.good.stay p o e hI), h.good.m0⟩
    · have := h.good.nd
      have d := dis
      simp only [List.nodup_append, List.mem_append] at *
      grind
    · have := h.good.out p
      have d := dis p
      simp only [List.mem_append] at *
      grind
    · by_cases hB : p ∈ B
      · exact .inl (h.good.fresh (nB p hB)).1
      · exact h.good.new p (by simp only [List.mem_append] at *; grind)
    · obtain ⟨o, e, z⟩ := h.good.has p hp
      exact ⟨o, st p o e, z⟩
/-- arguments as a callee's slots -/
inductive Ent (G : List Slot) : List Arg → List Slot → Prop
  | nil : Ent G [] []
  | sh {arg L P U} {r : Rp U} {a : U} (rd : Rdd G arg r a) (h : Ent G L P) : Ent G (arg :: L) (.is (sh r) a :: P)
  | cp {arg L P U} {r : Rp U} {a : U} (c : r.Cp) (rd : Rdd G arg r a) (h : Ent G L P) : Ent G (arg :: L) (.is r a :: P)
inductive EntS (G : List Slot) : List Arg → List Slot → Prop
  | nil : EntS G [] []
  | sh {arg L P U} {r : Rp U} {a : U} (rd : RdS G arg r a) (h : EntS G L P) : EntS G (arg :: L) (.is (sh r) a :: P)
  | cp {arg L P U} {r : Rp U} {a : U} (c : r.Cp) (rd : RdS G arg r a) (h : EntS G L P) : EntS G (arg :: L) (.is r a :: P)
theorem ent_at {ts vs : List V} {L : List Arg} {A1 A2 : List Addr} (h : AtP F ((tmps L).reverse ++ T) (ts.reverse ++ t) G σ H A1 A2) (av : ArgV σ L ts vs) {P : List Slot} (he : Ent G L P) : AtS K [] H P (vs.map some) [] := by
  have key : ∀ {L1 : List Arg} {P : List Slot}, Ent G L1 P → ∀ (k : Nat), L1 = L.drop k → AtS K [] H P ((vs.drop k).map some) [] := by
    intro L1 P he
    induction he with
    | nil =>
      intro k e
      have hk : L.length ≤ k := by
        have := congrArg List.length e
        simp at this
        omega
      rw [List.drop_of_length_le (by rw [(argV_len av).1]; exact hk)]
      exact .nil
    | @sh arg L1 P U r a rd _ ih =>
      intro k e
      have ek : L[k]? = some arg := by
        have := congrArg (fun l => l[0]?) e
        simpa using this.symm
      obtain ⟨v, B, ev, hr⟩ := rddM h av ek rd
      have e2 : L1 = L.drop (k + 1) := by
        have := congrArg List.tail e
        simpa using this
      have z := ih (k + 1) e2
      obtain ⟨hk, ev'⟩ := List.getElem?_eq_some_iff.mp ev
      rw [List.drop_eq_getElem_cons hk, ev']
      exact .cons (B := []) ⟨v, rfl, rfl, B, rel_nil hr, fun _ _ z => by cases z⟩ z
    | @cp arg L1 P U r a c rd _ ih =>
      intro k e
      have ek : L[k]? = some arg := by
        have := congrArg (fun l => l[0]?) e
        simpa using this.symm
      obtain ⟨v, B, ev, hr⟩ := rddM h av ek rd
      have e2 : L1 = L.drop (k + 1) := by
        have := congrArg List.tail e
        simpa using this
      have z := ih (k + 1) e2
      obtain ⟨hk, ev'⟩ := List.getElem?_eq_some_iff.mp ev
      rw [List.drop_eq_getElem_cons hk, ev']
      have eB := c hr
      subst eB
      exact .cons (B := []) ⟨v, rfl, rel_nil hr⟩ z
  exact key he 0 rfl
theorem entS_at {ts vs : List V} {L : List Arg} {A1 A2 : List Addr} (h : AtP F ((tmps L).reverse ++ T) (ts.reverse ++ t) G σ H A1 A2) (av : ArgV σ L ts vs) {P : List Slot} (he : EntS G L P) : AtS K (A1 ++ A2 ++ F.M0) H P (vs.map some) [] := by
  have key : ∀ {L1 : List Arg} {P : List Slot}, EntS G L1 P → ∀ (k : Nat), L1 = L.drop k → AtS K (A1 ++ A2 ++ F.M0) H P ((vs.drop k).map some) [] := by
    intro L1 P he
    induction he with
    | nil =>
      intro k e
      have hk : L.length ≤ k := by
        have := congrArg List.length e
        simp at this
        omega
      rw [List.drop_of_length_le (by rw [(argV_len av).1]; exact hk)]
      exact .nil
    | @sh arg L1 P U r a rd _ ih =>
      intro k e
      have ek : L[k]? = some arg := by
        have := congrArg (fun l => l[0]?) e
        simpa using this.symm
      obtain ⟨v, ev, hr⟩ := rdS h av ek rd
      have e2 : L1 = L.drop (k + 1) := by
        have := congrArg List.tail e
        simpa using this
      have z := ih (k + 1) e2
      obtain ⟨hk, ev'⟩ := List.getElem?_eq_some_iff.mp ev
      rw [List.drop_eq_getElem_cons hk, ev']
      exact .cons (B := []) ⟨v, rfl, hr⟩ z
    | @cp arg L1 P U r a c rd _ ih =>
      intro k e
      have ek : L[k]? = some arg := by
        have := congrArg (fun l => l[0]?) e
        simpa using this.symm
      obtain ⟨v, ev, _, B, hr, _⟩ := rdS h av ek rd
      have e2 : L1 = L.drop (k + 1) := by
        have := congrArg List.tail e
        simpa using this
      have z := ih (k + 1) e2
      obtain ⟨hk, ev'⟩ := List.getElem?_eq_some_iff.mp ev
      rw [List.drop_eq_getElem_cons hk, ev']
      have eB := c hr
      subst eB
      exact .cons (B := []) ⟨v, rfl, hr⟩ z
  exact key he 0 rfl
theorem good_c {M0 : List Addr} (h : ∀ p, p ∈ M0 → ∃ o, H p = some o ∧ isTup o = false) : Good (FC.c (K := K) (S := S') H [] M0) H [] :=
  ⟨.nil, fun _ z => (nomatch z), fun _ z => (nomatch z), fun _ z => (nomatch z), fun _ _ e _ => e, fun p hp => ⟨h p hp, fun z => (nomatch z)⟩⟩
theorem AtP.m_trk {A1 A2 : List Addr} (h : AtP F T t G σ H A1 A2) : ∀ p, p ∈ A1 ++ A2 ++ F.M0 → ∃ o, H p = some o ∧ isTup o = false := fun p hp => by
  rcases List.mem_append.mp hp with hp | hp
  · rcases List.mem_append.mp hp with hp | hp
    · exact h.tmp.trk p hp
    · exact h.loc.trk p hp
  · obtain ⟨⟨o, z, zt⟩, hI⟩ := h.good.m0 p hp
    exact ⟨o, h.good.stay p o z hI, zt⟩
/-- the reading of a call of a def without an in/out argument -/
theorem go_call {U W A : Type} {n : Nat} {Ps : U → List Slot} {r : Rp W} {f : U → SM Unit W} {fa : A → SM Unit W} {E : XK} {ta : TA} {G G' : S → List Slot} {LA : A → List Arg} {mA : SM S A} (u : A → U) (hf : ∀ a, fa a = f (u a)) (h : GA F ta G G' LA mA) (hn : ∀ a, (LA a).length = n)
    (he : (r.Clo ∧ ∀ a s, Ent (G' s) (LA a) (Ps (u a))) ∨ ∀ a s, EntS (G' s) (LA a) (Ps (u a))) (hW : ∀ c d σ H, F.W c d σ H → E c d H) (hw : ∀ s, Weak (G' s) (F.io s)) :
    GE F (tCall (SpP K n Ps r f) [] E ta) G G' r (bnd mA fun a => lft (fa a)) := by
  intro T t σ s H Q h0 q
  have ef : fa = fun a => f (u a) := funext hf
  subst ef
  refine h T t σ s H _ h0 (wp_mono (wp_bnd q) (fun a s1 q1 ts vs H1 at1 av => ?_) fun _ _ z => z)
  have q2 := wp_lft q1
  have lv : (vs ++ ([] : List V)).length = n := by rw [List.append_nil, (argV_len av).1, hn]
  obtain ⟨A1, A2, at1⟩ := at1
  have run : ∀ (M0 : List Addr), (∀ p, p ∈ M0 → ∃ o, H1 p = some o ∧ isTup o = false) → AtS K M0 H1 (Ps (u a)) (vs.map some) [] → (r.Clo ∨ ∀ p, p ∈ A1 ++ A2 ++ F.M0 → p ∈ M0) → SpP K n Ps r f (vs ++ []) H1 Q E := by
    intro M0 hM0 hat hor
    have hat2 : AtS K ([] ++ [] ++ (FC.c (K := K) (S := Unit) H1 [] M0).M0) H1 (Ps (u a)) ((vs ++ []).map some) [] := by
      rw [List.append_nil vs]
      exact hat
    refine ⟨u a, (), [], M0, lv, ⟨[], [], .nil, hat2, good_c hM0⟩, wp_mono q2 (fun b _ q3 v H' hx => ?_) (fun e _ q3 d v H' hx hd => ?_)⟩
    · have z := At.back at1 hx hor
      exact q3 v H' (At.dropU (by simp [(argV_len av).2]) z)
    · have z := At.back at1 hx (.inl clo_pay)
      have z2 := (At.dropU (by simp [(argV_len av).2]) z).weak (hw s1)
      refine hW _ _ σ _ (q3 d v H' ?_ hd)
      exact At.dropM (T0 := [_]) (t0 := [v]) (T := []) (t := []) rfl (T1 := T) (t1 := t) (by obtain ⟨B1, B2, hz⟩ := h0; have := hz.tmp.length; simpa using this) (by simpa using z2)
  rcases he with ⟨c, he⟩ | he
  · exact run [] (fun _ z => by cases z) (ent_at at1 av (he a s1)) (.inl c)
  · exact run (A1 ++ A2 ++ F.M0) at1.m_trk (entS_at at1 av (he a s1)) (.inr fun _ z => z)
end
section
variable {X : Cx} {S : Type} {F : FC X.K S} {U W A : Type} {n k : Nat} {Ps : U → List Slot} {r : Rp W} {f : U → SM Unit W} {E : XK} {ta : TA} {G G' : S → List Slot} {LA : A → List Arg} {mA : SM S A} {CX : CXT} {fA : Addr} {fd : FuncData} {ps : List Str} {x : Str} {p pos : Pos} {e : Expr} {es : List Expr}
theorem ex_call {fm : A → SM Unit W} (u : A → U) (FO : FnOk X.prog X.w X.K X.mg X.base CX k fA fd ps (SpP X.K n Ps r f)) (hr : Room k X.A) (hg : Gl X x) (hm : X.mg x = some (.ref fA)) (hk : PySem.W.keepIn X.K (.ref fA) = true) (hb : Binds X.K fd ps []) (hx : Passes CX X E)
    (h : EA X F (e :: es) ta G G' LA mA) (hn : ∀ a, (LA a).length = n) (he : (r.Clo ∧ ∀ a s, Ent (G' s) (LA a) (Ps (u a))) ∨ ∀ a s, EntS (G' s) (LA a) (Ps (u a))) (hW : ∀ c d σ H, F.W c d σ H → E c d H) (hw : ∀ s, Weak (G' s) (F.io s))
    (hf : ∀ a, fm a = f (u a) := by intro _; rfl)
    (hst : PySem.W.isStarred e = false := by rfl) (hpl : (backTo pos (starEach es X.env)).any (·.1) = false := by rfl) (hdb : (x == ("__debug__" : Str)) = false := by decide) :
    EX X F (.Call (.Name x p) (e :: es) [] pos) (tCall (SpP X.K n Ps r f) [] E ta) G G' r (bnd mA fun a => lft (fm a)) :=
  ⟨pe_call FO hr hg hm hk hb .nil hx h.pa (hdb := hdb) (he := star1 hst) (hpl := hpl), go_call u hf h.go hn he hW hw⟩
end
end Td

set_option Elab.async false
set_option linter.all false
set_option maxRecDepth 100000
set_option maxHeartbeats 4000000
namespace Td
open PySem PySem.Spec PyProof.Rows L2

/-! ### a def's body -/
def runB {S R : Type} (m : SM S (Fl Empty Empty R)) : SM S R := bnd m fun fl => match fl with
  | .rt b => ret b
  | .nx n => n.elim
  | .bk l => l.elim
  | .ct l => l.elim
/-- a def that may come to its end: None -/
def runP {S : Type} (m : SM S (Fl Unit Empty Unit)) : SM S Unit := bnd m fun fl => match fl with
  | .rt b => ret b
  | .nx n => ret n
  | .bk l => l.elim
  | .ct l => l.elim
def uns (n : Nat) : List Slot := List.replicate n .un
section
variable {K : PySem.W.Frag} {S : Type}
theorem at_start {F : FC K S} {P : List Slot} {vs : List V} {H : Hp} {N : List Str} (h : At F [] [] P (vs.map some) H) : At F [] [] (P ++ uns (N.length - vs.length)) (start N vs) H := by
  obtain ⟨A1, A2, h⟩ := h
  have z : AtS K (A1 ++ A2 ++ F.M0) H (uns (N.length - vs.length)) (List.replicate (N.length - vs.length) none) [] := by
    have y := AtS.un (K := K) (H := H) (M := A1 ++ A2 ++ F.M0) (s := List.replicate (N.length - vs.length) (none : Option V))
    simpa [uns] using y
  have w := h.loc.append z
  rw [List.append_nil] at w
  exact ⟨A1, A2, h.tmp, w, h.good⟩
theorem AtS.uns_nil {M : List Addr} {H : Hp} : ∀ {n : Nat} {s : List (Option V)} {A : List Addr}, AtS K M H (uns n) s A → A = []
  | 0, _, _, h => by cases h; rfl
  | n + 1, _, _, h => by
    unfold uns at h
    rw [List.replicate_succ] at h
    cases h with
    | @cons _ _ B _ _ A h t =>
      rw [show B = [] from h, AtS.uns_nil (n := n) t]; rfl
theorem at_exit {F : FC K S} {T : List Slot} {t : List V} {n : Nat} {σ : L2.St} {H : Hp} (h : At F T t (uns n) σ H) : At F T t [] [] H := by
  obtain ⟨A1, A2, h⟩ := h
  have e := AtS.uns_nil h.loc
  subst e
  exact ⟨A1, [], h.tmp, .nil, h.good⟩
/-- the in/out thing in slot 0 becomes a temp, the slots go -/
theorem at_exitIo {F : FC K S} {g : Slot} {x v : V} {U : Type} {r : Rp U} {a : U} {n : Nat} {σ : L2.St} {H : Hp} (h : At F [g] [x] (.pn v r a :: uns n) σ H) : At F [g, .is r a] [x, v] [] [] H := by
  obtain ⟨A1, A2, h⟩ := h
  have hl := h.loc
  cases hl with
  | @cons _ y B _ s A hs ht =>
    obtain ⟨ey, hr⟩ := hs
    have e := AtS.uns_nil ht
    subst e
    obtain ⟨C, A', eA, h1, h2⟩ := AtS.cons_inv h.tmp
    cases h2
    subst eA
    have hM : ∀ p, p ∈ (C ++ (B ++ [])) ++ [] ++ F.M0 → p ∈ (C ++ []) ++ (B ++ []) ++ F.M0 ∨ H p = none := fun p hp => .inl (by simp only [List.append_nil, List.mem_append] at *; grind)
    exact ⟨C ++ (B ++ []), [], .cons (Slot.ok_grow h1 hM) (.cons ⟨v, rfl, r.grow hr hM⟩ .nil), .nil, h.good.sub (by simpa using h.good.nd) fun p hp => by simp only [List.append_nil, List.mem_append] at *; grind⟩
end
section
variable {P : Program} {w : World} {K : PySem.W.Frag} {mg : Str → Option Value} {base : Heap} {x qual : Str} {params : Arguments} {body : List Stmt} {scope : Scope} {f : Addr} {fd : FuncData} {N ps : List Str} {k : Nat}
/-- a def without an in/out argument: by its body -/
theorem fn_pure {U W : Type} {Ps : U → List Slot} {r : Rp W} {fm : U → SM Unit W} (FD : FunD K x qual params body scope [] [] f fd) (Sc : FnScope N ps scope) (out : U → SM Unit (Fl Empty Empty W)) (hfm : ∀ u, fm u = runB (out u))
    (hbody : ∀ (u : U) (cdv : Value) (A : Around) (outer : List Env) (s : Shared) (H : Hp) (E : XK), Room k (A.deeper (envOfC qual scope s.heap.objs.size f cdv)) →
      ∀ F : FC K Unit, F.io = (fun _ => uns N.length) → F.W = (fun c d _ H' => E c d H') → ∃ t, BX (cxOf (L2.CX P w) P w K mg base N qual scope f cdv A outer s H E) F body t (fun _ => Ps u ++ uns (N.length - ps.length)) (fun (e : Empty) _ => e.elim) (fun (e : Empty) _ => e.elim) r (out u)) :
    FnOk P w K mg base (L2.CX P w) (k + 1) f fd ps (SpP K ps.length Ps r fm) := by
  refine FD.ok Sc (fun vs H Q E h => ?_) (fun cdv A outer s H vs Q E hr h => ?_)
  · obtain ⟨u, _, _, _, h, _⟩ := h
    exact h
  · obtain ⟨u, s0, I, M0, hl, at0, q⟩ := h
    obtain ⟨t, hB⟩ := hbody u cdv A outer s H E hr ⟨H, I, M0, fun _ => uns N.length, fun c d _ H' => E c d H'⟩ rfl rfl
    refine ⟨t, hB.ps, hB.go [] [] (start N vs) s0 H _ ?_ ?_⟩
    · have z := at_start (N := N) at0
      rw [hl] at z
      exact z.re rfl rfl rfl
    · rw [hfm u] at q
      refine wp_mono (wp_bnd q) (fun fl s1 q1 => ?_) (fun e s1 q1 σ d v H' h1 hd => q1 d v H' ((at_exit h1).re rfl rfl rfl) hd)
      cases fl with
      | nx n => exact n.elim
      | bk n => exact n.elim
      | ct n => exact n.elim
      | rt b => exact fun v σ' H' h1 => q1 v H' ((at_exit h1).re rfl rfl rfl)
theorem fn_proc {U : Type} {Ps : U → List Slot} {fm : U → SM Unit Unit} (FD : FunD K x qual params body scope [] [] f fd) (Sc : FnScope N ps scope) (out : U → SM Unit (Fl Unit Empty Unit)) (hfm : ∀ u, fm u = runP (out u))
    (hbody : ∀ (u : U) (cdv : Value) (A : Around) (outer : List Env) (s : Shared) (H : Hp) (E : XK), Room k (A.deeper (envOfC qual scope s.heap.objs.size f cdv)) →
      ∀ F : FC K Unit, F.io = (fun _ => uns N.length) → F.W = (fun c d _ H' => E c d H') → ∃ t, BX (cxOf (L2.CX P w) P w K mg base N qual scope f cdv A outer s H E) F body t (fun _ => Ps u ++ uns (N.length - ps.length)) (fun (_ : Unit) _ => uns N.length) (fun (e : Empty) _ => e.elim) rNon (out u)) :
    FnOk P w K mg base (L2.CX P w) (k + 1) f fd ps (SpP K ps.length Ps rNon fm) := by
  refine FD.ok Sc (fun vs H Q E h => ?_) (fun cdv A outer s H vs Q E hr h => ?_)
  · obtain ⟨u, _, _, _, h, _⟩ := h
    exact h
  · obtain ⟨u, s0, I, M0, hl, at0, q⟩ := h
    obtain ⟨t, hB⟩ := hbody u cdv A outer s H E hr ⟨H, I, M0, fun _ => uns N.length, fun c d _ H' => E c d H'⟩ rfl rfl
    refine ⟨t, hB.ps, hB.go [] [] (start N vs) s0 H _ ?_ ?_⟩
    · have z := at_start (N := N) at0
      rw [hl] at z
      exact z.re rfl rfl rfl
    · rw [hfm u] at q
      refine wp_mono (wp_bnd q) (fun fl s1 q1 => ?_) (fun e s1 q1 σ d v H' h1 hd => q1 d v H' ((at_exit h1).re rfl rfl rfl) hd)
      cases fl with
      | nx n => exact fun σ' H' h1 => q1 .non H' ((At.push (r := rNon) (a := ()) (v := V.non) (at_exit h1) fun _ => ⟨rfl, rfl⟩).re rfl rfl rfl)
      | bk n => exact n.elim
      | ct n => exact n.elim
      | rt b => exact fun v σ' H' h1 => q1 v H' ((at_exit h1).re rfl rfl rfl)
/-- a def whose first argument is in/out -/
abbrev SpI (K : PySem.W.Frag) {S U W : Type} (n : Nat) (rio : Rp S) (Pr : U → List Slot) (r : Rp W) (f : U → SM S W) : Sp := SpG K n (fun u s vs => .pn (vs.headD .non) rio s :: Pr u) (fun s => [.is rio s]) (fun vs => [vs.headD .non]) r f
theorem fn_io {S U W : Type} {rio : Rp S} {Pr : U → List Slot} {r : Rp W} {fm : U → SM S W} (FD : FunD K x qual params body scope [] [] f fd) (Sc : FnScope N ps scope) (out : U → SM S (Fl Empty Empty W)) (hfm : ∀ u, fm u = runB (out u))
    (hbody : ∀ (u : U) (v0 : V) (cdv : Value) (A : Around) (outer : List Env) (s : Shared) (H : Hp) (E : XK), Room k (A.deeper (envOfC qual scope s.heap.objs.size f cdv)) →
      ∀ F : FC K S, F.io = (fun s => .pn v0 rio s :: uns (N.length - 1)) → F.W = (fun c d _ H' => E c d H') → ∃ t, BX (cxOf (L2.CX P w) P w K mg base N qual scope f cdv A outer s H E) F body t (fun s => .pn v0 rio s :: (Pr u ++ uns (N.length - ps.length))) (fun (e : Empty) _ => e.elim) (fun (e : Empty) _ => e.elim) r (out u)) :
    FnOk P w K mg base (L2.CX P w) (k + 1) f fd ps (SpI K ps.length rio Pr r fm) := by
  refine FD.ok Sc (fun vs H Q E h => ?_) (fun cdv A outer s H vs Q E hr h => ?_)
  · obtain ⟨u, _, _, _, h, _⟩ := h
    exact h
  · obtain ⟨u, s0, I, M0, hl, at0, q⟩ := h
    obtain ⟨t, hB⟩ := hbody u (vs.headD .non) cdv A outer s H E hr ⟨H, I, M0, fun s => .pn (vs.headD .non) rio s :: uns (N.length - 1), fun c d _ H' => E c d H'⟩ rfl rfl
    refine ⟨t, hB.ps, hB.go [] [] (start N vs) s0 H _ ?_ ?_⟩
    · have z := at_start (N := N) at0
      rw [hl] at z
      exact z.re rfl rfl rfl
    · rw [hfm u] at q
      refine wp_mono (wp_bnd q) (fun fl s1 q1 => ?_) (fun e s1 q1 σ d v H' h1 hd => q1 d v H' ((at_exitIo h1).re rfl rfl rfl) hd)
      cases fl with
      | nx n => exact n.elim
      | bk n => exact n.elim
      | ct n => exact n.elim
      | rt b => exact fun v σ' H' h1 => q1 v H' ((at_exitIo h1).re rfl rfl rfl)
end

/-! ### calls with an in/out argument -/
section
variable {K : PySem.W.Frag} {S : Type} {F : FC K S} {T : List Slot} {t : List V} {G : List Slot} {σ : L2.St} {H H' : Hp}
theorem At.backIo {U S' : Type} {r : Rp U} {b : U} {v w : V} {M0' A1 A2 P1 P2 C : List Addr} {j : Nat} {Sio : Type} {rio : Rp Sio} {s' : Sio} (h : AtP F T t G σ H A1 A2) (eA : A2 = P1 ++ (C ++ P2))
    (back : ∀ (M' : List Addr) (H' : Hp) (g' : Slot) (x' : Option V) (B' : List Addr), (∀ {g x B}, Slot.ok K (A1 ++ A2 ++ F.M0) H g x B → (∀ p, p ∈ B → p ∈ P1 ∨ p ∈ P2) → Slot.ok K M' H' g x B) → g'.ok K M' H' x' B' → AtS K M' H' (G.set j g') (σ.set j x') (P1 ++ (B' ++ P2)))
    (ew : σ[j]? = some (some w)) (tC : ∀ p, p ∈ C → ∃ o, H p = some o ∧ isTup o = false) (hx : At (FC.c (K := K) (S := S') H C M0') [.is r b, .is rio s'] [v, w] [] [] H') (cio : rio.Clo)
    (hM : r.Clo ∨ ∀ p, p ∈ A1 ++ (P1 ++ P2) ++ F.M0 → p ∈ M0') : At F (.is r b :: T) (v :: t) (G.set j (.pn w rio s')) σ H' := by
  obtain ⟨X1, X2, hx⟩ := hx
  obtain ⟨B, A', eX, ⟨v', ev, hr⟩, ht⟩ := AtS.cons_inv hx.tmp
  obtain ⟨D, A'', eA'', ⟨w', ew', hio⟩, ht2⟩ := AtS.cons_inv ht
  cases ev
  cases ew'
  cases ht2
  have e2 : X2 = [] := by
    have := hx.loc
    cases this; rfl
  subst e2 eX eA'' eA
  have gx := hx.good
  have nd := h.good.nd
  have nB : ∀ p, p ∈ B ++ D → H p = none ∨ p ∈ C := fun p hp => gx.new p (by simpa using hp)
  have st : ∀ p o, H p = some o → p ∉ C → H' p = some o := fun p o e hp => gx.stay p o e hp
  have ndB : (B ++ D).Nodup := by simpa using gx.nd
  have tr := h.m_trk
  have trn : ∀ p, p ∈ A1 ++ (P1 ++ (C ++ P2)) ++ F.M0 → H p ≠ none := fun p hp e => by
    obtain ⟨o, z, _⟩ := tr p hp
    rw [e] at z; cases z
  have ndC : ∀ p, p ∈ C → p ∉ A1 ∧ p ∉ P1 ∧ p ∉ P2 := fun p hp => by
    simp only [List.nodup_append, List.mem_append] at nd
    grind
  have outC : ∀ p, p ∈ C → p ∉ F.M0 := fun p hp => h.good.out p (by simp only [List.mem_append]; grind)
  have inBD : ∀ p, p ∈ B ++ D → p ∉ A1 ∧ p ∉ P1 ∧ p ∉ P2 ∧ p ∉ F.M0 := fun p hp => by
    rcases nB p hp with z | z
    · have q := fun y => trn p y z
      simp only [List.mem_append] at q
      grind
    · have q := ndC p z
      have q2 := outC p z
      grind
  have hU : ∀ x, x ∈ (A1 ++ (P1 ++ (C ++ P2)) ++ F.M0) ++ (B ++ D) → x ∈ A1 ++ (P1 ++ (C ++ P2)) ++ F.M0 ∨ H x = none := fun x hx => by
    rcases List.mem_append.mp hx with z | z
    · exact .inl z
    · rcases nB x z with y | y
      · exact .inr y
      · left; simp only [List.mem_append]; grind
  have hV : ∀ x, x ∈ (B ++ A1) ++ (P1 ++ (D ++ P2)) ++ F.M0 → x ∈ (A1 ++ (P1 ++ (C ++ P2)) ++ F.M0) ++ (B ++ D) ∨ H' x = none := fun x hx => .inl (by
    simp only [List.mem_append] at *
    grind)
  have kp : ∀ {B0 : List Addr}, (∀ p, p ∈ B0 → p ∈ A1 ∨ p ∈ P1 ∨ p ∈ P2) → ∀ p o, H p = some o → (p ∉ (A1 ++ (P1 ++ (C ++ P2)) ++ F.M0) ++ (B ++ D) ∨ p ∈ B0 ∨ isTup o = true) → H' p = some o := by
    intro B0 hB0 p o e hp
    by_cases hC : p ∈ C
    · exfalso
      obtain ⟨o', z, zt⟩ := tC p hC
      rw [e] at z
      cases z
      rcases hp with q | q | q
      · exact q (by simp only [List.mem_append]; grind)
      · have := hB0 p q
        have := ndC p hC
        grind
      · rw [zt] at q; cases q
    · exact st p o e hC
  refine ⟨B ++ A1, P1 ++ (D ++ P2), .cons ⟨v, rfl, ?_⟩ (((h.tmp.grow hU).keep (kp fun p hp => .inl hp)).grow hV), ?_, ?_⟩
  · rcases hM with c | hM
    · exact c hr
    · refine r.grow hr fun p hp => ?_
      show p ∈ (B ++ (D ++ [])) ++ [] ++ M0' ∨ _
      have z := hM p
      left
      simp only [List.mem_append] at *
      grind
  · have z := back ((B ++ A1) ++ (P1 ++ (D ++ P2)) ++ F.M0) H' (.pn w rio s') (some w) D (fun hs sub => Slot.ok_grow (Slot.ok_keep (Slot.ok_grow hs hU) (kp fun p hp => .inr (sub p hp))) hV) ⟨rfl, cio hio⟩
    rwa [set_self ew] at z
  · refine ⟨?_, fun p hp => ?_, fun p hp => ?_, fun p hp => ?_, fun p o e hI => ?_, h.good.m0⟩
    · simp only [List.nodup_append, List.mem_append] at *
      grind
    · have := h.good.out p
      have := inBD p
      simp only [List.mem_append] at *
      grind
    · by_cases hB : p ∈ B ++ D
      · rcases nB p hB with z | z
        · exact .inl (h.good.fresh z).1
        · exact h.good.new p (by simp only [List.mem_append]; grind)
      · exact h.good.new p (by simp only [List.mem_append] at *; grind)
    · obtain ⟨o, e, z⟩ := h.good.has p hp
      by_cases hC : p ∈ C
      · exact gx.has p hC
      · exact ⟨o, st p o e hC, z⟩
    · by_cases hC : p ∈ C
      · rcases h.good.new p (by simp only [List.mem_append]; grind) with z | z
        · rw [z] at e; cases e
        · exact absurd z hI
      · exact st p o (h.good.stay p o e hI) hC
/-- the reading of such a call: the first argument is the name in slot j -/
theorem go_callIo {U W A : Type} {n : Nat} {rio : Rp S} {Pr : U → List Slot} {r : Rp W} {f : U → SM S W} {fm : A → SM S W} {E : XK} {ta : TA} {G G' : S → List Slot} {LA : A → List Arg} {mA : SM S A} {w : V} (j : Nat) (u : A → U) (hf : ∀ a, fm a = f (u a)) (cio : rio.Clo) (h : GA F ta G G' (fun a => .v j :: LA a) mA) (hn : ∀ a, (LA a).length + 1 = n)
    (hG : ∀ s, (G' s)[j]? = some (.pn w rio s)) (hS : ∀ s s', (G' s).set j (.pn w rio s') = G' s')
    (he : ∀ a s, EntS (G' s) (LA a) (Pr (u a))) (hW : ∀ c d σ H, F.W c d σ H → E c d H) (hw : ∀ s, Weak (G' s) (F.io s)) :
    GE F (tCall (SpI K n rio Pr r f) [] E ta) G G' r (bnd mA fm) := by
  intro T t σ s H Q h0 q
  have ef : fm = fun a => f (u a) := funext hf
  subst ef
  refine h T t σ s H _ h0 (wp_mono (wp_bnd q) (fun a s1 q1 ts vs H1 at1 av => ?_) fun _ _ z => z)
  obtain ⟨A1, A2, at1⟩ := at1
  have lv : (vs ++ ([] : List V)).length = n := by rw [List.append_nil, (argV_len av).1, List.length_cons, hn]
  obtain ⟨v0, vr, evs, ev0, avr⟩ : ∃ v0 vr, vs = v0 :: vr ∧ σ[j]? = some (some v0) ∧ ArgV σ (LA a) ts vr := by
    cases av with
    | v e h => exact ⟨_, _, rfl, e, h⟩
  subst evs
  have at1' : AtP F ((tmps (LA a)).reverse ++ T) (ts.reverse ++ t) (G' s1) σ H1 A1 A2 := at1
  obtain ⟨x, C, P1, P2, ex, hC, eA, back⟩ := at1.loc.at_ (hG s1)
  rw [ev0] at ex
  cases ex
  obtain ⟨ew, hio⟩ := hC
  have ew' : v0 = w := Option.some.inj ew
  subst ew'
  have tC := rio.trk hio
  have nd := at1.good.nd
  have ndC : C.Nodup := by
    rw [eA] at nd
    simp only [List.nodup_append] at nd
    exact nd.2.1.2.1.1
  have tr := at1.m_trk
  have disC : ∀ p, p ∈ C → p ∉ A1 ++ (P1 ++ P2) ++ F.M0 := fun p hp z => by
    have out := at1.good.out p
    rw [eA] at nd out
    simp only [List.nodup_append, List.mem_append] at *
    grind
  have hent := entS_at at1' avr (he a s1)
  have entry : At (FC.c (K := K) (S := S) H1 C (A1 ++ (P1 ++ P2) ++ F.M0)) [] [] (.pn v0 rio s1 :: Pr (u a)) ((v0 :: vr).map some) H1 := by
    refine ⟨[], C ++ [], .nil, .cons ⟨rfl, cio hio⟩ (hent.grow fun p hp => .inl ?_), ⟨by simpa using ndC, fun p hp => disC p (by simpa using hp), fun p hp => .inr (show p ∈ C by simpa using hp), tC, fun _ _ e _ => e, fun p hp => ⟨tr p ?_, fun z => disC p z hp⟩⟩⟩
    · have hp' : p ∈ [] ++ (C ++ []) ++ (A1 ++ (P1 ++ P2) ++ F.M0) := hp
      rw [eA]
      simp only [List.mem_append, List.append_nil, List.nil_append] at *
      grind
    · have hp' : p ∈ A1 ++ (P1 ++ P2) ++ F.M0 := hp
      rw [eA]
      clear back at1 at1' h0 q q1
      simp only [List.mem_append] at *
      grind
  have hM : ∀ p, p ∈ A1 ++ (P1 ++ P2) ++ F.M0 → p ∈ A1 ++ (P1 ++ P2) ++ F.M0 := fun _ z => z
  show SpI K n rio Pr r f (v0 :: vr ++ []) H1 Q E
  rw [List.append_nil]
  rw [List.append_nil] at lv
  refine ⟨u a, s1, C, _, lv, entry, wp_mono q1 (fun b s2 q3 v H' hx => ?_) (fun e s2 q3 d v H' hx hd => ?_)⟩
  · have z := At.backIo at1' eA back ev0 tC hx cio (.inr hM)
    rw [hS] at z
    exact q3 v H' (At.dropU (by simp [(argV_len avr).2]) z)
  · have z := At.backIo at1' eA back ev0 tC hx cio (.inr hM)
    rw [hS] at z
    have z2 := (At.dropU (by simp [(argV_len avr).2]) z).weak (hw s2)
    refine hW _ _ σ _ (q3 d v H' ?_ hd)
    exact At.dropM (T0 := [_]) (t0 := [v]) (T := []) (t := []) rfl (T1 := T) (t1 := t) (by obtain ⟨B1, B2, hz⟩ := h0; have := hz.tmp.length; simpa using this) (by simpa using z2)
end
section
variable {X : Cx} {S : Type} {F : FC X.K S} {U W A : Type} {n k : Nat} {rio : Rp S} {Pr : U → List Slot} {r : Rp W} {f : U → SM S W} {E : XK} {ta : TA} {G G' : S → List Slot} {LA : A → List Arg} {mA : SM S A} {CX : CXT} {fa : Addr} {fd : FuncData} {ps : List Str} {x : Str} {p pos : Pos} {e : Expr} {es : List Expr} {w : V}
theorem ex_callIo {fm : A → SM S W} (j : Nat) (u : A → U) (FO : FnOk X.prog X.w X.K X.mg X.base CX k fa fd ps (SpI X.K n rio Pr r f)) (hr : Room k X.A) (hg : Gl X x) (hm : X.mg x = some (.ref fa)) (hk : PySem.W.keepIn X.K (.ref fa) = true) (hb : Binds X.K fd ps []) (hx : Passes CX X E)
    (cio : rio.Clo) (h : EA X F (e :: es) ta G G' (fun a => .v j :: LA a) mA) (hn : ∀ a, (LA a).length + 1 = n) (hG : ∀ s, (G' s)[j]? = some (.pn w rio s)) (hS : ∀ s s', (G' s).set j (.pn w rio s') = G' s')
    (he : ∀ a s, EntS (G' s) (LA a) (Pr (u a))) (hW : ∀ c d σ H, F.W c d σ H → E c d H) (hw : ∀ s, Weak (G' s) (F.io s))
    (hf : ∀ a, fm a = f (u a) := by intro _; rfl)
    (hst : PySem.W.isStarred e = false := by rfl) (hpl : (backTo pos (starEach es X.env)).any (·.1) = false := by rfl) (hdb : (x == ("__debug__" : Str)) = false := by decide) :
    EX X F (.Call (.Name x p) (e :: es) [] pos) (tCall (SpI X.K n rio Pr r f) [] E ta) G G' r (bnd mA fm) :=
  ⟨pe_call FO hr hg hm hk hb .nil hx h.pa (hdb := hdb) (he := star1 hst) (hpl := hpl), go_callIo j u hf cio h.go hn hG hS he hW hw⟩
end
end Td

set_option Elab.async false
set_option linter.all false
set_option maxRecDepth 100000
set_option maxHeartbeats 4000000
namespace Td
open PySem PySem.Spec PyProof.Rows L2

/-! ### what is walked -/
section
variable {X : Cx} {S : Type} {F : FC X.K S} {A : Type} {rx : Rp A} {tg e a b c : Expr} {te ta tb tc : TE} {G G1 G2 G3 G' : S → List Slot} {m : SM S (List A)} {mi m1 m2 m3 : SM S Int} {pos p0 : Pos}
theorem ei_sh (h : EX X F e te G G' (sh (rList rx)) m) (c : rx.Cp) : EI X F tg e (iList X.K te) G G' (fun _ => True) rx m :=
  ⟨pi_list h.pe, fun T t σ s H R h0 q => h.go T t σ s H _ h0 (wp_mono q (fun xs s1 q1 v H1 at1 => by
    obtain ⟨M, B, _, C, ⟨p, vs, D, ev, hp, hD, _⟩, _⟩ := top_rel at1
    subst ev
    exact ⟨p, rfl, ⟨vs, SqL.of hp⟩, q1 _ [_] [_] H1 (src_sh c) at1⟩) fun _ _ z => z)⟩
theorem ei_shS (h : EX X F e te G G' (sh (rList rx)) m) : EI X F tg e (iList X.K te) G G' (fun _ => True) (sh rx) m :=
  ⟨pi_list h.pe, fun T t σ s H R h0 q => h.go T t σ s H _ h0 (wp_mono q (fun xs s1 q1 v H1 at1 => by
    obtain ⟨M, B, _, C, ⟨p, vs, D, ev, hp, hD, _⟩, _⟩ := top_rel at1
    subst ev
    exact ⟨p, rfl, ⟨vs, SqL.of hp⟩, q1 _ [_] [_] H1 src_shS at1⟩) fun _ _ z => z)⟩
def rngG {S : Type} (j : Int) : SM S Unit := grd (-(2 ^ 62) ≤ j ∧ j < 2 ^ 62)
theorem ei_rng1 (h : EX X F a ta G G' rInt mi) (hg : Gl X "range") (hm : X.mg "range" = none) (hs : PySem.W.isStarred a = false := by rfl) :
    EI X F tg (.Call (.Name "range" p0) [a] [] pos) (iRng1 (tCons ta tNil)) G G' (fun _ => True) rInt (bnd mi fun j => bnd (rngG j) fun _ => ret (upto 0 j.toNat)) :=
  ⟨pi_range1 hg hm (pa_cons h.pe pa_nil (star1 hs)) (by first | (rw [star1 hs]; done) | (rw [star1 hs]; rfl)), fun T t σ s H R h0 q => h.go T t σ s H _ h0 (wp_mono (wp_bnd q) (fun j s1 q1 v H1 at1 => by
    obtain ⟨⟨h1, h2⟩, q1⟩ := wp_grd (wp_bnd q1)
    obtain ⟨M, B, k, _⟩ := top_rel at1
    exact ⟨j, by rw [k], h1, h2, q1 _ [] [] H1 src_rng at1.pop⟩) fun _ _ z => z)⟩
theorem ei_rng2 (h : EX X F a ta G G1 rInt m1) (h2 : EX X F b tb G1 G2 rInt m2) (hg : Gl X "range") (hm : X.mg "range" = none) (hs : PySem.W.isStarred a = false := by rfl) (hs2 : PySem.W.isStarred b = false := by rfl) :
    EI X F tg (.Call (.Name "range" p0) [a, b] [] pos) (iRng2 (tCons ta (tCons tb tNil))) G G2 (fun _ => True) rInt (bnd m1 fun i => bnd m2 fun j => bnd (rngG i) fun _ => bnd (rngG j) fun _ => ret (upto i (j - i).toNat)) :=
  ⟨pi_range2 hg hm (pa_cons h.pe (pa_cons h2.pe pa_nil (star1 hs2)) (star1 hs)) (by first | (rw [star1 hs, star1 hs2]; done) | (rw [star1 hs, star1 hs2]; rfl)) (by first | (rw [star1 hs2]; done) | (rw [star1 hs2]; rfl)), fun T t σ s H R h0 q => h.go T t σ s H _ h0 (wp_mono (wp_bnd q) (fun i s1 q1 v H1 at1 => by
    refine h2.go _ _ σ s1 H1 _ at1 (wp_mono (wp_bnd q1) (fun j s2 q2 w H2 at2 => ?_) fun _ _ z => z)
    obtain ⟨⟨h1, h2⟩, q2⟩ := wp_grd (wp_bnd q2)
    obtain ⟨⟨h3, h4⟩, q2⟩ := wp_grd (wp_bnd q2)
    obtain ⟨M1, B1, k1, _⟩ := snd_rel at2
    obtain ⟨M2, B2, k2, _⟩ := top_rel at2
    exact ⟨i, j, by rw [k1, k2], ⟨h1, h2, h3, h4⟩, q2 _ [] [] H2 src_rng at2.pop.pop⟩) fun _ _ z => z)⟩
/-- hi, hi - 1, .. above lo -/
def dnto (hi : Int) (n : Nat) : List Int := (List.range n).map fun (i : Nat) => hi + (i : Int) * (-1)
theorem dnto_len (lo : Int) (n : Nat) : (dnto lo n).length = n := by simp [dnto]
theorem dnto_get {lo : Int} {n i : Nat} {a : Int} (h : (dnto lo n)[i]? = some a) : a = lo + (i : Int) * (-1) := by
  unfold dnto at h
  rw [List.getElem?_map] at h
  cases e : (List.range n)[i]? with
  | none => rw [e] at h; cases h
  | some j =>
    rw [e] at h
    have e2 : j = i := by
      rw [List.getElem?_range] at e
      · cases e; rfl
      · have := (List.getElem?_eq_some_iff.mp e).1
        simpa using this
    subst e2
    exact (Option.some.inj h).symm
theorem src_dn {K : PySem.W.Frag} {F : FC K S} {lo : Int} {n : Nat} : Src F (fun _ => True) (Itc lo (-1) n) [] [] rInt (dnto lo n) where
  len := rfl
  go := fun _ _ _ hi => by rw [dnto_len] at hi; exact hi
  stop := fun _ _ _ hi => by rw [dnto_len] at hi; exact hi
  yld := by
    intro i a x T1 t1 T t G σ H H' _ e h hy ha
    obtain ⟨rfl, rfl⟩ := hy
    rw [dnto_get ha]
    exact At.push h fun _ => ⟨rfl, rfl⟩
theorem ei_rng3 {k : Nat} {p1 p2 : Pos} (h : EX X F a ta G G1 rInt m1) (h2 : EX X F b tb G1 G2 rInt m2) (hg : Gl X "range") (hm : X.mg "range" = none) (hs : PySem.W.isStarred a = false := by rfl) (hs2 : PySem.W.isStarred b = false := by rfl) :
    EI X F tg (.Call (.Name "range" p0) [a, b, .UnaryOp .USub (.Constant (.int 1) k p1) p2] [] pos) (iRng3 (tCons ta (tCons tb (tCons (tUn (rU fun i => .int (-i)) (tC (.int 1))) tNil)))) G G2 (fun _ => True) rInt (bnd m1 fun i => bnd m2 fun j => bnd (rngG i) fun _ => bnd (rngG j) fun _ => ret (dnto i (i - j).toNat)) :=
  ⟨pi_range3 hg hm (pa_cons h.pe (pa_cons h2.pe (pa_cons (pe_un un_neg pe_int) pa_nil) (star1 hs2)) (star1 hs)) (star1 hs) (by rw [star1 hs2]; rfl), fun T t σ s H R h0 q => h.go T t σ s H _ h0 (wp_mono (wp_bnd q) (fun i s1 q1 v H1 at1 => by
    refine h2.go _ _ σ s1 H1 _ at1 (wp_mono (wp_bnd q1) (fun j s2 q2 w H2 at2 => ?_) fun _ _ z => z)
    obtain ⟨⟨h1, h2⟩, q2⟩ := wp_grd (wp_bnd q2)
    obtain ⟨⟨h3, h4⟩, q2⟩ := wp_grd (wp_bnd q2)
    obtain ⟨M1, B1, k1, _⟩ := snd_rel at2
    obtain ⟨M2, B2, k2, _⟩ := top_rel at2
    exact ⟨1, rfl, i, j, -1, (i - j).toNat, by rw [k1, k2], RgC.neg h1 h2 h3 h4, q2 _ [] [] H2 src_dn at2.pop.pop⟩) fun _ _ z => z)⟩
end
section
variable {K : PySem.W.Frag} {S : Type} {F : FC K S} {A B : Type} {rx : Rp A} {ry : Rp B}
/-- (0, x), (1, y), .. -/
def enum {A : Type} (xs : List A) : List (Int × A) := xs.mapIdx fun i x => ((i : Int), x)
theorem enum_len {A : Type} (xs : List A) : (enum xs).length = xs.length := by simp [enum]
theorem enum_get {A : Type} {xs : List A} {i : Nat} {a : Int × A} (h : (enum xs)[i]? = some a) : a.1 = (i : Int) ∧ xs[i]? = some a.2 := by
  unfold enum at h
  rw [List.getElem?_mapIdx] at h
  cases e : xs[i]? with
  | none => rw [e] at h; cases h
  | some x => rw [e] at h; cases h; exact ⟨rfl, rfl⟩
theorem src_enum {a : Addr} {xs : List A} : Src F (fun _ => True) (Ite K a) [.is (sh (rList rx)) xs] [.ref a] (rPair rInt (sh rx)) (enum xs) where
  len := rfl
  go := by
    intro i T1 t1 T t G σ H _ e h hi
    rw [enum_len] at hi
    obtain ⟨A1, A2, h⟩ := h
    obtain ⟨B, v, ev, _, C, ⟨p, vs, A, ep, hp, hA, _⟩, _⟩ := held e h
    cases ev
    cases ep
    have hi' : i < vs.length := by rw [hA.length]; exact hi
    exact ⟨vs, vs[i], SqL.of hp, List.getElem?_eq_getElem hi'⟩
  stop := by
    intro i T1 t1 T t G σ H _ e h hi
    rw [enum_len] at hi
    obtain ⟨A1, A2, h⟩ := h
    obtain ⟨B, v, ev, _, C, ⟨p, vs, A, ep, hp, hA, _⟩, _⟩ := held e h
    cases ev
    cases ep
    exact ⟨vs, SqL.of hp, by rw [hA.length]; exact hi⟩
  yld := by
    intro i a x T1 t1 T t G σ H H' _ e h hy ha
    obtain ⟨ha1, ha2⟩ := enum_get ha
    obtain ⟨A1, A2, h⟩ := h
    obtain ⟨B, v, ev, _, C, ⟨p, vs, A, ep, hp, hA, eC⟩, hC⟩ := held e h
    cases ev
    cases ep
    obtain ⟨T, y, rfl, hT, rfl, hy⟩ := hy
    obtain ⟨w, D, e1, hr, sub⟩ := hA.get' ha2
    have e2 := hy vs (SqL.of hp)
    rw [e1] at e2
    cases e2
    have z1 := h.pushM (r := rInt) (a := a.1) (u := .int (i : Nat)) ⟨by rw [ha1], rfl⟩
    have z2 := z1.pushM (r := sh rx) (a := a.2) (u := y) ⟨rfl, D, hr, fun x hx => hC x (by rw [eC]; exact List.mem_cons_of_mem _ (sub x hx))⟩
    exact At.tup2 ⟨A1, A2, z2⟩ hT
theorem src_enumC {a : Addr} {xs : List A} (c : rx.Cp) : Src F (fun _ => True) (Ite K a) [.is (sh (rList rx)) xs] [.ref a] (rPair rInt rx) (enum xs) where
  len := rfl
  go := (src_enum (rx := rx) (xs := xs) (a := a)).go
  stop := (src_enum (rx := rx) (xs := xs) (a := a)).stop
  yld := by
    intro i a x T1 t1 T t G σ H H' _ e h hy ha
    obtain ⟨ha1, ha2⟩ := enum_get ha
    obtain ⟨A1, A2, h⟩ := h
    obtain ⟨B, v, ev, _, C, ⟨p, vs, A, ep, hp, hA, eC⟩, hC⟩ := held e h
    cases ev
    cases ep
    obtain ⟨T, y, rfl, hT, rfl, hy⟩ := hy
    obtain ⟨w, D, e1, hr, sub⟩ := hA.get' ha2
    have e2 := hy vs (SqL.of hp)
    rw [e1] at e2
    cases e2
    have eD := c hr
    subst eD
    have z1 := h.pushM (r := rInt) (a := a.1) (u := .int (i : Nat)) ⟨by rw [ha1], rfl⟩
    have z2 := z1.pushM (r := rx) (a := a.2) (u := y) hr
    exact At.tup2 ⟨A1, A2, z2⟩ hT
/-- two lists side by side -/
theorem zip_get {xs : List A} {ys : List B} {i : Nat} {a : A × B} (h : (xs.zip ys)[i]? = some a) : xs[i]? = some a.1 ∧ ys[i]? = some a.2 := by
  rw [List.getElem?_zip_eq_some] at h
  exact h
theorem src_zip {a b : Addr} {xs : List A} {ys : List B} : Src F (fun _ => True) (Itz K a b) [.is (sh (rList ry)) ys, .is (sh (rList rx)) xs] [.ref b, .ref a] (rPair (sh rx) (sh ry)) (xs.zip ys) where
  len := rfl
  go := by
    intro i T1 t1 T t G σ H _ e h hi
    rw [List.length_zip] at hi
    obtain ⟨A1, A2, h⟩ := h
    obtain ⟨_, v, ev, _, _, ⟨p, vs, _, ep, hp, hA, _⟩, _⟩ := held e h
    have h2 : AtP F ((T1 ++ [.is (sh (rList ry)) ys]) ++ ([.is (sh (rList rx)) xs] ++ T)) ((t1 ++ [.ref b]) ++ ([.ref a] ++ t)) G σ H A1 A2 := by simpa using h
    obtain ⟨_, v2, ev2, _, _, ⟨p2, vs2, _, ep2, hp2, hA2, _⟩, _⟩ := held (by simp [e]) h2
    cases ev
    cases ep
    cases ev2
    cases ep2
    have i1 : i < vs2.length := by rw [hA2.length]; omega
    have i2 : i < vs.length := by rw [hA.length]; omega
    exact ⟨vs2, vs, vs2[i], vs[i], SqL.of hp2, SqL.of hp, List.getElem?_eq_getElem i1, List.getElem?_eq_getElem i2⟩
  stop := by
    intro i T1 t1 T t G σ H _ e h hi
    rw [List.length_zip] at hi
    obtain ⟨A1, A2, h⟩ := h
    obtain ⟨_, v, ev, _, _, ⟨p, vs, _, ep, hp, hA, _⟩, _⟩ := held e h
    have h2 : AtP F ((T1 ++ [.is (sh (rList ry)) ys]) ++ ([.is (sh (rList rx)) xs] ++ T)) ((t1 ++ [.ref b]) ++ ([.ref a] ++ t)) G σ H A1 A2 := by simpa using h
    obtain ⟨_, v2, ev2, _, _, ⟨p2, vs2, _, ep2, hp2, hA2, _⟩, _⟩ := held (by simp [e]) h2
    cases ev
    cases ep
    cases ev2
    cases ep2
    exact ⟨vs2, vs, SqL.of hp2, SqL.of hp, by rw [hA2.length, hA.length]; omega⟩
  yld := by
    intro i c x T1 t1 T t G σ H H' _ e h hy ha
    obtain ⟨ha1, ha2⟩ := zip_get ha
    obtain ⟨A1, A2, h⟩ := h
    obtain ⟨_, v, ev, _, C, ⟨p, vs, _, ep, hp, hA, eC⟩, hC⟩ := held e h
    have h2 : AtP F ((T1 ++ [.is (sh (rList ry)) ys]) ++ ([.is (sh (rList rx)) xs] ++ T)) ((t1 ++ [.ref b]) ++ ([.ref a] ++ t)) G σ H A1 A2 := by simpa using h
    obtain ⟨_, v2, ev2, _, C2, ⟨p2, vs2, _, ep2, hp2, hA2, eC2⟩, hC2⟩ := held (by simp [e]) h2
    cases ev
    cases ep
    cases ev2
    cases ep2
    obtain ⟨T, y1, y2, rfl, hT, rfl, hy1, hy2⟩ := hy
    obtain ⟨w1, D1, e1, hr1, sub1⟩ := hA2.get' ha1
    obtain ⟨w2, D2, e2, hr2, sub2⟩ := hA.get' ha2
    have q1 := hy1 vs2 (SqL.of hp2)
    have q2 := hy2 vs (SqL.of hp)
    rw [e1] at q1
    rw [e2] at q2
    cases q1
    cases q2
    have z1 := h.pushM (r := sh rx) (a := c.1) (u := y1) ⟨rfl, D1, hr1, fun x hx => hC2 x (by rw [eC2]; exact List.mem_cons_of_mem _ (sub1 x hx))⟩
    have z2 := z1.pushM (r := sh ry) (a := c.2) (u := y2) ⟨rfl, D2, hr2, fun x hx => hC x (by rw [eC]; exact List.mem_cons_of_mem _ (sub2 x hx))⟩
    exact At.tup2 ⟨A1, A2, z2⟩ hT
end
section
variable {X : Cx} {S : Type} {F : FC X.K S} {A B : Type} {rx : Rp A} {ry : Rp B} {e a b : Expr} {elts : List Expr} {kk : Nat} {tpos : Pos} {te ta tb : TE} {G G1 G2 G' : S → List Slot} {m : SM S (List A)} {m2 : SM S (List B)} {pos p0 : Pos}
theorem ei_enum (h : EX X F e te G G' (sh (rList rx)) m) (c : rx.Cp) (hg : Gl X "enumerate") (hm : X.mg "enumerate" = none) (hs : PySem.W.isStarred e = false := by rfl) :
    EI X F (.Tuple elts kk tpos) (.Call (.Name "enumerate" p0) [e] [] pos) (iEnum X.K (tCons te tNil)) G G' (fun _ => True) (rPair rInt rx) (bnd m fun xs => ret (enum xs)) :=
  ⟨pi_enum hg hm (pa_cons h.pe pa_nil (star1 hs)) (by first | (rw [star1 hs]; done) | (rw [star1 hs]; rfl)), fun T t σ s H R h0 q => h.go T t σ s H _ h0 (wp_mono (wp_bnd q) (fun xs s1 q1 v H1 at1 => by
    obtain ⟨M, B, _, C, ⟨p, vs, D, ev, hp, hD, _⟩, _⟩ := top_rel at1
    subst ev
    exact ⟨p, vs, rfl, SqL.of hp, q1 _ [_] [_] H1 (src_enumC c) at1⟩) fun _ _ z => z)⟩
theorem ei_enumS (h : EX X F e te G G' (sh (rList rx)) m) (hg : Gl X "enumerate") (hm : X.mg "enumerate" = none) (hs : PySem.W.isStarred e = false := by rfl) :
    EI X F (.Tuple elts kk tpos) (.Call (.Name "enumerate" p0) [e] [] pos) (iEnum X.K (tCons te tNil)) G G' (fun _ => True) (rPair rInt (sh rx)) (bnd m fun xs => ret (enum xs)) :=
  ⟨pi_enum hg hm (pa_cons h.pe pa_nil (star1 hs)) (by first | (rw [star1 hs]; done) | (rw [star1 hs]; rfl)), fun T t σ s H R h0 q => h.go T t σ s H _ h0 (wp_mono (wp_bnd q) (fun xs s1 q1 v H1 at1 => by
    obtain ⟨M, B, _, C, ⟨p, vs, D, ev, hp, hD, _⟩, _⟩ := top_rel at1
    subst ev
    exact ⟨p, vs, rfl, SqL.of hp, q1 _ [_] [_] H1 src_enum at1⟩) fun _ _ z => z)⟩
theorem ei_zip (h : EX X F a ta G G1 (sh (rList rx)) m) (h2 : EX X F b tb G1 G2 (sh (rList ry)) m2) (hg : Gl X "zip") (hm : X.mg "zip" = none) (hs : PySem.W.isStarred a = false := by rfl) (hs2 : PySem.W.isStarred b = false := by rfl) :
    EI X F (.Tuple elts kk tpos) (.Call (.Name "zip" p0) [a, b] [] pos) (iZip X.K (tCons ta (tCons tb tNil))) G G2 (fun _ => True) (rPair (sh rx) (sh ry)) (bnd m fun xs => bnd m2 fun ys => ret (xs.zip ys)) :=
  ⟨pi_zip hg hm (pa_cons h.pe (pa_cons h2.pe pa_nil (star1 hs2)) (star1 hs)) (by first | (rw [star1 hs, star1 hs2]; done) | (rw [star1 hs, star1 hs2]; rfl)) (by first | (rw [star1 hs2]; done) | (rw [star1 hs2]; rfl)), fun T t σ s H R h0 q => h.go T t σ s H _ h0 (wp_mono (wp_bnd q) (fun xs s1 q1 v H1 at1 => by
    refine h2.go _ _ σ s1 H1 _ at1 (wp_mono (wp_bnd q1) (fun ys s2 q2 w H2 at2 => ?_) fun _ _ z => z)
    obtain ⟨M, B, _, C, ⟨p, vs, D, ev, hp, hD, _⟩, _⟩ := snd_rel at2
    obtain ⟨M', B', _, C', ⟨p', vs', D', ev', hp', hD', _⟩, _⟩ := top_rel at2
    subst ev
    subst ev'
    exact ⟨p, p', vs, vs', rfl, SqL.of hp, SqL.of hp', q2 _ [_, _] [_, _] H2 src_zip at2⟩) fun _ _ z => z)⟩
end

/-! ### comprehensions -/
def FC.nx {K : PySem.W.Frag} {S : Type} (F : FC K S) : FC K S := { F with W := fun _ _ _ _ => False }
/-- nothing is raised -/
def nxc {S T : Type} (m : SM S T) : SM S T := fun s => match m s with
  | .ok a s' => .ok a s'
  | .exc _ _ => .stuck
  | .stuck => .stuck
theorem wp_nxc {S T : Type} {m : SM S T} {s : S} {P : T → S → Prop} {E E' : Exn → S → Prop} (h : (nxc m s).wp P E) : (m s).wp P E' := by
  unfold nxc at h
  cases hm : m s with
  | ok a s' => rw [hm] at h; exact h
  | exc e s' => rw [hm] at h; exact h.elim
  | stuck => rw [hm] at h; exact h
def lcM {S A B : Type} (f : A → SM S (Option B)) : List B → List A → SM S (List B)
  | acc, [] => ret acc
  | acc, x :: xs => bnd (nxc (f x)) fun o => match o with
    | some b => bnd (grd (acc.length < sizeLine)) fun _ => lcM f (acc ++ [b]) xs
    | none => lcM f acc xs
/-- an item of a comprehension: the test, then the element -/
def lcIt {S B : Type} (mt : SM S Bool) (me : SM S B) : SM S (Option B) := bnd mt fun k => if k then bnd me fun b => ret (some b) else ret none
structure ETs (X : Cx) {S : Type} (F : FC X.K S) (ifs : List Expr) (tt : TT) (G G' : S → List Slot) (m : SM S Bool) : Prop where
  pt : PTs X ifs tt
  go : GT F tt G G' m
section
variable {X : Cx} {S : Type} {F : FC X.K S} {G G1 G2 : S → List Slot}
theorem ets_nil : ETs X F [] tYes G G (ret true) := ⟨pts_nil, fun T t σ s H Q h q => q H h⟩
theorem ets_one {c : Expr} {tc : TT} {m : SM S Bool} (h : ET X F c tc G G1 m) : ETs X F [c] tc G G1 m := ⟨pts_one h.pt, h.go⟩
theorem nx_at {K : PySem.W.Frag} {F : FC K S} {T : List Slot} {t : List V} {Gs : List Slot} {σ : L2.St} {H : Hp} (h : At F T t Gs σ H) : At F.nx T t Gs σ H := h.re rfl rfl rfl
theorem at_nx {K : PySem.W.Frag} {F : FC K S} {T : List Slot} {t : List V} {Gs : List Slot} {σ : L2.St} {H : Hp} (h : At F.nx T t Gs σ H) : At F T t Gs σ H := h.re rfl rfl rfl
theorem wipe_get {vs : List Nat} {σ : L2.St} {j : Nat} (h : j ∉ vs) : (wipe σ vs)[j]? = σ[j]? := by
  induction vs with
  | nil => rfl
  | cons v vs ih =>
    unfold wipe
    rw [List.getElem?_set_ne (by intro z; exact h (by simp [z]))]
    exact ih fun z => h (List.mem_cons_of_mem _ z)
theorem wipe_in {vs : List Nat} {σ : L2.St} {j : Nat} (h : j ∈ vs) : (wipe σ vs)[j]? = if j < σ.length then some none else none := by
  induction vs with
  | nil => cases h
  | cons v vs ih =>
    unfold wipe
    by_cases e : v = j
    · subst e
      rw [List.getElem?_set]
      simp [wipe_length]
    · rw [List.getElem?_set_ne e]
      rcases List.mem_cons.mp h with z | z
      · exact absurd z.symm e
      · exact ih z
theorem wipe_eq {vs ws : List Nat} {σ σ2 : L2.St} (hl : σ2.length = (wipe σ vs).length) (hk : ∀ j, j ∉ ws → σ2[j]? = (wipe σ vs)[j]?) (sub : ∀ j, j ∈ ws → j ∈ vs) : wipe σ2 vs = wipe σ vs := by
  apply List.ext_getElem?
  intro j
  by_cases h : j ∈ vs
  · rw [wipe_in h, wipe_in h, hl, wipe_length]
  · rw [wipe_get h, wipe_get h, hk j fun z => h (sub j z), wipe_get h]
/-- the slots of a comprehension's own names -/
def setUn (G : List Slot) : List Nat → List Slot
  | [] => G
  | v :: vs => (setUn G vs).set v .un
theorem AtS.wiped {K : PySem.W.Frag} {M : List Addr} {H : Hp} : ∀ {vs : List Nat} {G : List Slot} {s : L2.St} {A : List Addr}, AtS K M H G s A → (∀ v, v ∈ vs → G[v]? = some .un ∨ G[v]? = none) → AtS K M H G (wipe s vs) A
  | [], _, _, _, h, _ => h
  | v :: vs, G, s, A, h, hv => by
    have z := AtS.wiped (vs := vs) h fun v h => hv v (List.mem_cons_of_mem _ h)
    unfold wipe
    rcases hv v (List.mem_cons_self ..) with e | e
    · obtain ⟨x, B, A1, A2, e1, h1, eA, back⟩ := z.at_ e
      have y := back M H .un none [] (fun h _ => h) rfl
      rw [set_self e] at y
      have eB : B = [] := h1
      subst eB
      rw [eA]
      exact y
    · have hl := z.length
      rw [List.set_eq_of_length_le (by rw [hl]; exact List.getElem?_eq_none_iff.mp e)]
      exact z
theorem At.wiped {K : PySem.W.Frag} {F : FC K S} {T : List Slot} {t : List V} {Gs : List Slot} {σ : L2.St} {H : Hp} {vs : List Nat} (h : At F T t Gs σ H) (hv : ∀ v, v ∈ vs → Gs[v]? = some .un ∨ Gs[v]? = none) : At F T t Gs (wipe σ vs) H := by
  obtain ⟨A1, A2, h⟩ := h
  exact ⟨A1, A2, h.tmp, h.loc.wiped hv, h.good⟩
end
end Td

set_option Elab.async false
set_option linter.all false
set_option maxRecDepth 100000
set_option maxHeartbeats 4000000
namespace Td
open PySem PySem.Spec PyProof.Rows L2

theorem AtS.re {K : PySem.W.Frag} {M : List Addr} {H : Hp} {G : List Slot} {s : L2.St} {A : List Addr} (h : AtS K M H G s A) : ∀ {s' : L2.St}, s'.length = s.length → (∀ (j : Nat), G[j]? = some Slot.un ∨ s'[j]? = s[j]?) → AtS K M H G s' A := by
  induction h with
  | nil =>
    intro s' e _
    obtain rfl : s' = [] := List.eq_nil_of_length_eq_zero (by simpa using e)
    exact .nil
  | @cons g x B G s A h t ih =>
    intro s' e k
    cases s' with
    | nil => simp at e
    | cons y s' =>
      refine .cons ?_ (ih (by simpa using e) fun j => by simpa using k (j + 1))
      rcases k 0 with z | z
      · have eg : g = .un := by simpa using z
        subst eg
        exact h
      · have ey : y = x := by simpa using z
        rw [ey]; exact h
theorem At.reS {K : PySem.W.Frag} {S : Type} {F : FC K S} {T : List Slot} {t : List V} {G : List Slot} {σ σ' : L2.St} {H : Hp} (h : At F T t G σ H) (e : σ'.length = σ.length) (k : ∀ (j : Nat), G[j]? = some Slot.un ∨ σ'[j]? = σ[j]?) : At F T t G σ' H := by
  obtain ⟨A1, A2, h⟩ := h
  exact ⟨A1, A2, h.tmp, h.loc.re e k, h.good⟩

section
variable {X : Cx} {S : Type} {F : FC X.K S} {A B : Type} {rx : Rp A} {rb : Rp B} {tg e elt : Expr} {ifs : List Expr} {scope : Scope} {own : List (Str × Nat)} {wi : TI} {g : TG} {ws : List Nat} {tt : TT} {te : TE} {G G1 : S → List Slot} {C : List Slot → Prop} {mi : SM S (List A)} {Gt : S → A → List Slot} {mt : A → SM S Bool} {me : A → SM S B} {pos : Pos}
theorem go_lc (hi : GI F wi G G1 C rx mi) (hC : ∀ s, C (G1 s)) (hun : ∀ s v, v ∈ own.map (·.2) → (G1 s)[v]? = some .un ∨ (G1 s)[v]? = none) (sub : ∀ j, j ∈ ws → j ∈ own.map (·.2)) (hg : ∀ s, GG F.nx g ws rx (G1 s) (Gt s)) (hwk : ∀ s x, Weak (Gt s x) (G1 s))
    (ht : ∀ x, GT F.nx tt (fun s => Gt s x) (fun s => Gt s x) (mt x)) (he : ∀ x, GE F.nx te (fun s => Gt s x) (fun s => Gt s x) rb (me x)) : GE F (tLc wi g tt te (own.map (·.2))) G G1 (rList rb) (bnd mi fun xs => lcM (fun x => lcIt (mt x) (me x)) [] xs) := by
  intro T t σ s H Q h0 q
  refine hi T t σ s H _ h0 (wp_mono (wp_bnd q) (fun xs s1 q1 J gv hv H1 src at1 D hD => ?_) fun _ _ z => z)
  refine ⟨fun i m H => m = xs.length - i ∧ i ≤ xs.length ∧ ∃ s acc, At F (.is (rList rb) acc :: (gv ++ T)) (.ref D :: (hv ++ t)) (G1 s) σ H ∧
      (lcM (fun x => lcIt (mt x) (me x)) acc (xs.drop i) s).wp (fun a s' => ∀ v H', At F (.is (rList rb) a :: T) (v :: t) (G1 s') σ H' → Q v H') (XP F σ),
    ⟨xs.length, by simp, Nat.zero_le _, s1, [], At.lst (r := rb) (as := []) (vs := []) (by simpa [pend] using at1) rfl hD, by simpa using q1⟩, ?_⟩
  rintro i m H ⟨rfl, hi, s, acc, at2, q2⟩
  by_cases hlt : i < xs.length
  · refine .inr ⟨src.go (T1 := [_]) (t1 := [_]) (hC s) rfl at2 hlt, fun H' => ∃ s acc, At F (.is (rList rb) acc :: (gv ++ T)) (.ref D :: (hv ++ t)) (G1 s) σ H' ∧
      (lcM (fun x => lcIt (mt x) (me x)) acc (xs.drop (i + 1)) s).wp (fun a s' => ∀ v H', At F (.is (rList rb) a :: T) (v :: t) (G1 s') σ H' → Q v H') (XP F σ),
      fun H' ⟨s, acc, at3, q3⟩ => ⟨xs.length - (i + 1), by omega, rfl, hlt, s, acc, at3, q3⟩, fun x H' hy => ?_⟩
    have at3 := src.yld (T1 := [_]) (t1 := [_]) (hC s) rfl at2 hy (List.getElem?_eq_getElem hlt)
    refine hg s _ _ _ H' x xs[i] _ (nx_at (at3.wiped (hun s))) fun σ2 at4 l4 k4 => ?_
    refine ⟨wipe_eq l4 k4 sub, ?_⟩
    rw [List.drop_eq_getElem_cons hlt] at q2
    have back : ∀ {T' : List Slot} {t' : List V} {s' : S} {H3 : Hp}, At F.nx T' t' (Gt s' xs[i]) σ2 H3 → At F T' t' (G1 s') σ H3 := fun {T' t' s' H3} z => by
      have y := (at_nx z).weak (hwk s' xs[i])
      refine y.reS (by rw [l4, wipe_length]) fun j => ?_
      by_cases hj : j ∈ own.map (·.2)
      · rcases hun s' j hj with w | w
        · exact .inl w
        · right
          have hl : σ2.length ≤ j := by rw [y.len]; exact List.getElem?_eq_none_iff.mp w
          rw [List.getElem?_eq_none hl, List.getElem?_eq_none (by rw [l4, wipe_length] at hl; exact hl)]
      · right
        rw [k4 j fun w => hj (sub j w), wipe_get hj]
    have q3 := wp_nxc (E' := XP F.nx σ2) (wp_bnd q2)
    refine ht xs[i] _ _ σ2 s H' _ at4 (wp_mono (wp_bnd q3) (fun k s4 q4 H4 at5 => ?_) fun _ _ z => z)
    cases k with
    | true =>
      rw [if_pos rfl] at q4
      rw [if_pos rfl]
      refine he xs[i] _ _ σ2 s4 H4 _ at5 (wp_mono (wp_bnd q4) (fun b s5 q5 v H5 at6 => ?_) fun _ _ z => z)
      have at7 := back at6
      obtain ⟨hz, q6⟩ := wp_grd (wp_bnd (show (bnd (grd (acc.length < sizeLine)) (fun _ => lcM (fun x => lcIt (mt x) (me x)) (acc ++ [b]) (List.drop (i + 1) xs)) s5).wp _ _ from q5))
      obtain ⟨us, hDu, hl, at8⟩ := At.appendT at7
      exact ⟨us, hDu, by rw [hl]; exact hz, s5, acc ++ [b], at8, q6⟩
    | false =>
      rw [if_neg Bool.false_ne_true] at q4
      rw [if_neg Bool.false_ne_true]
      exact ⟨s4, acc, back at5, q4⟩
  · have e : i = xs.length := by omega
    subst e
    rw [List.drop_length] at q2
    refine .inl ⟨src.stop (T1 := [_]) (t1 := [_]) (hC s) rfl at2 (Nat.le_refl _), ?_⟩
    exact q2 _ H (At.dropU src.len at2)
theorem ex_lc (sh0 : Shared) (hc : X.calm = true) (hN : X.N.Nodup) (hi : EI X F tg e wi G G1 C rx mi) (hC : ∀ s, C (G1 s)) (ok : BlkOk X.N X.env.scope scope own) (hun : ∀ s v, v ∈ own.map (·.2) → (G1 s)[v]? = some .un ∨ (G1 s)[v]? = none) (sub : ∀ j, j ∈ ws → j ∈ own.map (·.2)) (hwk : ∀ s x, Weak (Gt s x) (G1 s))
    (hg : ∀ (s0 : Shared) (H : Hp) (D : Addr) (cl : List (Str × Addr)) (fp : List Addr) (s : S), EG (X.blk s0 H scope (compEnvC scope cl D X.env) fp) F.nx tg g ws rx (G1 s) (Gt s))
    (ht : ∀ (s0 : Shared) (H : Hp) (D : Addr) (cl : List (Str × Addr)) (fp : List Addr) (x : A), ETs (X.blk s0 H scope (compEnvC scope cl D X.env) fp) F.nx ifs tt (fun s => Gt s x) (fun s => Gt s x) (mt x))
    (he : ∀ (s0 : Shared) (H : Hp) (D : Addr) (cl : List (Str × Addr)) (fp : List Addr) (x : A), EX (X.blk s0 H scope (compEnvC scope cl D X.env) fp) F.nx elt te (fun s => Gt s x) (fun s => Gt s x) rb (me x)) (hA : Inhabited A) (hS : Inhabited S)
    (hs : ∀ x, foldedSetIterable e X.env x = pure x := by intro _; rfl) : EX X F (.ListComp elt [⟨tg, e, ifs, 0⟩] scope pos) (tLc wi g tt te (own.map (·.2))) G G1 (rList rb) (bnd mi fun xs => lcM (fun x => lcIt (mt x) (me x)) [] xs) :=
  ⟨pe_lc hc hN hi.pi ok (fun s0 H D cl fp => (hg s0 H D cl fp hS.default).pg) (fun s0 H D cl fp => (ht s0 H D cl fp hA.default).pt) (fun s0 H D cl fp => (he s0 H D cl fp hA.default).pe) hs,
    go_lc hi.go hC hun sub (fun s => (hg sh0 (fun _ => none) 0 [] [] s).go) hwk (fun x => (ht sh0 (fun _ => none) 0 [] [] x).go) (fun x => (he sh0 (fun _ => none) 0 [] [] x).go)⟩
end
end Td

set_option Elab.async false
set_option linter.all false
set_option maxRecDepth 100000
set_option maxHeartbeats 4000000
namespace Td
open PySem PySem.Spec PyProof.Rows L2

def tChain3 (q1 q2 q3 : R2) (ta tb tc td : TE) : TE := fun σ H Q => ta σ H fun x H1 => tb σ H1 fun y H2 => q1 x y H2 fun z H3 => ∃ k, z = .bl k ∧
      (if k = true then tc σ H3 fun w H4 => q2 y w H4 (fun z2 H5 => ∃ k2, z2 = .bl k2 ∧ (if k2 = true then td σ H5 fun u H6 => q3 w u H6 Q else Q (.bl false) H5)) else Q (.bl false) H3)
section
variable {X : Cx} {S : Type} {F : FC X.K S} {U W Z N L R : Type} {r r1 : Rp U} {r2 : Rp W} {r3 : Rp Z} {rr : Rp R} {e a b c d : Expr} {es : List Expr} {te ta tb tc td : TE} {G G1 G2 G3 G4 G' : S → List Slot} {GN : N → S → List Slot} {GL : L → S → List Slot} {m m1 : SM S U} {m2 : SM S W} {m3 : SM S Z} {pos p0 : Pos} {arg argU : U → Arg} {argW : W → Arg}
/-! ### what is never reached -/
theorem ex_no : EX X F e (fun _ _ _ => False) G G' r stk := ⟨⟨fun _ _ _ _ _ _ h => h.elim⟩, fun T t σ s H Q h q => q.elim⟩
theorem bx_no {sts : List Stmt} : BX X F sts (fun _ _ _ => False) G GN GL rr stk := ⟨⟨fun _ _ _ _ _ _ h => h.elim⟩, fun T t σ s H D h q => q.elim⟩
/-! ### truth -/
theorem et_truI {mi : SM S Int} (h : EX X F e te G G' rInt mi) (he : ∀ whole, isTrue e X.env whole = (do let v ← whole; standAt e.pos; holding [v] (truthy v)) := by intro _; rfl) :
    ET X F e (fun σ H Q => te σ H fun x H' => ∃ k, TruV X.K x H' k ∧ Q k H') G G' (bnd mi fun i => ret (i != 0)) :=
  ⟨pt_truth h.pe he, fun T t σ s H Q h0 q => h.go T t σ s H _ h0 (wp_mono (wp_bnd q) (fun i s1 q1 v H1 at1 => by
    obtain ⟨M, B, k⟩ := top_rel at1
    obtain ⟨ev, _⟩ := k
    subst ev
    exact ⟨i != 0, rfl, q1 H1 at1.pop⟩) fun _ _ z => z)⟩
theorem et_truL {xs : U → List Z} (h : EO X F e te G G' arg m) (hx : ∀ a s, Rdd (G' s) (arg a) (rList r3) (xs a)) (he : ∀ whole, isTrue e X.env whole = (do let v ← whole; standAt e.pos; holding [v] (truthy v)) := by intro _; rfl) :
    ET X F e (fun σ H Q => te σ H fun x H' => ∃ k, TruV X.K x H' k ∧ Q k H') G G' (bnd m fun a => ret (!(xs a).isEmpty)) :=
  ⟨pt_truth h.pe he, fun T t σ s H Q h0 q => h.go T t σ s H _ h0 (wp_mono (wp_bnd q) (fun a s1 q1 ts v H1 at1 av => by
    obtain ⟨A1, A2, at2⟩ := id at1
    obtain ⟨v', B, e1, p, vs, A, ev, hp, hA, eB⟩ := rddM (j := 0) at2 av rfl (hx a s1)
    cases e1
    subst ev
    refine ⟨_, .inl ⟨vs, SqL.of hp, rfl⟩, ?_⟩
    have el : vs.isEmpty = (xs a).isEmpty := by
      have := hA.length
      cases vs <;> cases hxa : xs a <;> simp_all
    rw [el]
    exact q1 H1 (at1.drops av)) fun _ _ z => z)⟩
/-! ### is None -/
/-- never None -/
def Rp.Nn {T : Type} (r : Rp T) : Prop := ∀ {K M H v a B}, r.rel K M H v a B → v ≠ .non
theorem nn_int : rInt.Nn := fun h => by rw [h.1]; intro z; cases z
theorem nn_bool : rBool.Nn := fun h => by rw [h.1]; intro z; cases z
theorem nn_str : rStr.Nn := fun h => by rw [h.1]; intro z; cases z
theorem nn_pair {T U : Type} {r : Rp T} {q : Rp U} : (rPair r q).Nn := by
  rintro K M H v a B ⟨p, v1, v2, B1, B2, e, _⟩
  rw [e]; intro z; cases z
theorem nn_tup3 {T U W : Type} {r : Rp T} {q : Rp U} {l : Rp W} : (rTup3 r q l).Nn := by
  rintro K M H v a B ⟨p, v1, v2, v3, B1, B2, B3, e, _⟩
  rw [e]; intro z; cases z
theorem nn_list {T : Type} {r : Rp T} : (rList r).Nn := by
  rintro K M H v a B ⟨p, vs, A, e, _⟩
  rw [e]; intro z; cases z
theorem nn_tupL {T : Type} {r : Rp T} : (rTupL r).Nn := by
  rintro K M H v a B ⟨p, vs, e, _⟩
  rw [e]; intro z; cases z
theorem nn_sh {T : Type} {r : Rp T} (n : r.Nn) : (sh r).Nn := by
  rintro K M H v a B ⟨_, A, h, _⟩
  exact n h
theorem opt_non {T : Type} {r : Rp T} (n : r.Nn) {K M H v a B} (h : (rOpt r).rel K M H v a B) : decide (v = .non) = a.isNone := by
  cases a with
  | none =>
    have e : v = .non := h.1
    rw [e]; rfl
  | some a => exact decide_eq_false (n h)
theorem go_isN {oa : U → Option W} (n : r2.Nn) (h : GO F te G G' arg m) (hx : ∀ a s, Rdd (G' s) (arg a) (rOpt r2) (oa a)) : GE F (tOp (fun x y H Q => y = .non ∧ Q (.bl (decide (x = .non))) H) te (tC .non)) G G' rBool (bnd m fun a => ret (oa a).isNone) := by
  intro T t σ s H Q h0 q
  refine h T t σ s H _ h0 (wp_mono (wp_bnd q) (fun a s1 q1 ts v H1 at1 av => ?_) fun _ _ z => z)
  obtain ⟨A1, A2, at2⟩ := id at1
  obtain ⟨v', B, e1, hr⟩ := rddM (j := 0) at2 av rfl (hx a s1)
  cases e1
  refine ⟨rfl, ?_⟩
  rw [opt_non n hr]
  exact q1 _ H1 (at2.fin av ⟨rfl, rfl⟩)
theorem go_notN {oa : U → Option W} (n : r2.Nn) (h : GO F te G G' arg m) (hx : ∀ a s, Rdd (G' s) (arg a) (rOpt r2) (oa a)) : GE F (tOp (fun x y H Q => y = .non ∧ Q (.bl (!decide (x = .non))) H) te (tC .non)) G G' rBool (bnd m fun a => ret (oa a).isSome) := by
  intro T t σ s H Q h0 q
  refine h T t σ s H _ h0 (wp_mono (wp_bnd q) (fun a s1 q1 ts v H1 at1 av => ?_) fun _ _ z => z)
  obtain ⟨A1, A2, at2⟩ := id at1
  obtain ⟨v', B, e1, hr⟩ := rddM (j := 0) at2 av rfl (hx a s1)
  cases e1
  refine ⟨rfl, ?_⟩
  rw [opt_non n hr, show (!(oa a).isNone) = (oa a).isSome by cases oa a <;> rfl]
  exact q1 _ H1 (at2.fin av ⟨rfl, rfl⟩)
theorem ex_isN {oa : U → Option W} {j : Nat} {p1 : Pos} (n : r2.Nn) (h : EO X F e te G G' arg m) (hx : ∀ a s, Rdd (G' s) (arg a) (rOpt r2) (oa a)) : EX X F (.Compare e [.Is] [.Constant .none j p1] pos) (tOp (fun x y H Q => y = .non ∧ Q (.bl (decide (x = .non))) H) te (tC .non)) G G' rBool (bnd m fun a => ret (oa a).isNone) :=
  ⟨pe_cmpR op_isN h.pe pe_non rfl, go_isN n h.go hx⟩
theorem ex_notN {oa : U → Option W} {j : Nat} {p1 : Pos} (n : r2.Nn) (h : EO X F e te G G' arg m) (hx : ∀ a s, Rdd (G' s) (arg a) (rOpt r2) (oa a)) : EX X F (.Compare e [.IsNot] [.Constant .none j p1] pos) (tOp (fun x y H Q => y = .non ∧ Q (.bl (!decide (x = .non))) H) te (tC .non)) G G' rBool (bnd m fun a => ret (oa a).isSome) :=
  ⟨pe_cmpR op_notN h.pe pe_non rfl, go_notN n h.go hx⟩
theorem et_isN {oa : U → Option W} {j : Nat} {p1 : Pos} (n : r2.Nn) (h : EO X F e te G G' arg m) (hx : ∀ a s, Rdd (G' s) (arg a) (rOpt r2) (oa a)) : ET X F (.Compare e [.Is] [.Constant .none j p1] pos) (tTest (tOp (fun x y H Q => y = .non ∧ Q (.bl (decide (x = .non))) H) te (tC .non))) G G' (bnd m fun a => ret (oa a).isNone) :=
  ⟨pt_cmpR op_isN h.pe pe_non rfl, go_test (go_isN n h.go hx)⟩
theorem et_notN {oa : U → Option W} {j : Nat} {p1 : Pos} (n : r2.Nn) (h : EO X F e te G G' arg m) (hx : ∀ a s, Rdd (G' s) (arg a) (rOpt r2) (oa a)) : ET X F (.Compare e [.IsNot] [.Constant .none j p1] pos) (tTest (tOp (fun x y H Q => y = .non ∧ Q (.bl (!decide (x = .non))) H) te (tC .non))) G G' (bnd m fun a => ret (oa a).isSome) :=
  ⟨pt_cmpR op_notN h.pe pe_non rfl, go_test (go_notN n h.go hx)⟩
/-- what is known not to be None -/
def optM {T : Type} (o : Option T) : SM S T := match o with
  | some a => ret a
  | none => stk
theorem wp_optM {T : Type} {o : Option T} {s : S} {P : T → S → Prop} {E : Exn → S → Prop} (h : (optM o s).wp P E) : ∃ a, o = some a ∧ P a s := by
  cases o with
  | none => exact h.elim
  | some a => exact ⟨a, rfl, h⟩
theorem ex_unopt {mo : SM S (Option U)} (h : EX X F e te G G' (rOpt r) mo) : EX X F e te G G' r (bnd mo fun o => optM o) := ⟨h.pe, fun T t σ s H Q h0 q => h.go T t σ s H Q h0 (wp_mono (wp_bnd q) (fun o s1 q1 v H1 at1 => by
    obtain ⟨a, e, q2⟩ := wp_optM q1
    subst e
    refine q2 v H1 ?_
    obtain ⟨A1, A2, at1⟩ := at1
    refine ⟨A1, A2, ?_, at1.loc, at1.good⟩
    obtain ⟨B, A', eA, ⟨v', ev, hr⟩, ht⟩ := AtS.cons_inv at1.tmp
    subst eA
    exact .cons ⟨v', ev, hr⟩ ht) fun _ _ z => z)⟩
theorem ex_unoptS {mo : SM S (Option U)} (h : EX X F e te G G' (sh (rOpt r)) mo) : EX X F e te G G' (sh r) (bnd mo fun o => optM o) := ⟨h.pe, fun T t σ s H Q h0 q => h.go T t σ s H Q h0 (wp_mono (wp_bnd q) (fun o s1 q1 v H1 at1 => by
    obtain ⟨a, e, q2⟩ := wp_optM q1
    subst e
    refine q2 v H1 ?_
    obtain ⟨A1, A2, at1⟩ := at1
    refine ⟨A1, A2, ?_, at1.loc, at1.good⟩
    obtain ⟨B, A', eA, ⟨v', ev, eB, C, hr, hC⟩, ht⟩ := AtS.cons_inv at1.tmp
    subst eA
    exact .cons ⟨v', ev, eB, C, hr, hC⟩ ht) fun _ _ z => z)⟩
theorem pe_chain3 {op op' op2 : CmpOp} {q1 q2 q3 : R2} (ho : OpR X (compareOp op) q1) (ho' : OpR X (compareOp op') q2) (ho2 : OpR X (compareOp op2) q3) (ha : PE X a ta) (hb : PE X b tb) (hc : PE X c tc) (hd : PE X d td)
    (hm : lastMarks [op, op', op2] [b, c, d] = false := by with_unfolding_all rfl) : PE X (.Compare a [op, op', op2] [b, c, d] pos) (tChain3 q1 q2 q3 ta tb tc td) := by
  refine ⟨fun pins s σ H Q I h => ?_⟩
  refine Compare_chain (thn (ha.run pins s σ H _ I h) fun v s1 ⟨x, H1, I1, r1, q1⟩ => chain_link (thn (hb.run pins s1 σ H1 _ I1 q1) fun u s2 ⟨y, H2, I2, r2, q2⟩ =>
    thn (ho pins s2 σ H2 x y v u _ I2 r1 r2 q2) fun d s3 ⟨z, H3, I3, r3, k, e, q3⟩ => ?_)) hm
  subst e
  cases r3
  refine wpAny_truthy_bool ?_
  cases k with
  | false => exact ite_ff ⟨.bl false, H3, I3, rfl, q3⟩
  | true =>
    refine ite_tt (chain_link (thn (hc.run pins s3 σ H3 _ I3 q3) fun w' s4 ⟨z', H4, I4, r4, q4⟩ => thn (ho' pins s4 σ H4 y z' u w' _ I4 r2 r4 q4) fun d2 s5 ⟨z2, H5, I5, r5, k2, e2, q5⟩ => ?_))
    subst e2
    cases r5
    refine wpAny_truthy_bool ?_
    cases k2 with
    | false => exact ite_ff ⟨.bl false, H5, I5, rfl, q5⟩
    | true => exact ite_tt (chain_last (thn (hd.run pins s5 σ H5 _ I5 q5) fun w2 s6 ⟨z3, H6, I6, r6, q6⟩ => ho2 pins s6 σ H6 z' z3 w' w2 Q I6 r4 r6 q6))
theorem pt_chain3 {op op' op2 : CmpOp} {q1 q2 q3 : R2} (ho : OpR X (compareOp op) q1) (ho' : OpR X (compareOp op') q2) (ho2 : OpR X (compareOp op2) q3) (ha : PE X a ta) (hb : PE X b tb) (hc : PE X c tc) (hd : PE X d td)
    (hm : lastMarks [op, op', op2] [b, c, d] = false := by with_unfolding_all rfl) : PT X (.Compare a [op, op', op2] [b, c, d] pos) (tTest (tChain3 q1 q2 q3 ta tb tc td)) := by
  refine ⟨fun pins s σ H Q I h => ?_⟩
  refine isTrue_chain (thn (ha.run pins s σ H _ I h) fun v s1 ⟨x, H1, I1, r1, q1⟩ => test_link (thn (hb.run pins s1 σ H1 _ I1 q1) fun u s2 ⟨y, H2, I2, r2, q2⟩ =>
    thn (ho pins s2 σ H2 x y v u _ I2 r1 r2 q2) fun d s3 ⟨z, H3, I3, r3, k, e, q3⟩ => ?_)) hm
  subst e
  cases r3
  refine wpAny_truthy_bool ?_
  cases k with
  | false =>
    obtain ⟨k', e', q'⟩ := q3
    cases e'
    exact ite_ff ⟨H3, I3, q'⟩
  | true =>
    refine ite_tt (test_link (thn (hc.run pins s3 σ H3 _ I3 q3) fun w' s4 ⟨z', H4, I4, r4, q4⟩ => thn (ho' pins s4 σ H4 y z' u w' _ I4 r2 r4 q4) fun d2 s5 ⟨z2, H5, I5, r5, k2, e2, q5⟩ => ?_))
    subst e2
    cases r5
    refine wpAny_truthy_bool ?_
    cases k2 with
    | false =>
      obtain ⟨k', e', q'⟩ := q5
      cases e'
      exact ite_ff ⟨H5, I5, q'⟩
    | true =>
      refine ite_tt (test_last (thn (hd.run pins s5 σ H5 _ I5 q5) fun w2 s6 ⟨z3, H6, I6, r6, q6⟩ => thn (ho2 pins s6 σ H6 z' z3 w' w2 _ I6 r4 r6 q6) fun d' s7 ⟨z4, H7, I7, r7, k4, e4, q7⟩ => ?_))
      subst e4
      cases r7
      exact wpAny_truthy_bool ⟨H7, I7, q7⟩
end
section
variable {X : Cx} {S : Type} {F : FC X.K S} {a b c d : Expr} {ta tb tc td : TE} {G G1 G2 G3 G4 : S → List Slot} {ma mb mc md : SM S Int} {pos : Pos} {q1 q2 q3 : R2} {f1 f2 f3 : Int → Int → Bool} {op op' op2 : CmpOp}
/-- a comparison of ints -/
def CmpI (X : Cx) (op : CmpOp) (rr : R2) (f : Int → Int → Bool) : Prop := OpR X (compareOp op) rr ∧ ∀ i j H Q, Q (.bl (f i j)) H → rr (.int i) (.int j) H Q
theorem ci_lt : CmpI X .Lt (rI0 fun i j => .bl (decide (i < j))) (fun i j => decide (i < j)) := ⟨op_lt, fun i j H Q q => ⟨i, j, rfl, rfl, q⟩⟩
theorem ci_le : CmpI X .LtE (rI0 fun i j => .bl (decide (i ≤ j))) (fun i j => decide (i ≤ j)) := ⟨op_le, fun i j H Q q => ⟨i, j, rfl, rfl, q⟩⟩
theorem ci_gt : CmpI X .Gt (rI0 fun i j => .bl (decide (j < i))) (fun i j => decide (j < i)) := ⟨op_gt, fun i j H Q q => ⟨i, j, rfl, rfl, q⟩⟩
theorem ci_ge : CmpI X .GtE (rI0 fun i j => .bl (decide (j ≤ i))) (fun i j => decide (j ≤ i)) := ⟨op_ge, fun i j H Q q => ⟨i, j, rfl, rfl, q⟩⟩
theorem go_chain2 (c1 : CmpI X op q1 f1) (c2 : CmpI X op' q2 f2) (h1 : GE F ta G G1 rInt ma) (h2 : GE F tb G1 G2 rInt mb) (h3 : GE F tc G2 G2 rInt mc) : GE F (tChain q1 q2 ta tb tc) G G2 rBool (bnd ma fun i => bnd mb fun j => if f1 i j then bnd mc fun k => ret (f2 j k) else ret false) := by
  intro T t σ s H Q h0 q
  refine h1 T t σ s H _ h0 (wp_mono (wp_bnd q) (fun i s1 q1 v H1 at1 => ?_) fun _ _ z => z)
  refine h2 _ _ σ s1 H1 _ at1 (wp_mono (wp_bnd q1) (fun j s2 q2 w H2 at2 => ?_) fun _ _ z => z)
  obtain ⟨_, _, k1⟩ := snd_rel at2
  obtain ⟨_, _, k2⟩ := top_rel at2
  obtain ⟨ev, _⟩ := k1
  obtain ⟨ew, _⟩ := k2
  subst ev ew
  refine c1.2 i j H2 _ ⟨_, rfl, ?_⟩
  cases hf : f1 i j with
  | false =>
    rw [hf] at q2
    exact q2 _ H2 (at2.pop.pop.push fun _ => ⟨rfl, rfl⟩)
  | true =>
    rw [hf] at q2
    refine h3 _ _ σ s2 H2 _ at2.pop.pop (wp_mono (wp_bnd q2) (fun k s3 q3 u H3 at3 => ?_) fun _ _ z => z)
    obtain ⟨_, _, k3⟩ := top_rel at3
    obtain ⟨eu, _⟩ := k3
    subst eu
    exact c2.2 j k H3 _ (q3 _ H3 (at3.pop.push fun _ => ⟨rfl, rfl⟩))
theorem ex_chain2 (c1 : CmpI X op q1 f1) (c2 : CmpI X op' q2 f2) (h1 : EX X F a ta G G1 rInt ma) (h2 : EX X F b tb G1 G2 rInt mb) (h3 : EX X F c tc G2 G2 rInt mc) (hm : lastMarks [op, op'] [b, c] = false := by with_unfolding_all rfl) :
    EX X F (.Compare a [op, op'] [b, c] pos) (tChain q1 q2 ta tb tc) G G2 rBool (bnd ma fun i => bnd mb fun j => if f1 i j then bnd mc fun k => ret (f2 j k) else ret false) := ⟨pe_chain c1.1 c2.1 h1.pe h2.pe h3.pe hm, go_chain2 c1 c2 h1.go h2.go h3.go⟩
theorem et_chain2 (c1 : CmpI X op q1 f1) (c2 : CmpI X op' q2 f2) (h1 : EX X F a ta G G1 rInt ma) (h2 : EX X F b tb G1 G2 rInt mb) (h3 : EX X F c tc G2 G2 rInt mc) (hm : lastMarks [op, op'] [b, c] = false := by with_unfolding_all rfl) :
    ET X F (.Compare a [op, op'] [b, c] pos) (tTest (tChain q1 q2 ta tb tc)) G G2 (bnd ma fun i => bnd mb fun j => if f1 i j then bnd mc fun k => ret (f2 j k) else ret false) := ⟨pt_chain c1.1 c2.1 h1.pe h2.pe h3.pe hm, go_test (go_chain2 c1 c2 h1.go h2.go h3.go)⟩
theorem go_chain3 (c1 : CmpI X op q1 f1) (c2 : CmpI X op' q2 f2) (c3 : CmpI X op2 q3 f3) (h1 : GE F ta G G1 rInt ma) (h2 : GE F tb G1 G2 rInt mb) (h3 : GE F tc G2 G2 rInt mc) (h4 : GE F td G2 G2 rInt md) : GE F (tChain3 q1 q2 q3 ta tb tc td) G G2 rBool (bnd ma fun i => bnd mb fun j => if f1 i j then bnd mc fun k => if f2 j k then bnd md fun l => ret (f3 k l) else ret false else ret false) := by
  intro T t σ s H Q h0 q
  refine h1 T t σ s H _ h0 (wp_mono (wp_bnd q) (fun i s1 q1 v H1 at1 => ?_) fun _ _ z => z)
  refine h2 _ _ σ s1 H1 _ at1 (wp_mono (wp_bnd q1) (fun j s2 q2 w H2 at2 => ?_) fun _ _ z => z)
  obtain ⟨_, _, k1⟩ := snd_rel at2
  obtain ⟨_, _, k2⟩ := top_rel at2
  obtain ⟨ev, _⟩ := k1
  obtain ⟨ew, _⟩ := k2
  subst ev ew
  refine c1.2 i j H2 _ ⟨_, rfl, ?_⟩
  cases hf : f1 i j with
  | false =>
    rw [hf] at q2
    exact q2 _ H2 (at2.pop.pop.push fun _ => ⟨rfl, rfl⟩)
  | true =>
    rw [hf] at q2
    refine h3 _ _ σ s2 H2 _ at2.pop.pop (wp_mono (wp_bnd q2) (fun k s3 q3 u H3 at3 => ?_) fun _ _ z => z)
    obtain ⟨_, _, k3⟩ := top_rel at3
    obtain ⟨eu, _⟩ := k3
    subst eu
    refine c2.2 j k H3 _ ⟨_, rfl, ?_⟩
    cases hf2 : f2 j k with
    | false =>
      rw [hf2] at q3
      exact q3 _ H3 (at3.pop.push fun _ => ⟨rfl, rfl⟩)
    | true =>
      rw [hf2] at q3
      refine h4 _ _ σ s3 H3 _ at3.pop (wp_mono (wp_bnd q3) (fun l s4 q4 x H4 at4 => ?_) fun _ _ z => z)
      obtain ⟨_, _, k4⟩ := top_rel at4
      obtain ⟨ex, _⟩ := k4
      subst ex
      exact c3.2 k l H4 _ (q4 _ H4 (at4.pop.push fun _ => ⟨rfl, rfl⟩))
theorem ex_chain3 (c1 : CmpI X op q1 f1) (c2 : CmpI X op' q2 f2) (c3 : CmpI X op2 q3 f3) (h1 : EX X F a ta G G1 rInt ma) (h2 : EX X F b tb G1 G2 rInt mb) (h3 : EX X F c tc G2 G2 rInt mc) (h4 : EX X F d td G2 G2 rInt md) (hm : lastMarks [op, op', op2] [b, c, d] = false := by with_unfolding_all rfl) :
    EX X F (.Compare a [op, op', op2] [b, c, d] pos) (tChain3 q1 q2 q3 ta tb tc td) G G2 rBool (bnd ma fun i => bnd mb fun j => if f1 i j then bnd mc fun k => if f2 j k then bnd md fun l => ret (f3 k l) else ret false else ret false) := ⟨pe_chain3 c1.1 c2.1 c3.1 h1.pe h2.pe h3.pe h4.pe hm, go_chain3 c1 c2 c3 h1.go h2.go h3.go h4.go⟩
theorem et_chain3 (c1 : CmpI X op q1 f1) (c2 : CmpI X op' q2 f2) (c3 : CmpI X op2 q3 f3) (h1 : EX X F a ta G G1 rInt ma) (h2 : EX X F b tb G1 G2 rInt mb) (h3 : EX X F c tc G2 G2 rInt mc) (h4 : EX X F d td G2 G2 rInt md) (hm : lastMarks [op, op', op2] [b, c, d] = false := by with_unfolding_all rfl) :
    ET X F (.Compare a [op, op', op2] [b, c, d] pos) (tTest (tChain3 q1 q2 q3 ta tb tc td)) G G2 (bnd ma fun i => bnd mb fun j => if f1 i j then bnd mc fun k => if f2 j k then bnd md fun l => ret (f3 k l) else ret false else ret false) := ⟨pt_chain3 c1.1 c2.1 c3.1 h1.pe h2.pe h3.pe h4.pe hm, go_test (go_chain3 c1 c2 c3 h1.go h2.go h3.go h4.go)⟩
end
/-! ### all, any, sum of lists -/
theorem all_pl {T : Type} {f : T → V} {K : PySem.W.Frag} {M : List Addr} {H : Hp} {vs : List V} {as : List T} {A : List Addr} (h : All3 ((rPl f).rel K M H) vs as A) : vs = as.map f := by
  induction h with
  | nil => rfl
  | cons h t ih => rw [h.1, ih]; rfl
section
variable {X : Cx} {S : Type} {F : FC X.K S} {U : Type} {e : Expr} {te : TE} {G G' : S → List Slot} {m : SM S U} {arg : U → Arg} {pos p0 : Pos}
theorem ex_all {xs : U → List Bool} (h : EO X F e te G G' arg m) (hx : ∀ a s, Rdd (G' s) (arg a) (rList rBool) (xs a)) (hc : X.calm = true) (hg : Gl X "all") (hm : X.mg "all" = none) (hs : PySem.W.isStarred e = false := by rfl) :
    EX X F (.Call (.Name "all" p0) [e] [] pos) (tCB (rAll X.K) (tCons te tNil)) G G' rBool (bnd m fun a => ret ((xs a).all id)) :=
  ex_callB1 (cr_all hc) hg hm (by decide) h (go_call1 h.go (fun _ => stl_ret _) fun a s T t ts v σ H Q A1 A2 at1 av q => by
    obtain ⟨v', B, e1, p, vs, A, ev, hp, hA, eB⟩ := rddM (j := 0) at1 av rfl (hx a s)
    cases e1
    have evs := all_pl hA
    subst evs
    exact ⟨p, xs a, by rw [ev], SqL.of hp, q.2 _ H (at1.fin av ⟨rfl, rfl⟩)⟩) hs
theorem ex_any {xs : U → List Bool} (h : EO X F e te G G' arg m) (hx : ∀ a s, Rdd (G' s) (arg a) (rList rBool) (xs a)) (hc : X.calm = true) (hg : Gl X "any") (hm : X.mg "any" = none) (hs : PySem.W.isStarred e = false := by rfl) :
    EX X F (.Call (.Name "any" p0) [e] [] pos) (tCB (rAny X.K) (tCons te tNil)) G G' rBool (bnd m fun a => ret ((xs a).any id)) :=
  ex_callB1 (cr_any hc) hg hm (by decide) h (go_call1 h.go (fun _ => stl_ret _) fun a s T t ts v σ H Q A1 A2 at1 av q => by
    obtain ⟨v', B, e1, p, vs, A, ev, hp, hA, eB⟩ := rddM (j := 0) at1 av rfl (hx a s)
    cases e1
    have evs := all_pl hA
    subst evs
    exact ⟨p, xs a, by rw [ev], SqL.of hp, q.2 _ H (at1.fin av ⟨rfl, rfl⟩)⟩) hs
theorem ex_sum {xs : U → List Int} (h : EO X F e te G G' arg m) (hx : ∀ a s, Rdd (G' s) (arg a) (rList rInt) (xs a)) (hc : X.calm = true) (hg : Gl X "sum") (hm : X.mg "sum" = none) (hs : PySem.W.isStarred e = false := by rfl) :
    EX X F (.Call (.Name "sum" p0) [e] [] pos) (tCB (rSum X.K) (tCons te tNil)) G G' rInt (bnd m fun a => ret (xs a).sum) :=
  ex_callB1 (cr_sum hc) hg hm (by decide) h (go_call1 h.go (fun _ => stl_ret _) fun a s T t ts v σ H Q A1 A2 at1 av q => by
    obtain ⟨v', B, e1, p, vs, A, ev, hp, hA, eB⟩ := rddM (j := 0) at1 av rfl (hx a s)
    cases e1
    have evs := all_pl hA
    subst evs
    exact ⟨p, xs a, by rw [ev], SqL.of hp, q.2 _ H (at1.fin av ⟨rfl, rfl⟩)⟩) hs
end
end Td

set_option Elab.async false
set_option linter.all false
set_option maxRecDepth 100000
set_option maxHeartbeats 4000000
namespace Td
open PySem PySem.Spec PyProof.Rows L2

section
variable {X : Cx} {S : Type} {F : FC X.K S} {U W Z N L R : Type} {r r1 : Rp U} {r2 : Rp W} {r3 : Rp Z} {a b : Expr} {ta tb : TE} {G G1 G2 G' : S → List Slot} {m1 : SM S U} {m2 : SM S W} {pos p0 : Pos} {argU : U → Arg} {argW : W → Arg}
/-- an operation on two operands, each a temp or a name -/
theorem go_op2 {rr : R2} {f : U → W → SM S Z} (h1 : GO F ta G G1 argU m1) (h2 : GO F tb G1 G2 argW m2) (hf : ∀ a b, Stl (f a b))
    (hv : ∀ (a : U) (b : W) (s : S) (T : List Slot) (t ts : List V) (x y : V) (σ : L2.St) (H : Hp) (Q : VK) (A1 A2 : List Addr), AtP F ((tmps [argU a, argW b]).reverse ++ T) (ts.reverse ++ t) (G2 s) σ H A1 A2 → ArgV σ [argU a, argW b] ts [x, y] →
      (f a b s).wp (fun c s' => s' = s ∧ ∀ u H', At F (.is r3 c :: T) (u :: t) (G2 s) σ H' → Q u H') (fun _ _ => True) → rr x y H Q) : GE F (tOp rr ta tb) G G2 r3 (bnd m1 fun a => bnd m2 fun b => f a b) := by
  intro T t σ s H Q h0 q
  refine h1 T t σ s H _ h0 (wp_mono (wp_bnd q) (fun a s1 q1 ts x H1 at1 av1 => ?_) fun _ _ z => z)
  refine h2 _ _ σ s1 H1 _ at1 (wp_mono (wp_bnd q1) (fun b s2 q2 us y H2 at2 av2 => ?_) fun _ _ z => z)
  obtain ⟨A1, A2, at2⟩ := at2
  refine hv a b s2 T t (ts ++ us) x y σ H2 Q A1 A2 ?_ (argV_cons av1 av2) (wp_mono ((hf a b).wp (E' := fun _ _ => True) q2) (fun c s3 q3 => ?_) fun _ _ _ => trivial)
  · rw [tmps_cons]
    simpa using at2
  · obtain ⟨e, q3⟩ := q3
    subst e
    exact ⟨rfl, q3⟩
/-! ### data: == and != and repr -/
def Enc {T : Type} (r : Rp T) (f : T → PyData) : Prop := ∀ {K M H v a B}, r.rel K M H v a B → Dp K H v (f a)
theorem enc_int : Enc rInt .int := fun h => by rw [h.1]; exact .int _
theorem enc_bool : Enc rBool .bool := fun h => by rw [h.1]; exact .bl _
theorem enc_str : Enc rStr .str := fun h => by rw [h.1]; exact .str _
theorem enc_non : Enc rNon (fun _ => .none) := fun h => by rw [h.1]; exact .non
theorem enc_pair {T U : Type} {r : Rp T} {q : Rp U} {f : T → PyData} {g : U → PyData} (h1 : Enc r f) (h2 : Enc q g) : Enc (rPair r q) (fun p => .tuple [f p.1, g p.2]) := by
  rintro K M H v a B ⟨p, v1, v2, B1, B2, e, hT, k1, k2, _⟩
  rw [e]
  exact .tup hT (.cons (h1 k1) (.cons (h2 k2) .nil))
theorem enc_tup3 {T U W : Type} {r : Rp T} {q : Rp U} {l : Rp W} {f : T → PyData} {g : U → PyData} {k : W → PyData} (h1 : Enc r f) (h2 : Enc q g) (h3 : Enc l k) : Enc (rTup3 r q l) (fun p => .tuple [f p.1, g p.2.1, k p.2.2]) := by
  rintro K M H v a B ⟨p, v1, v2, v3, B1, B2, B3, e, hT, k1, k2, k3, _⟩
  rw [e]
  exact .tup hT (.cons (h1 k1) (.cons (h2 k2) (.cons (h3 k3) .nil)))
theorem enc_opt {T : Type} {r : Rp T} {f : T → PyData} (h1 : Enc r f) : Enc (rOpt r) (fun o => match o with | none => .none | some a => f a) := by
  intro K M H v a B h
  cases a with
  | none =>
    have e : v = .non := h.1
    rw [e]; exact .non
  | some a => exact h1 h
theorem enc_all {T : Type} {K : PySem.W.Frag} {R : V → T → List Addr → Prop} {H : Hp} {f : T → PyData} (h : ∀ v a B, R v a B → Dp K H v (f a)) : ∀ {vs : List V} {as : List T} {A : List Addr}, All3 R vs as A → DpAll K H vs (as.map f)
  | _, _, _, .nil => .nil
  | _, _, _, .cons k t => .cons (h _ _ _ k) (enc_all h t)
theorem enc_list {T : Type} {r : Rp T} {f : T → PyData} (h1 : Enc r f) : Enc (rList r) (fun xs => .list (xs.map f)) := by
  rintro K M H v a B ⟨p, vs, A, e, hp, hA, _⟩
  rw [e]
  exact .lst (SqL.of hp) (enc_all (fun _ _ _ k => h1 k) hA)
theorem enc_tupL {T : Type} {r : Rp T} {f : T → PyData} (h1 : Enc r f) : Enc (rTupL r) (fun xs => .tuple (xs.map f)) := by
  rintro K M H v a B ⟨p, vs, e, hp, hA⟩
  rw [e]
  exact .tup hp (enc_all (fun _ _ _ k => h1 k) hA)
theorem enc_sh {T : Type} {r : Rp T} {f : T → PyData} (h1 : Enc r f) : Enc (sh r) f := by
  rintro K M H v a B ⟨_, A, h, _⟩
  exact h1 h
def eqD (x y : PyData) : SM S Bool := bnd (grd (SeqAt.shaped x = true ∧ SeqAt.shaped y = true)) fun _ => ret (PyData.eqv x y)
def neD (x y : PyData) : SM S Bool := bnd (grd (SeqAt.shaped x = true ∧ SeqAt.shaped y = true)) fun _ => ret (!PyData.eqv x y)
theorem stl_eqD (x y : PyData) : Stl (eqD x y : SM S Bool) := stl_bnd stl_grd fun _ => stl_ret _
theorem stl_neD (x y : PyData) : Stl (neD x y : SM S Bool) := stl_bnd stl_grd fun _ => stl_ret _
/-- an operand read as data -/
inductive RdE (G : List Slot) (arg : Arg) : PyData → Prop
  | mk {T : Type} {r : Rp T} {f : T → PyData} {x : T} (e : Enc r f) (h : Rdd G arg r x) : RdE G arg (f x)
theorem rdE {K : PySem.W.Frag} {F : FC K S} {T : List Slot} {t ts vs : List V} {G : List Slot} {σ : L2.St} {H : Hp} {L : List Arg} {j : Nat} {arg : Arg} {d : PyData} {A1 A2 : List Addr} (h : AtP F ((tmps L).reverse ++ T) (ts.reverse ++ t) G σ H A1 A2) (av : ArgV σ L ts vs) (e : L[j]? = some arg) (rd : RdE G arg d) : ∃ v, vs[j]? = some v ∧ Dp K H v d := by
  obtain ⟨en, hr⟩ := rd
  obtain ⟨v, B, ev, k⟩ := rddM h av e hr
  exact ⟨v, ev, en k⟩
section
variable {da : U → PyData} {db : W → PyData}
theorem go_eqD (h1 : GO F ta G G1 argU m1) (h2 : GO F tb G1 G2 argW m2) (x1 : ∀ a s, RdE (G2 s) (argU a) (da a)) (x2 : ∀ a s, RdE (G2 s) (argW a) (db a)) :
    GE F (tOp (rEqD X.K) ta tb) G G2 rBool (bnd m1 fun a => bnd m2 fun b => eqD (da a) (db b)) :=
  go_op2 h1 h2 (fun _ _ => stl_eqD _ _) fun a b s T t ts x y σ H Q A1 A2 at1 av q => by
    obtain ⟨v, ev, k1⟩ := rdE (j := 0) at1 av rfl (x1 a s)
    obtain ⟨w, ew, k2⟩ := rdE (j := 1) at1 av rfl (x2 b s)
    cases ev; cases ew
    obtain ⟨⟨s1, s2⟩, q⟩ := wp_grd (wp_bnd q)
    exact ⟨_, _, k1, k2, s1, s2, q.2 _ H (at1.fin av ⟨rfl, rfl⟩)⟩
theorem go_neD (h1 : GO F ta G G1 argU m1) (h2 : GO F tb G1 G2 argW m2) (x1 : ∀ a s, RdE (G2 s) (argU a) (da a)) (x2 : ∀ a s, RdE (G2 s) (argW a) (db a)) :
    GE F (tOp (rNeD X.K) ta tb) G G2 rBool (bnd m1 fun a => bnd m2 fun b => neD (da a) (db b)) :=
  go_op2 h1 h2 (fun _ _ => stl_neD _ _) fun a b s T t ts x y σ H Q A1 A2 at1 av q => by
    obtain ⟨v, ev, k1⟩ := rdE (j := 0) at1 av rfl (x1 a s)
    obtain ⟨w, ew, k2⟩ := rdE (j := 1) at1 av rfl (x2 b s)
    cases ev; cases ew
    obtain ⟨⟨s1, s2⟩, q⟩ := wp_grd (wp_bnd q)
    exact ⟨_, _, k1, k2, s1, s2, q.2 _ H (at1.fin av ⟨rfl, rfl⟩)⟩
variable (hu : X.A.units + 64 < cLine)
include hu
theorem ex_eqD (h1 : EO X F a ta G G1 argU m1) (h2 : EO X F b tb G1 G2 argW m2) (x1 : ∀ a s, RdE (G2 s) (argU a) (da a)) (x2 : ∀ a s, RdE (G2 s) (argW a) (db a)) (hm : behindInMarks .Eq b = false := by rfl) :
    EX X F (.Compare a [.Eq] [b] pos) (tOp (rEqD X.K) ta tb) G G2 rBool (bnd m1 fun a => bnd m2 fun b => eqD (da a) (db b)) := ⟨pe_cmpR (op_eqD hu) h1.pe h2.pe hm, go_eqD h1.go h2.go x1 x2⟩
theorem ex_neD (h1 : EO X F a ta G G1 argU m1) (h2 : EO X F b tb G1 G2 argW m2) (x1 : ∀ a s, RdE (G2 s) (argU a) (da a)) (x2 : ∀ a s, RdE (G2 s) (argW a) (db a)) (hm : behindInMarks .NotEq b = false := by rfl) :
    EX X F (.Compare a [.NotEq] [b] pos) (tOp (rNeD X.K) ta tb) G G2 rBool (bnd m1 fun a => bnd m2 fun b => neD (da a) (db b)) := ⟨pe_cmpR (op_neD hu) h1.pe h2.pe hm, go_neD h1.go h2.go x1 x2⟩
theorem et_eqD (h1 : EO X F a ta G G1 argU m1) (h2 : EO X F b tb G1 G2 argW m2) (x1 : ∀ a s, RdE (G2 s) (argU a) (da a)) (x2 : ∀ a s, RdE (G2 s) (argW a) (db a)) (hm : behindInMarks .Eq b = false := by rfl) :
    ET X F (.Compare a [.Eq] [b] pos) (tTest (tOp (rEqD X.K) ta tb)) G G2 (bnd m1 fun a => bnd m2 fun b => eqD (da a) (db b)) := ⟨pt_cmpR (op_eqD hu) h1.pe h2.pe hm, go_test (go_eqD h1.go h2.go x1 x2)⟩
theorem et_neD (h1 : EO X F a ta G G1 argU m1) (h2 : EO X F b tb G1 G2 argW m2) (x1 : ∀ a s, RdE (G2 s) (argU a) (da a)) (x2 : ∀ a s, RdE (G2 s) (argW a) (db a)) (hm : behindInMarks .NotEq b = false := by rfl) :
    ET X F (.Compare a [.NotEq] [b] pos) (tTest (tOp (rNeD X.K) ta tb)) G G2 (bnd m1 fun a => bnd m2 fun b => neD (da a) (db b)) := ⟨pt_cmpR (op_neD hu) h1.pe h2.pe hm, go_test (go_neD h1.go h2.go x1 x2)⟩
end
/-! ### items, list + list -/
/-- xs[i] -/
theorem ex_ix {xs : U → List Z} {mi : SM S Int} (h1 : EO X F a ta G G1 argU m1) (h2 : EX X F b tb G1 G2 rInt mi) (c : r3.Cp) (hx : ∀ a s, Rdd (G2 s) (argU a) (rList r3) (xs a)) (hs : PlainIx b := by exact fun _ _ => rfl) :
    EX X F (.Subscript a b pos) (tOp (rIxL X.K) ta tb) G G2 r3 (bnd m1 fun a => bnd mi fun i => ixM (xs a) i) :=
  ⟨pe_ix ix_list h1.pe h2.pe hs, go_op2 h1.go (eo_t h2).go (fun _ _ => stl_ixM _ _) fun a i s T t ts x y σ H Q A1 A2 at1 av q => by
    obtain ⟨v, B, e1, p, vs, A, ev, hp, hA, eB⟩ := rddM (j := 0) at1 av rfl (hx a s)
    obtain ⟨w, B', e2, ew, _⟩ := rddM (j := 1) at1 av rfl .t
    cases e1; cases e2
    obtain ⟨z, ez, _, q⟩ := wp_ixM q
    obtain ⟨u, Bu, e3, hr, _⟩ := atI_all (K := X.K) hA ez
    have eBu := c hr
    subst eBu
    exact ⟨p, vs, i, u, ev, ew, SqL.of hp, e3, q u H (at1.fin av hr)⟩⟩
theorem ex_ixS {xs : U → List Z} {mi : SM S Int} (h1 : EO X F a ta G G1 argU m1) (h2 : EX X F b tb G1 G2 rInt mi) (hx : ∀ a s, RdS (G2 s) (argU a) (rList r3) (xs a)) (hs : PlainIx b := by exact fun _ _ => rfl) :
    EX X F (.Subscript a b pos) (tOp (rIxL X.K) ta tb) G G2 (sh r3) (bnd m1 fun a => bnd mi fun i => ixM (xs a) i) :=
  ⟨pe_ix ix_list h1.pe h2.pe hs, go_op2 h1.go (eo_t h2).go (fun _ _ => stl_ixM _ _) fun a i s T t ts x y σ H Q A1 A2 at1 av q => by
    obtain ⟨v, e1, _, C, ⟨p, vs, A, ev, hp, hA, eC⟩, hC⟩ := rdS (j := 0) at1 av rfl (hx a s)
    obtain ⟨w, B', e2, ew, _⟩ := rddM (j := 1) at1 av rfl .t
    cases e1; cases e2
    obtain ⟨z, ez, _, q⟩ := wp_ixM q
    obtain ⟨u, Bu, e3, hr, sub⟩ := atI_all (K := X.K) hA ez
    exact ⟨p, vs, i, u, ev, ew, SqL.of hp, e3, q u H (at1.fin (r := sh r3) av ⟨rfl, Bu, hr, fun x hx => hC x (by rw [eC]; exact List.mem_cons_of_mem _ (sub x hx))⟩)⟩⟩
/-- t[i] of a tuple of many -/
theorem ex_ixT {xs : U → List Z} {mi : SM S Int} (h1 : EO X F a ta G G1 argU m1) (h2 : EX X F b tb G1 G2 rInt mi) (c : r3.Cp) (hx : ∀ a s, Rdd (G2 s) (argU a) (rTupL r3) (xs a)) (hs : PlainIx b := by exact fun _ _ => rfl) :
    EX X F (.Subscript a b pos) (tOp (rIxT X.K) ta tb) G G2 r3 (bnd m1 fun a => bnd mi fun i => ixM (xs a) i) :=
  ⟨pe_ix ix_tup h1.pe h2.pe hs, go_op2 h1.go (eo_t h2).go (fun _ _ => stl_ixM _ _) fun a i s T t ts x y σ H Q A1 A2 at1 av q => by
    obtain ⟨v, B, e1, p, vs, ev, hp, hA⟩ := rddM (j := 0) at1 av rfl (hx a s)
    obtain ⟨w, B', e2, ew, _⟩ := rddM (j := 1) at1 av rfl .t
    cases e1; cases e2
    obtain ⟨z, ez, _, q⟩ := wp_ixM q
    obtain ⟨u, Bu, e3, hr, _⟩ := atI_all (K := X.K) hA ez
    have eBu := c hr
    subst eBu
    exact ⟨p, vs, i, u, ev, ew, hp, e3, q u H (at1.fin av hr)⟩⟩
def catM {T : Type} (xs ys : List T) : SM S (List T) := bnd (lenG (xs ++ ys)) fun _ => ret (xs ++ ys)
/-- xs + ys of things that own nothing -/
theorem ex_cat {xs : U → List Z} {ys : W → List Z} (h1 : EO X F a ta G G1 argU m1) (h2 : EO X F b tb G1 G2 argW m2) (c : r3.Cp) (hx : ∀ a s, Rdd (G2 s) (argU a) (rList r3) (xs a)) (hy : ∀ a s, Rdd (G2 s) (argW a) (rList r3) (ys a)) :
    EX X F (.BinOp a .Add b pos) (tOp rCat ta tb) G G2 (rList r3) (bnd m1 fun a => bnd m2 fun b => catM (xs a) (ys b)) :=
  ⟨pe_op op_cat h1.pe h2.pe, go_op2 h1.go h2.go (fun _ _ => stl_bnd stl_grd fun _ => stl_ret _) fun a b s T t ts x y σ H Q A1 A2 at1 av q => by
    obtain ⟨v, B, e1, p, vs, A, ev, hp, hA, eB⟩ := rddM (j := 0) at1 av rfl (hx a s)
    obtain ⟨v2, B2, e2, p2, vs2, A', ev2, hp2, hA2, eB2⟩ := rddM (j := 1) at1 av rfl (hy b s)
    cases e1; cases e2
    obtain ⟨hz, q⟩ := wp_grd (wp_bnd q)
    have eA := cp_all c hA
    have eA2 := cp_all c hA2
    subst eA; subst eA2
    have hz' : (xs a ++ ys b).length ≤ sizeLine := hz
    rw [List.length_append, ← hA.length, ← hA2.length] at hz'
    exact ⟨p, p2, vs, vs2, ev, ev2, hp, hp2, hz', fun l hl => q.2 _ _ (at1.newL av (hA.append hA2) hl)⟩⟩
/-- x in xs, of flat plain things -/
theorem ex_inL {xs : W → List Int} {mi : SM S Int} (h1 : EX X F a ta G G1 rInt mi) (h2 : EO X F b tb G1 G2 argW m2) (hx : ∀ a s, Rdd (G2 s) (argW a) (rList rInt) (xs a)) (hm : behindInMarks .In b = false := by with_unfolding_all rfl) :
    EX X F (.Compare a [.In] [b] pos) (tOp (rIn X.K false) ta tb) G G2 rBool (bnd mi fun i => bnd m2 fun b => ret ((xs b).any (· == i))) :=
  ⟨pe_cmpR op_in_seq h1.pe h2.pe hm, go_op2 (eo_t h1).go h2.go (fun _ _ => stl_ret _) fun i b s T t ts x y σ H Q A1 A2 at1 av q => by
    obtain ⟨v, B, e1, ei, _⟩ := rddM (j := 0) at1 av rfl .t
    obtain ⟨v2, B2, e2, p2, vs2, A', ev2, hp2, hA2, eB2⟩ := rddM (j := 1) at1 av rfl (hx b s)
    cases e1; cases e2
    have evs := all_pl hA2
    subst evs ei
    refine ⟨p2, _, ev2, .inl (SqL.of hp2), rfl, by simp [flatV], ?_⟩
    have e : inV (.int i) ((xs b).map V.int) = (xs b).any (· == i) := by
      unfold inV
      rw [List.any_map]
      rfl
    show Q (.bl (if false = true then _ else _)) H
    rw [if_neg Bool.false_ne_true, e]
    exact q.2 _ H (at1.fin av ⟨rfl, rfl⟩)⟩
theorem ex_inT {xs : W → List Int} {mi : SM S Int} (h1 : EX X F a ta G G1 rInt mi) (h2 : EO X F b tb G1 G2 argW m2) (hx : ∀ a s, Rdd (G2 s) (argW a) (rTupL rInt) (xs a)) (hm : behindInMarks .In b = false := by with_unfolding_all rfl) :
    EX X F (.Compare a [.In] [b] pos) (tOp (rIn X.K false) ta tb) G G2 rBool (bnd mi fun i => bnd m2 fun b => ret ((xs b).any (· == i))) :=
  ⟨pe_cmpR op_in_seq h1.pe h2.pe hm, go_op2 (eo_t h1).go h2.go (fun _ _ => stl_ret _) fun i b s T t ts x y σ H Q A1 A2 at1 av q => by
    obtain ⟨v, B, e1, ei, _⟩ := rddM (j := 0) at1 av rfl .t
    obtain ⟨v2, B2, e2, p2, vs2, ev2, hp2, hA2⟩ := rddM (j := 1) at1 av rfl (hx b s)
    cases e1; cases e2
    have evs := all_pl hA2
    subst evs ei
    refine ⟨p2, _, ev2, .inr hp2, rfl, by simp [flatV], ?_⟩
    have e : inV (.int i) ((xs b).map V.int) = (xs b).any (· == i) := by
      unfold inV
      rw [List.any_map]
      rfl
    show Q (.bl (if false = true then _ else _)) H
    rw [if_neg Bool.false_ne_true, e]
    exact q.2 _ H (at1.fin av ⟨rfl, rfl⟩)⟩
/-! ### slices -/
def GP (F : FC X.K S) (to : TO) (G G' : S → List Slot) (m : SM S (Option Int)) : Prop :=
  ∀ (T : List Slot) (t : List V) (σ : L2.St) (s : S) (H : Hp) (Q : Option Int → Hp → Prop), At F T t (G s) σ H → (m s).wp (fun o s' => ∀ H', At F T t (G' s') σ H' → Q o H') (XP F σ) → to σ H Q
end
structure EPa (X : Cx) {S : Type} (F : FC X.K S) (e : Option Expr) (to : TO) (G G' : S → List Slot) (m : SM S (Option Int)) : Prop where
  po : PO X e to
  go : GP F to G G' m
section
variable {X : Cx} {S : Type} {F : FC X.K S} {U W Z N L R : Type} {r r1 : Rp U} {r2 : Rp W} {r3 : Rp Z} {a b : Expr} {ta tb : TE} {G G1 G2 G3 G' : S → List Slot} {m1 : SM S U} {m2 : SM S W} {pos p0 p2 : Pos} {argU : U → Arg} {argW : W → Arg}
theorem ep_none : EPa X F none tNoPart G G (ret none) := ⟨po_none, fun T t σ s H Q h q => q H h⟩
theorem ep_some {mi : SM S Int} (h : EX X F a ta G G1 rInt mi) : EPa X F (some a) (tPart ta) G G1 (bnd mi fun i => ret (some i)) :=
  ⟨po_some h.pe, fun T t σ s H Q h0 q => h.go T t σ s H _ h0 (wp_mono (wp_bnd q) (fun i s1 q1 v H1 at1 => by
    obtain ⟨M, B, k, _⟩ := top_rel at1
    exact ⟨i, k, q1 H1 at1.pop⟩) fun _ _ z => z)⟩
/-- the items of xs[lo:hi] -/
def cutL {T : Type} (xs : List T) (lo hi : Option Int) : List T := (xs.drop (HT.sIx xs.length 0 lo)).take (HT.sIx xs.length xs.length hi - HT.sIx xs.length 0 lo)
theorem all3_drop {T : Type} {R : V → T → List Addr → Prop} : ∀ {vs : List V} {as : List T} {A : List Addr} (n : Nat), All3 R vs as A → ∃ A', All3 R (vs.drop n) (as.drop n) A' ∧ ∀ p, p ∈ A' → p ∈ A
  | _, _, _, 0, h => ⟨_, h, fun _ z => z⟩
  | _, _, _, n + 1, .nil => ⟨_, .nil, fun _ z => z⟩
  | _, _, _, n + 1, .cons h t => by
    obtain ⟨A', k, z⟩ := all3_drop n t
    exact ⟨A', k, fun p hp => List.mem_append_right _ (z p hp)⟩
theorem all3_take {T : Type} {R : V → T → List Addr → Prop} : ∀ {vs : List V} {as : List T} {A : List Addr} (n : Nat), All3 R vs as A → ∃ A', All3 R (vs.take n) (as.take n) A' ∧ ∀ p, p ∈ A' → p ∈ A
  | _, _, _, 0, h => ⟨[], .nil, fun _ z => by cases z⟩
  | _, _, _, n + 1, .nil => ⟨_, .nil, fun _ z => z⟩
  | _, _, _, n + 1, .cons (B := B) h t => by
    obtain ⟨A', k, z⟩ := all3_take n t
    refine ⟨B ++ A', .cons h k, fun p hp => ?_⟩
    rcases List.mem_append.mp hp with hp | hp
    · exact List.mem_append_left _ hp
    · exact List.mem_append_right _ (z p hp)
theorem all3_cut {T : Type} {R : V → T → List Addr → Prop} {vs : List V} {as : List T} {A : List Addr} (h : All3 R vs as A) (lo hi : Option Int) : ∃ A', All3 R (cutV vs lo hi) (cutL as lo hi) A' ∧ ∀ p, p ∈ A' → p ∈ A := by
  unfold cutV cutL
  rw [h.length]
  obtain ⟨A1, h1, s1⟩ := all3_drop (HT.sIx as.length 0 lo) h
  obtain ⟨A2, h2, s2⟩ := all3_take (HT.sIx as.length as.length hi - HT.sIx as.length 0 lo) h1
  exact ⟨A2, h2, fun p hp => s1 p (s2 p hp)⟩
/-- xs[lo:hi], items that own nothing -/
theorem ex_slice {lo hi : Option Expr} {tl th : TO} {ml mh : SM S (Option Int)} {xs : U → List Z} (h1 : EO X F a ta G G1 argU m1) (hl : EPa X F lo tl G1 G2 ml) (hh : EPa X F hi th G2 G3 mh) (c : r3.Cp) (hx : ∀ a s, Rdd (G3 s) (argU a) (rList r3) (xs a)) :
    EX X F (.Subscript a (.Slice lo hi none p2) pos) (tSl (rSlL X.K) ta tl th) G G3 (rList r3) (bnd m1 fun a => bnd ml fun l => bnd mh fun u => ret (cutL (xs a) l u)) :=
  ⟨pe_slice sl_list h1.pe hl.po hh.po, fun T t σ s H Q h0 q => by
    refine h1.go T t σ s H _ h0 (wp_mono (wp_bnd q) (fun a s1 q1 ts x H1 at1 av => ?_) fun _ _ z => z)
    refine hl.go _ _ σ s1 H1 _ at1 (wp_mono (wp_bnd q1) (fun l s2 q2 H2 at2 => ?_) fun _ _ z => z)
    refine hh.go _ _ σ s2 H2 _ at2 (wp_mono (wp_bnd q2) (fun u s3 q3 H3 at3 => ?_) fun _ _ z => z)
    obtain ⟨A1, A2, at3⟩ := at3
    obtain ⟨v, B, e1, p, vs, A, ev, hp, hA, eB⟩ := rddM (j := 0) at3 av rfl (hx a s3)
    cases e1
    have eA := cp_all c hA
    subst eA
    obtain ⟨A', hA', sub⟩ := all3_cut hA l u
    have eA' := cp_all c hA'
    subst eA'
    exact ⟨p, vs, ev, SqL.of hp, fun l hl => q3 _ _ (at3.newL av hA' hl)⟩⟩
end
end Td

set_option Elab.async false
set_option linter.all false
set_option maxRecDepth 100000
set_option maxHeartbeats 4000000
namespace Td
open PySem PySem.Spec PyProof.Rows L2

section
variable {K : PySem.W.Frag} {S : Type} {F : FC K S} {T : List Slot} {t : List V} {G : List Slot} {σ : L2.St} {H : Hp}
/-- a slot told otherwise -/
theorem At.conv {i : Nat} {g g' : Slot} (h : At F T t G σ H) (e : G[i]? = some g) (k : ∀ M H x B, σ[i]? = some x → g.ok K M H x B → g'.ok K M H x B) : At F T t (G.set i g') σ H := by
  obtain ⟨A1, A2, h⟩ := h
  obtain ⟨x, B, P1, P2, e1, hr, eA, back⟩ := h.loc.at_ e
  have z := back (A1 ++ A2 ++ F.M0) H g' x B (fun h _ => h) (k _ _ _ _ e1 hr)
  rw [set_self e1] at z
  subst eA
  exact ⟨A1, _, h.tmp, z, h.good⟩
theorem At.unpin {i : Nat} {w : V} {U : Type} {r : Rp U} {a : U} (h : At F T t G σ H) (e : G[i]? = some (.pn w r a)) : σ[i]? = some (some w) ∧ At F T t (G.set i (.is r a)) σ H := by
  refine ⟨?_, h.conv e fun M H x B _ hk => ⟨w, hk.1, hk.2⟩⟩
  obtain ⟨A1, A2, h⟩ := h
  obtain ⟨x, B, e1, h1, _⟩ := h.loc.mem e
  rw [e1, h1.1]
theorem At.repin {i : Nat} {w : V} {U : Type} {r : Rp U} {a : U} (h : At F T t G σ H) (e : G[i]? = some (.is r a)) (ew : σ[i]? = some (some w)) : At F T t (G.set i (.pn w r a)) σ H := by
  refine h.conv e fun M H x B ex hk => ?_
  obtain ⟨v, ev, hr⟩ := hk
  rw [ew, ev] at ex
  cases ex
  exact ⟨ev, hr⟩
theorem all3_set {T : Type} {R : V → T → List Addr → Prop} {vs : List V} {as : List T} (h : All3 R vs as []) {v : V} {a : T} (hr : R v a []) (j : Nat) : All3 R (vs.set j v) (as.set j a) [] := by
  generalize eA : ([] : List Addr) = A at h
  induction h generalizing j with
  | nil => simp; exact .nil
  | @cons v' a' B vs as A h t ih =>
    obtain ⟨rfl, rfl⟩ := List.append_eq_nil_iff.mp eA.symm
    cases j with
    | zero => exact .cons (B := []) hr t
    | succ j => exact .cons h (ih j rfl)
/-- the list in slot i: items that own nothing are set anew, temps stay -/
theorem At.putS {i : Nat} {U : Type} {r : Rp U} {xs ys : List U} (c : r.Cp) (h : At F T t G σ H) (e : G[i]? = some (.is (rList r) xs)) :
    ∃ D vs, σ[i]? = some (some (.ref D)) ∧ H D = some (.lst vs) ∧ vs.length = xs.length ∧ ∀ ws, (∀ M, All3 (r.rel K M H) vs xs [] → All3 (r.rel K M H) ws ys []) → At F T t (G.set i (.is (rList r) ys)) σ (upd H D (.lst ws)) := by
  obtain ⟨A1, A2, h⟩ := h
  obtain ⟨D, vs, B, e1, hD, hA, hl, nd0, k⟩ := h.mutS e
  have eB := cp_all c hA
  subst eB
  exact ⟨D, vs, e1, hD, hl, fun ws hw => k ws ys [] T t A1 (hw _ hA) h.tmp nd0 fun p hp => hp⟩
end
section
variable {X : Cx} {S : Type} {F : FC X.K S} {N L R U W Z : Type} {G G1 G2 G3 : S → List Slot} {GN : N → S → List Slot} {GL : L → S → List Slot} {r : Rp R} {r1 : Rp U} {r2 : Rp W} {r3 : Rp Z} {pos p0 p1 cpos apos : Pos} {rest : List Stmt} {tr : TS} {e e2 : Expr} {te te2 : TE}
def pushM {T : Type} (xs : List T) (y : T) : SM S (List T) := bnd (grd (xs.length < sizeLine)) fun _ => ret (xs ++ [y])
theorem ty_lst {K : PySem.W.Frag} {H : Hp} {p : Addr} {vs : List V} (h : H p = some (.lst vs)) : tyV K "list" (.ref p) H := Or.inl ⟨rfl, _, Or.inl (Or.inl h)⟩
/-- x.append(e) -/
theorem bx_app {xs : List U} {me : SM S U} {out : List U → SM S (Fl N L R)} {x : Str} (i : Nat) (h : EX X F e te G G1 r1 me) (hG0 : ∀ s, (G s)[i]? = some (.is (rList r1) xs)) (hG : ∀ s, (G1 s)[i]? = some (.is (rList r1) xs)) (hb : ∀ ys, BX X F rest tr (fun s => (G1 s).set i (.is (rList r1) ys)) GN GL r (out ys))
    (hN : X.N[i]? = some x := by rfl) (hv : Vis X.env.scope x := by first | exact Or.inl rfl | exact Or.inr (Or.inl rfl) | exact Or.inr (Or.inr rfl)) (hd : (x == ("__debug__" : Str)) = false := by decide) (hcd : (x == ("__classdict__" : Str)) = false := by decide)
    (hs : PySem.W.isStarred e = false := by rfl)
    (hfew : ((backTo cpos (starEach (e :: []) X.env)).all (fun x => !x.1) && (backToKw cpos (keywordEach [] X.env)).all (fun x => x.1.isSome)
      && decide ((e :: []).length + ([] : List Keyword).length + (if ([] : List Keyword).isEmpty then 0 else 1) < 30)) = true := by rfl) (hline : (apos.endLine == cpos.line) = true := by rfl) (hsw : swapsWith (.Call (.Attribute (.Name x p0) "append" apos) [e] [] cpos) none pos.line X.env = pure false := by rfl)
    (hbase : attributeBase (.Name x p0) "append" X.env (eval (.Name x p0) X.env) = eval (.Name x p0) X.env := by rfl) :
    BX X F (.Expr (.Call (.Attribute (.Name x p0) "append" apos) [e] [] cpos) pos :: rest) (tSeq (tDrop (tBM X.K "list" rAppend (tVar i) (tCons te tNil))) tr) G GN GL r (bnd me fun y => bnd (pushM xs y) out) :=
  ⟨pss_cons (ps_expr (pe_bm PySem.F.plainAttrs_list PySem.F.slot_list_append PySem.F.type_list_append mt_append (pe_var hN hv hd hcd) (pa_cons h.pe pa_nil (star1 hs)) hbase hfew hline (star1 hs) (by rfl)) hsw) (hb []).ps, fun T t σ s H D h0 q => by
    have e0 := h0
    obtain ⟨v0, M0, B0, ev0, hr0⟩ := e0.slot (hG0 s)
    obtain ⟨p0', vs0, A0, ep0, hp0, _⟩ := hr0
    subst ep0
    refine ⟨_, ev0, ty_lst hp0, ?_⟩
    refine h.go T t σ s H _ h0 (wp_mono (wp_bnd q) (fun y s1 q1 v H1 at1 => ?_) fun e s z => z σ)
    obtain ⟨hz, q2⟩ := wp_grd (wp_bnd (wp_bnd q1))
    obtain ⟨D', vs, e1, hD, hl, at2⟩ := at1.appendS (hG s1)
    rw [ev0] at e1
    cases e1
    exact ⟨p0', vs, v, rfl, rfl, hD, by rw [hl]; exact hz, (hb _).go T t σ s1 _ D at2 q2⟩⟩
def setM {T : Type} (xs : List T) (i : Int) (v : T) : SM S (List T) := match ixN xs.length i with
  | some j => ret (xs.set j v)
  | none => stk
theorem wp_setM {T : Type} {xs : List T} {i : Int} {v : T} {s : S} {P : List T → S → Prop} {E : Exn → S → Prop} (h : (setM xs i v s).wp P E) : ∃ j, ixN xs.length i = some j ∧ P (xs.set j v) s := by
  unfold setM at h
  cases e : ixN xs.length i with
  | none => rw [e] at h; exact h.elim
  | some j => rw [e] at h; exact ⟨j, rfl, h⟩
/-- x[k] = e, x an own list -/
theorem bx_setS {xs : List U} {me : SM S U} {mi : SM S Int} {out : List U → SM S (Fl N L R)} {x : Str} (i : Nat) (c : r1.Cp) (h : EX X F e te G G1 r1 me) (h2 : EX X F e2 te2 G1 G2 rInt mi) (hG1 : ∀ s, (G1 s)[i]? = some (.is (rList r1) xs)) (hG : ∀ s, (G2 s)[i]? = some (.is (rList r1) xs)) (hb : ∀ ys, BX X F rest tr (fun s => (G2 s).set i (.is (rList r1) ys)) GN GL r (out ys))
    (hN : X.N[i]? = some x := by rfl) (hv : Vis X.env.scope x := by first | exact Or.inl rfl | exact Or.inr (Or.inl rfl) | exact Or.inr (Or.inr rfl)) (hd : (x == ("__debug__" : Str)) = false := by decide) (hcd : (x == ("__classdict__" : Str)) = false := by decide)
    (ha : ∀ v, assign (.Subscript (.Name x p0) e2 p1) X.env v = (do
      let ov ← holding [v] (eval (.Name x p0) X.env)
      let iv ← holding [v, ov] (eval e2 X.env)
      standAt p1
      holding [v, ov, iv] (setItem ov iv v)
      release [v, ov, iv] []) := by intro _; rfl)
    (hs : swapsWithSole [(.Subscript (.Name x p0) e2 p1)] e pos.line X.env = pure false := by rfl) (hw : swappedStores [(.Subscript (.Name x p0) e2 p1)] e X.env = pure none := by rfl) (h1 : (assignEach [(.Subscript (.Name x p0) e2 p1)] X.env).map (·.2) = [assign (.Subscript (.Name x p0) e2 p1) X.env] := by rfl) :
    BX X F (.Assign [.Subscript (.Name x p0) e2 p1] e pos :: rest) (tSeq (tAsg te (gSub (tVar i) te2 rSetL)) tr) G GN GL r (bnd me fun v => bnd mi fun k => bnd (setM xs k v) out) :=
  ⟨pss_cons (ps_asg h.pe (pg_sub (pe_var hN hv hd hcd) h2.pe set_list ha) hs hw h1) (hb []).ps, fun T t σ s H D h0 q => by
    refine h.go T t σ s H _ h0 (wp_mono (wp_bnd q) (fun y s1 q1 v H1 at1 => ?_) fun e s z => z σ)
    obtain ⟨v0, M0, B0, ev0, hr0⟩ := at1.slot (hG1 s1)
    refine ⟨v0, ev0, ?_⟩
    refine h2.go _ _ σ s1 H1 _ at1 (wp_mono (wp_bnd q1) (fun k s2 q2 w H2 at2 => ?_) fun e s z => z σ)
    obtain ⟨_, _, ek, _⟩ := top_rel at2
    subst ek
    obtain ⟨j, hj, q3⟩ := wp_setM (wp_bnd q2)
    have at3 := at2.pop
    obtain ⟨A1, A2, at4⟩ := at3
    obtain ⟨C, A', eA, ⟨v', ev, hry⟩, ht⟩ := AtS.cons_inv at4.tmp
    cases ev
    have eC := c hry
    subst eC
    obtain ⟨D', vs, B, e1, hD, hA, hl, nd0, kk⟩ := at4.mutS (hG s2)
    rw [ev0] at e1
    cases e1
    have eB := cp_all c hA
    subst eB
    refine ⟨D', vs, k, j, rfl, rfl, hD, by rw [hl]; exact hj, ?_⟩
    exact (hb _).go T t σ s2 _ D (kk (vs.set j v) (xs.set j y) [] T t A' (all3_set hA hry j) ht (by rw [eA] at nd0; exact nd0) fun p hp => by rw [eA]; exact hp) q3⟩
/-! ### the state list of an in/out argument -/
def stIx {T : Type} (i : Int) : SM (List T) T := fun s => match atI s i with
  | some a => .ok a s
  | none => .stuck
def stSet {T : Type} (i : Int) (v : T) : SM (List T) Unit := fun s => match ixN s.length i with
  | some j => .ok () (s.set j v)
  | none => .stuck
end
section
variable {X : Cx} {A : Type} {F : FC X.K (List A)} {N L R : Type} {G G1 G2 : List A → List Slot} {GN : N → List A → List Slot} {GL : L → List A → List Slot} {r : Rp R} {ra : Rp A} {pos p0 p1 : Pos} {rest : List Stmt} {tr : TS} {e e2 b : Expr} {te te2 tb : TE}
/-- s[k] -/
theorem ex_stix {mi : SM (List A) Int} {x : Str} {w : V} (i : Nat) (h : EX X F b tb G G1 rInt mi) (c : ra.Cp) (hG0 : ∀ s, (G s)[i]? = some (.pn w (rList ra) s)) (hG : ∀ s, (G1 s)[i]? = some (.pn w (rList ra) s)) (hs : PlainIx b := by exact fun _ _ => rfl)
    (hN : X.N[i]? = some x := by rfl) (hv : Vis X.env.scope x := by first | exact Or.inl rfl | exact Or.inr (Or.inl rfl) | exact Or.inr (Or.inr rfl)) (hd : (x == ("__debug__" : Str)) = false := by decide) (hcd : (x == ("__classdict__" : Str)) = false := by decide) :
    EX X F (.Subscript (.Name x p0) b pos) (tOp (rIxL X.K) (tVar i) tb) G G1 ra (bnd mi fun k => stIx k) :=
  ⟨pe_ix ix_list (pe_var hN hv hd hcd) h.pe hs, fun T t σ s H Q h0 q => by
    obtain ⟨A1, A2, h0'⟩ := id h0
    obtain ⟨x0, B, e1, h1, _⟩ := h0'.loc.mem (hG0 s)
    obtain ⟨ex, _⟩ := h1
    subst ex
    refine ⟨w, e1, ?_⟩
    refine h.go T t σ s H _ h0 (wp_mono (wp_bnd q) (fun k s1 q1 v H1 at1 => ?_) fun _ _ z => z)
    obtain ⟨_, _, ek, _⟩ := top_rel at1
    subst ek
    obtain ⟨A1', A2', at2⟩ := at1.pop
    obtain ⟨x1, B1, e2, h2, sub⟩ := at2.loc.mem (hG s1)
    obtain ⟨ex, p, vs, C, ep, hp, hA, eB⟩ := h2
    subst ex ep
    unfold stIx at q1
    cases ei : atI s1 k with
    | none => rw [ei] at q1; exact q1.elim
    | some a =>
      rw [ei] at q1
      obtain ⟨u, Bu, e3, hr, _⟩ := atI_all (K := X.K) hA ei
      have eBu := c hr
      subst eBu
      exact ⟨p, vs, k, u, rfl, rfl, SqL.of hp, e3, q1 u H1 ⟨A1', A2', at2.pushM hr⟩⟩⟩
/-- s[k] = e -/
theorem bx_stset {me : SM (List A) A} {mi : SM (List A) Int} {out : SM (List A) (Fl N L R)} {x : Str} {w : V} (i : Nat) (c : ra.Cp) (h : EX X F e te G G1 ra me) (h2 : EX X F e2 te2 G1 G2 rInt mi) (hG1 : ∀ s, (G1 s)[i]? = some (.pn w (rList ra) s)) (hG : ∀ s, (G2 s)[i]? = some (.pn w (rList ra) s)) (hset : ∀ s s', (G2 s).set i (.pn w (rList ra) s') = G2 s')
    (hb : BX X F rest tr G2 GN GL r out)
    (hN : X.N[i]? = some x := by rfl) (hv : Vis X.env.scope x := by first | exact Or.inl rfl | exact Or.inr (Or.inl rfl) | exact Or.inr (Or.inr rfl)) (hd : (x == ("__debug__" : Str)) = false := by decide) (hcd : (x == ("__classdict__" : Str)) = false := by decide)
    (ha : ∀ v, assign (.Subscript (.Name x p0) e2 p1) X.env v = (do
      let ov ← holding [v] (eval (.Name x p0) X.env)
      let iv ← holding [v, ov] (eval e2 X.env)
      standAt p1
      holding [v, ov, iv] (setItem ov iv v)
      release [v, ov, iv] []) := by intro _; rfl)
    (hs : swapsWithSole [(.Subscript (.Name x p0) e2 p1)] e pos.line X.env = pure false := by rfl) (hw : swappedStores [(.Subscript (.Name x p0) e2 p1)] e X.env = pure none := by rfl) (h1 : (assignEach [(.Subscript (.Name x p0) e2 p1)] X.env).map (·.2) = [assign (.Subscript (.Name x p0) e2 p1) X.env] := by rfl) :
    BX X F (.Assign [.Subscript (.Name x p0) e2 p1] e pos :: rest) (tSeq (tAsg te (gSub (tVar i) te2 rSetL)) tr) G GN GL r (bnd me fun v => bnd mi fun k => bnd (stSet k v) fun _ => out) :=
  ⟨pss_cons (ps_asg h.pe (pg_sub (pe_var hN hv hd hcd) h2.pe set_list ha) hs hw h1) hb.ps, fun T t σ s H D h0 q => by
    refine h.go T t σ s H _ h0 (wp_mono (wp_bnd q) (fun y s1 q1 v H1 at1 => ?_) fun e s z => z σ)
    obtain ⟨ev0, _⟩ := at1.unpin (hG1 s1)
    refine ⟨w, ev0, ?_⟩
    refine h2.go _ _ σ s1 H1 _ at1 (wp_mono (wp_bnd q1) (fun k s2 q2 w2 H2 at2 => ?_) fun e s z => z σ)
    obtain ⟨_, _, ek, _⟩ := top_rel at2
    subst ek
    have q3 := wp_bnd q2
    unfold stSet at q3
    cases hj : ixN s2.length k with
    | none => rw [hj] at q3; exact q3.elim
    | some j =>
      rw [hj] at q3
      obtain ⟨_, at3⟩ := at2.pop.unpin (hG s2)
      obtain ⟨A1, A2, at4⟩ := at3
      obtain ⟨C, A', eA, ⟨v', ev, hry⟩, ht⟩ := AtS.cons_inv at4.tmp
      cases ev
      have eC := c hry
      subst eC
      have hlt : i < (G2 s2).length := (List.getElem?_eq_some_iff.mp (hG s2)).1
      obtain ⟨D', vs, B, e1, hD, hA, hl, nd0, kk⟩ := at4.mutS (i := i) (r := ra) (xs := s2) (List.getElem?_set_self hlt)
      rw [ev0] at e1
      cases e1
      have eB := cp_all c hA
      subst eB
      refine ⟨D', vs, k, j, rfl, rfl, hD, by rw [hl]; exact hj, ?_⟩
      have z := kk (vs.set j v) (s2.set j y) [] T t A' (all3_set hA hry j) ht (by rw [eA] at nd0; exact nd0) fun p hp => by rw [eA]; exact hp
      have z2 := z.repin (w := .ref D') (i := i) (r := rList ra) (a := s2.set j y) (by rw [List.set_set, List.getElem?_set_self hlt]) ev0
      rw [List.set_set, List.set_set, hset] at z2
      exact hb.go T t σ _ _ D z2 q3⟩
end
section
variable {X : Cx} {S : Type} {F : FC X.K S} {N L R U W Z : Type} {G G1 G2 G3 : S → List Slot} {GN : N → S → List Slot} {GL : L → S → List Slot} {r : Rp R} {r1 : Rp U} {r2 : Rp W} {r3 : Rp Z} {pos p0 p1 : Pos} {rest : List Stmt} {tr : TS} {e e2 : Expr} {te te2 : TE}
/-- an operation op= of ints -/
def IpI (X : Cx) (op : Operator) (rr : TIp) (C : Int → Int → Prop) (f : Int → Int → Int) : Prop := PIp X op rr ∧ ∀ i j H Q, C i j → Q (.int (f i j)) H → rr (.int i) (.int j) H Q
theorem ipi_add : IpI X .Add (ipI fun i j => i + j) (fun _ _ => True) (fun i j => i + j) := ⟨ip_add, fun i j H Q _ q => ⟨i, j, rfl, rfl, q⟩⟩
theorem ipi_sub : IpI X .Sub (ipI fun i j => i - j) (fun _ _ => True) (fun i j => i - j) := ⟨ip_sub, fun i j H Q _ q => ⟨i, j, rfl, rfl, q⟩⟩
/-- x op= e, ints -/
theorem bx_augI {op : Operator} {rr : TIp} {f : Int → Int → Int} {a : Int} {me : SM S Int} {out : Int → SM S (Fl N L R)} {x : Str} (i : Nat) (ho : IpI X op rr (fun _ _ => True) f) (hN : X.N.Nodup) (h : EX X F e te G G1 rInt me) (hG0 : ∀ s, (G s)[i]? = some (.is rInt a)) (hb : ∀ v, BX X F rest tr (fun s => (G1 s).set i (.is rInt v)) GN GL r (out v)) {gs : S → Slot} (hG : ∀ s, (G1 s)[i]? = some (gs s))
    (hi : X.N[i]? = some x := by rfl) (hx : Loc X.env.scope x := by first | exact Or.inl rfl | exact Or.inr rfl) (hf : X.fn x = true ∨ X.env.scope.names.lookup x = some .local := by first | exact .inl rfl | exact .inr rfl) :
    BX X F (.AugAssign (.Name x p0) op e pos :: rest) (tSeq (tAug i te rr) tr) G GN GL r (bnd me fun v => bnd (ret (f a v)) out) :=
  ⟨pss_cons (ps_aug hN hi hx h.pe ho.1 hf) (hb 0).ps, fun T t σ s H D h0 q => by
    obtain ⟨v0, M0, B0, ev0, hr0⟩ := h0.slot (hG0 s)
    obtain ⟨e0, _⟩ := hr0
    subst e0
    refine ⟨_, ev0, ?_⟩
    refine h.go T t σ s H _ h0 (wp_mono (wp_bnd q) (fun y s1 q1 v H1 at1 => ?_) fun e s z => z σ)
    obtain ⟨_, _, ek, _⟩ := top_rel at1
    subst ek
    exact ho.2 a y H1 _ trivial ((hb _).go T t _ s1 H1 D (At.store (g := .is rInt (f a y)) (At.push (r := rInt) at1.pop fun _ => ⟨rfl, rfl⟩) i (hG s1)) q1)⟩
/-- x += e, lists of things that own nothing -/
theorem bx_augL {xs : List U} {me : SM S (List U)} {out : List U → SM S (Fl N L R)} {x : Str} (i : Nat) (c : r1.Cp) (hN : X.N.Nodup) (h : EX X F e te G G1 (rList r1) me) (hG0 : ∀ s, (G s)[i]? = some (.is (rList r1) xs)) (hG : ∀ s, (G1 s)[i]? = some (.is (rList r1) xs)) (hb : ∀ v, BX X F rest tr (fun s => (G1 s).set i (.is (rList r1) v)) GN GL r (out v))
    (hi : X.N[i]? = some x := by rfl) (hx : Loc X.env.scope x := by first | exact Or.inl rfl | exact Or.inr rfl) (hf : X.fn x = true ∨ X.env.scope.names.lookup x = some .local := by first | exact .inl rfl | exact .inr rfl) :
    BX X F (.AugAssign (.Name x p0) .Add e pos :: rest) (tSeq (tAug i te rExt2) tr) G GN GL r (bnd me fun v => bnd (catM xs v) out) :=
  ⟨pss_cons (ps_aug hN hi hx h.pe iop_ext hf) (hb []).ps, fun T t σ s H D h0 q => by
    obtain ⟨v0, M0, B0, ev0, hr0⟩ := h0.slot (hG0 s)
    obtain ⟨p0', vs0, A0, ep0, hp0, _⟩ := hr0
    subst ep0
    refine ⟨_, ev0, ?_⟩
    refine h.go T t σ s H _ h0 (wp_mono (wp_bnd q) (fun ys s1 q1 v H1 at1 => ?_) fun e s z => z σ)
    obtain ⟨A1, A2, at4⟩ := at1
    obtain ⟨C, A', eA, ⟨v', ev, p2, ws, A3, ep2, hp2, hA2, eC⟩, ht⟩ := AtS.cons_inv at4.tmp
    cases ev
    subst ep2 eC
    have eA3 := cp_all c hA2
    subst eA3
    obtain ⟨D', vs, B, e1, hD, hA, hl, nd0, kk⟩ := at4.mutS (hG s1)
    rw [ev0] at e1
    cases e1
    have eB := cp_all c hA
    subst eB
    obtain ⟨hz, q2⟩ := wp_grd (wp_bnd (wp_bnd q1))
    have hz' : (xs ++ ys).length ≤ sizeLine := hz
    rw [List.length_append, ← hl, ← hA2.length] at hz'
    refine ⟨p0', p2, vs, ws, rfl, rfl, hD, hp2, hz', ?_⟩
    have z := kk (vs ++ ws) (xs ++ ys) [] T t A' (hA.append hA2) ht (by rw [eA] at nd0; simpa using (List.nodup_cons.mp (by simpa using nd0)).2) fun p hp => by rw [eA]; simp at hp ⊢; exact .inr hp
    have z2 := (hb _).go T t σ s1 _ D z q2
    rwa [← set_self (T := Option V) ev0] at z2⟩
/-- x = y = e -/
theorem bx_asg2 {me : SM S U} {out : U → SM S (Fl N L R)} {x y : Str} (i j : Nat) {gs gs' : S → Slot} (c : r1.Cp) (hN : X.N.Nodup) (hij : i ≠ j) (h : EX X F e te G G1 r1 me) (hb : ∀ v, BX X F rest tr (fun s => ((G1 s).set i (.is r1 v)).set j (.is r1 v)) GN GL r (out v)) (ha : Inhabited U)
    (he : ∀ s, (G1 s)[i]? = some (gs s)) (he2 : ∀ s, (G1 s)[j]? = some (gs' s)) (hi : X.N[i]? = some x := by rfl) (hj : X.N[j]? = some y := by rfl) (hx : Loc X.env.scope x := by first | exact Or.inl rfl | exact Or.inr rfl) (hy : Loc X.env.scope y := by first | exact Or.inl rfl | exact Or.inr rfl)
    (hf : X.fn x = true ∨ X.env.scope.names.lookup x = some .local := by first | exact .inl rfl | exact .inr rfl) (hfy : X.fn y = true ∨ X.env.scope.names.lookup y = some .local := by first | exact .inl rfl | exact .inr rfl)
    (has : (assignEach [.Name x p0, .Name y p1] X.env).map (·.2) = [assign (.Name x p0) X.env, assign (.Name y p1) X.env] := by rfl) (hw : swappedStores [.Name x p0, .Name y p1] e X.env = pure none := by rfl) :
    BX X F (.Assign [.Name x p0, .Name y p1] e pos :: rest) (tSeq (tAsg2 te (gName i) (gName j)) tr) G GN GL r (bnd me out) :=
  ⟨pss_cons (ps_asg2 h.pe (pg_name hN hi hx hf) (pg_name hN hj hy hfy) has hw) (hb ha.default).ps, fun T t σ s H D h0 q => by
    refine h.go T t σ s H _ h0 (wp_mono (wp_bnd q) (fun y s1 q1 v H1 at1 => ?_) fun e s z => z σ)
    obtain ⟨A1, A2, at2⟩ := id at1
    obtain ⟨C, A', eA, ⟨v', ev, hr⟩, ht⟩ := AtS.cons_inv at2.tmp
    cases ev
    have eC := c hr
    subst eC
    have at3 : At F (.is r1 y :: .is r1 y :: T) (v :: v :: t) (G1 s1) σ H1 := ⟨A1, A2, at2.pushM hr⟩
    exact (hb y).go T t _ s1 H1 D ((at3.store i (he s1)).store j (by rw [List.getElem?_set_ne hij]; exact he2 s1)) q1⟩
/-- x, y, z = e1, e2, e3 -/
theorem bx_par3 {a b c : Expr} {ta tb tc : TE} {m1 : SM S U} {m2 : SM S W} {m3 : SM S Z} {out : U → W → Z → SM S (Fl N L R)} {x y z : Str} {px py pz pt pt2 : Pos} {kt k2 : Nat} (i j l : Nat) {gs gs' gs2 : S → Slot} (hN : X.N.Nodup) (hc : X.calm = true) (hij : i ≠ j) (hil : i ≠ l) (hjl : j ≠ l)
    (h1 : EX X F a ta G G1 r1 m1) (h2 : EX X F b tb G1 G2 r2 m2) (h3 : EX X F c tc G2 G3 r3 m3) (hb : ∀ a b c, BX X F rest tr (fun s => (((G3 s).set l (.is r3 c)).set j (.is r2 b)).set i (.is r1 a)) GN GL r (out a b c)) (ha : Inhabited U) (ha2 : Inhabited W) (ha3 : Inhabited Z) (he : ∀ s, (G3 s)[i]? = some (gs s)) (he2 : ∀ s, (G3 s)[j]? = some (gs' s)) (he3 : ∀ s, (G3 s)[l]? = some (gs2 s))
    (hw : swappedStores [.Tuple [.Name x px, .Name y py, .Name z pz] kt pt] (.Tuple [a, b, c] k2 pt2) X.env = pure (some [x, y, z]) := by rfl) (hs : swapsWithSole [.Tuple [.Name x px, .Name y py, .Name z pz] kt pt] (.Tuple [a, b, c] k2 pt2) pos.line X.env = pure false := by rfl)
    (hi : X.N[i]? = some x := by rfl) (hj : X.N[j]? = some y := by rfl) (hl : X.N[l]? = some z := by rfl) (hx : X.env.scope.names.lookup x = some .local := by rfl) (hy : X.env.scope.names.lookup y = some .local := by rfl) (hz : X.env.scope.names.lookup z = some .local := by rfl) (hsa : PySem.W.isStarred a = false := by rfl) (hsb : PySem.W.isStarred b = false := by rfl) (hsc : PySem.W.isStarred c = false := by rfl) :
    BX X F (.Assign [.Tuple [.Name x px, .Name y py, .Name z pz] kt pt] (.Tuple [a, b, c] k2 pt2) pos :: rest) (tSeq (tPar3 i j l (tCons ta (tCons tb (tCons tc tNil)))) tr) G GN GL r (bnd m1 fun a => bnd m2 fun b => bnd m3 fun c => out a b c) :=
  ⟨pss_cons (ps_par3 hc hN hi hj hl hij hil hjl hx hy hz (pa_cons h1.pe (pa_cons h2.pe (pa_cons h3.pe pa_nil (star1 hsc)) (star1 hsb)) (star1 hsa)) hw hs) (hb ha.default ha2.default ha3.default).ps, fun T t σ s H D h0 q => by
    refine h1.go T t σ s H _ h0 (wp_mono (wp_bnd q) (fun a s1 q1 v H1 at1 => ?_) fun e s z => z σ)
    refine h2.go _ _ σ s1 H1 _ at1 (wp_mono (wp_bnd q1) (fun b s2 q2 w H2 at2 => ?_) fun e s z => z σ)
    refine h3.go _ _ σ s2 H2 _ at2 (wp_mono (wp_bnd q2) (fun c s3 q3 u H3 at3 => ?_) fun e s z => z σ)
    refine ⟨v, w, u, rfl, (hb a b c).go T t _ s3 H3 D ?_ q3⟩
    have z := ((at3.store l (he3 s3)).store j (by rw [List.getElem?_set_ne (Ne.symm hjl)]; exact he2 s3)).store i (by rw [List.getElem?_set_ne (Ne.symm hij), List.getElem?_set_ne (Ne.symm hil)]; exact he s3)
    rw [List.set_comm (l := σ) _ _ (Ne.symm hjl), List.set_comm (l := σ.set j _) _ _ (Ne.symm hil), List.set_comm (l := σ) _ _ (Ne.symm hij)] at z
    exact z⟩
end
end Td

set_option Elab.async false
set_option linter.all false
set_option maxRecDepth 100000
set_option maxHeartbeats 4000000
namespace Td
open PySem PySem.Spec PyProof.Rows L2 He

/-! ### the head: what stands behind the top -/
/-- a def: where its object stands, its text -/
structure Df where
  adr : PySem.W.Frag → Addr
  name : Str
  qual : Str
  params : Arguments
  body : List Stmt
  scope : Scope
def fnA (K : PySem.W.Frag) (a : Addr) : FnW := match K.lookup a with
  | some ⟨_, _, .func fd, _⟩ => some (fd.name, fd.qualname, fd.params, fd.body, fd.scope, fd.globals, fd.closure, fd.builtins)
  | _ => none
def Df.told (d : Df) : FnW := some (d.name, d.qual, d.params, .stmts d.body, d.scope, mainGlobals, [], builtinsNs)
def Df.fit (K : PySem.W.Frag) (d : Df) : Bool := PySem.W.keepIn K (.ref (d.adr K)) && (match K.lookup (d.adr K) with
  | some ⟨_, _, .func fd, _⟩ => PySem.W.codeIn K fd.code d.qual && (dflB K fd.defaults [] && kwdB K fd.kwdefaults [])
  | _ => false)
theorem Df.funD {K : PySem.W.Frag} {d : Df} (e : fnA K (d.adr K) = d.told) (c : d.fit K = true) : ∃ fd, FunD K d.name d.qual d.params d.body d.scope [] [] (d.adr K) fd := by
  obtain ⟨kp, c2⟩ := ba c
  unfold fnA at e
  cases q : K.lookup (d.adr K) with
  | none => rw [q] at c2; cases c2
  | some o =>
    obtain ⟨oc, od, dt, osl⟩ := o
    rw [q] at c2 e
    cases dt with
    | func fd =>
      obtain ⟨n1, n2, n3, n4, n5, n6, n7, n8, n9, n10, n11, n12, n13, n14, n15⟩ := fd
      have e2 : (some (n1, n2, n3, n4, n5, n6, n7, n15) : FnW) = some (d.name, d.qual, d.params, .stmts d.body, d.scope, mainGlobals, [], builtinsNs) := e
      simp only [Option.some.injEq, Prod.mk.injEq] at e2
      obtain ⟨h1, h2, h3, h4, h5, h6, h7, h8⟩ := e2
      subst h1 h2 h3 h4 h5 h6 h7 h8
      have c3 : (PySem.W.codeIn K n13 d.qual && (dflB K n8 [] && kwdB K n9 [])) = true := c2
      obtain ⟨k1, k2⟩ := ba c3
      obtain ⟨k3, k4⟩ := ba k2
      exact ⟨_, ⟨oc, od, n8, n9, n10, n11, n12, n13, n14, osl, rfl, q, k1, dflB_ok k3, kwdB_ok k4⟩, kp⟩
    | _ => cases c2
abbrev AlTd : Type := Bool × List FnW
def obsTd (ex : PySem.W.Frag → Bool) (fs : List Df) (K : PySem.W.Frag) : AlTd := (ex K && fs.all fun d => d.fit K, fs.map fun d => fnA K (d.adr K))
def valTd (fs : List Df) : AlTd := (true, fs.map Df.told)
def SaysTd (ex : PySem.W.Frag → Bool) (fs : List Df) (K : PySem.W.Frag) : Prop := obsTd ex fs K = valTd fs
def obsTdG (n : Nat) (ex : PySem.W.Frag → Bool) (fs : List Df) (g : Addr → Option Obj) : AlTd := obsTd ex fs (frG g (asD g n))
def hookTd (n : Nat) (ex : PySem.W.Frag → Bool) (fs : List Df) : PySem.W.Hook where
  α := AlTd
  obs := fun s => obsTdG n ex fs s.heap.get?
  val := fun _ => valTd fs
  says := fun _ h => ∃ K : PySem.W.Frag, K.In h ∧ SaysTd ex fs K
  of := fun _ _ e => ⟨_, frG_in, e⟩
  keeps := fun _ _ _ ⟨K, hK, c⟩ k => ⟨K, PySem.W.Frag.In.keeps hK k, c⟩
theorem obsTdG_eq {n : Nat} {ex : PySem.W.Frag → Bool} {fs : List Df} {g : Addr → Option Obj} {s : Shared} (h : ∀ a, g a = s.heap.get? a) : obsTdG n ex fs g = (hookTd n ex fs).obs s := by
  have e : g = s.heap.get? := funext h
  subst e; rfl
section
variable {ex : PySem.W.Frag → Bool} {fs : List Df} {K : PySem.W.Frag}
theorem SaysTd.more (c : SaysTd ex fs K) : ex K = true := (ba (congrArg (fun z : AlTd => z.1) c)).1
theorem SaysTd.df (c : SaysTd ex fs K) (i : Nat) {d : Df} (h : fs[i]? = some d := by rfl) : ∃ fd, FunD K d.name d.qual d.params d.body d.scope [] [] (d.adr K) fd := by
  have c2 : (fs.all fun d => d.fit K) = true := (ba (congrArg (fun z : AlTd => z.1) c)).2
  have e : fs.map (fun d => fnA K (d.adr K)) = fs.map Df.told := congrArg (fun z : AlTd => z.2) c
  have e2 : (fs.map fun d => fnA K (d.adr K))[i]? = (fs.map Df.told)[i]? := by rw [e]
  rw [List.getElem?_map, List.getElem?_map, h] at e2
  exact Df.funD (Option.some.inj e2) (List.all_eq_true.mp c2 d (List.mem_of_getElem? h))
end
/-! ### facts of a class with slots -/
def gaB (K : PySem.W.Frag) (x : Str) : Bool := (Fa.glo x).ok K
def frB (K : PySem.W.Frag) (x : Str) : Bool := (Fa.free x).ok K
def slcB (K : PySem.W.Frag) (C : Addr) : Bool := PySem.W.plainGet K C Str.empty && (PySem.W.isClsIn K C && (PySem.W.plainOver K C && eqO (PySem.W.findIn K (.ref C) "__setattr__") (some (some (.builtin "object.__setattr__")))))
theorem slcB_ok {K : PySem.W.Frag} {C : Addr} (h : slcB K C = true) : SlX.SCls K C := by
  obtain ⟨h1, h2⟩ := ba h
  obtain ⟨h3, h4⟩ := ba h2
  obtain ⟨h5, h6⟩ := ba h4
  exact ⟨h1, h3, h5, eqO_ok h6⟩
def slotB (K : PySem.W.Frag) (C : Addr) (f : Str) (i : Nat) : Bool := eqO (PySem.W.findIn K (.ref C) f) (some (some (.ref (ma K C f)))) && (eqO (PySem.W.specialIn K (.ref (ma K C f)) "__get__") (some (some (.builtin "member_descriptor.__get__"))) &&
  (decide (PySem.W.takesIn K (.ref (ma K C f)) = some true) && (decide (PySem.W.typeIn K (.ref (ma K C f)) = some (.type "member_descriptor")) && (decide (PySem.W.slotIn K (ma K C f) C = some i) && decide (i < 1000)))))
theorem slotB_ok {K : PySem.W.Frag} {C : Addr} {f : Str} {i : Nat} (h : slotB K C f i = true) : SlX.Slot1 K C f (ma K C f) i := by
  obtain ⟨h1, h2⟩ := ba h
  obtain ⟨h3, h4⟩ := ba h2
  obtain ⟨h5, h6⟩ := ba h4
  obtain ⟨h7, h8⟩ := ba h6
  obtain ⟨h9, h10⟩ := ba h8
  exact ⟨eqO_ok h1, eqO_ok h3, of_decide_eq_true h5, of_decide_eq_true h7, of_decide_eq_true h9, of_decide_eq_true h10⟩
/-- a property: its getter -/
def pgA (K : PySem.W.Frag) (C : Addr) (f : Str) : Addr := match PySem.W.recIn K (ma K C f) "property" with
  | some (.ref g :: _) => g
  | _ => 0
structure Prp (K : PySem.W.Frag) (C : Addr) (f : Str) : Prop where
  at_ : PySem.W.findIn K (.ref C) f = some (some (.ref (ma K C f)))
  get : PySem.W.specialIn K (.ref (ma K C f)) "__get__" = some (some (.builtin "property.__get__"))
  tk : PySem.W.takesIn K (.ref (ma K C f)) = some true
  rc : ∃ rest, PySem.W.recIn K (ma K C f) "property" = some (.ref (pgA K C f) :: rest)
def prpB (K : PySem.W.Frag) (C : Addr) (f : Str) : Bool := eqO (PySem.W.findIn K (.ref C) f) (some (some (.ref (ma K C f)))) && (eqO (PySem.W.specialIn K (.ref (ma K C f)) "__get__") (some (some (.builtin "property.__get__"))) &&
  (decide (PySem.W.takesIn K (.ref (ma K C f)) = some true) && (match PySem.W.recIn K (ma K C f) "property" with
    | some (.ref _ :: _) => true
    | _ => false)))
theorem prpB_ok {K : PySem.W.Frag} {C : Addr} {f : Str} (h : prpB K C f = true) : Prp K C f := by
  obtain ⟨h1, h2⟩ := ba h
  obtain ⟨h3, h4⟩ := ba h2
  obtain ⟨h5, h6⟩ := ba h4
  refine ⟨eqO_ok h1, eqO_ok h3, of_decide_eq_true h5, ?_⟩
  unfold pgA
  split at h6
  · rename_i g rest e
    exact ⟨rest, by rw [e]⟩
  · cases h6
/-- a method found on the class, called by the machine -/
def mthB (K : PySem.W.Frag) (C : Addr) (m : Str) : Bool := eqO (PySem.W.findIn K (.ref C) m) (some (some (.ref (ma K C m)))) && (PySem.W.isFn K (.ref (ma K C m)) && PySem.W.keepIn K (.ref (ma K C m)))
def isiB (K : PySem.W.Frag) (C : Addr) : Bool := eqO (PySem.W.findIn K (.ref C) "__class__") (some (some (.builtin "object.__class__"))) && (eqO (PySem.W.specialIn K (.builtin "object.__class__") "__get__") (some (some (.builtin "getset_descriptor.__get__"))) &&
  (decide (PySem.W.takesIn K (.builtin "object.__class__") = some true) && decide (PySem.W.mroIn K C (.type "object") = some true)))
theorem isiB_ok {K : PySem.W.Frag} {C : Addr} (h : isiB K C = true) : SlX.SIsi K C := by
  obtain ⟨h1, h2⟩ := ba h
  obtain ⟨h3, h4⟩ := ba h2
  obtain ⟨h5, h6⟩ := ba h4
  exact ⟨eqO_ok h1, eqO_ok h3, of_decide_eq_true h5, of_decide_eq_true h6⟩
def clsB : Stmt → List Stmt
  | .ClassDef _ _ _ b _ _ _ _ _ _ _ => b
  | _ => []
end Td

set_option Elab.async false
set_option linter.all false
set_option maxRecDepth 100000
set_option maxHeartbeats 4000000
namespace Td
open PySem PySem.Spec PyProof.Rows L2

/-! ### arithmetic, named -/
instance decMul (i j : Int) : Decidable (CMul i j) := by unfold CMul; infer_instance
instance decDivN (i j : Int) : Decidable (CDivN i j) := by unfold CDivN; infer_instance
instance decDivW (i j : Int) : Decidable (CDivW i j) := by unfold CDivW; infer_instance
instance decMulW (i j : Int) : Decidable (CMulW i j) := by unfold CMulW; infer_instance
def CPowV (i j : Int) : Prop := 0 ≤ i ∧ 0 ≤ j ∧ (i.natAbs.log2 + 1) * j.toNat ≤ 100000000
instance decPowV (i j : Int) : Decidable (CPowV i j) := by unfold CPowV; infer_instance
def mulM {S : Type} (i j : Int) : SM S Int := grdI CMul (fun i j => i * j) i j
def mulWM {S : Type} (i j : Int) : SM S Int := grdI CMulW (fun i j => i * j) i j
def divM {S : Type} (i j : Int) : SM S Int := grdI CDivN (fun i j => i.fdiv j) i j
def divWM {S : Type} (i j : Int) : SM S Int := grdI CDivW (fun i j => i / j) i j
def modM {S : Type} (i j : Int) : SM S Int := grdI (fun _ j => j ≠ 0) (fun i j => i.fmod j) i j
def powM {S : Type} (i j : Int) : SM S Int := grdI CPowV (fun i j => i ^ j.toNat) i j
section
variable {S : Type} {K : PySem.W.Frag}
theorem stl_grdI {C : Int → Int → Prop} [∀ i j, Decidable (C i j)] {g : Int → Int → Int} (i j : Int) : Stl (grdI C g i j : SM S Int) := stl_bnd stl_grd fun _ => stl_ret _
theorem stl_mul (i j : Int) : Stl (mulM i j : SM S Int) := stl_grdI i j
theorem stl_mulW (i j : Int) : Stl (mulWM i j : SM S Int) := stl_grdI i j
theorem stl_div (i j : Int) : Stl (divM i j : SM S Int) := stl_grdI i j
theorem stl_divW (i j : Int) : Stl (divWM i j : SM S Int) := stl_grdI i j
theorem stl_mod (i j : Int) : Stl (modM i j : SM S Int) := stl_grdI i j
theorem stl_pow (i j : Int) : Stl (powM i j : SM S Int) := stl_grdI i j
theorem vo_mul : VO2 K S rInt rInt rInt (rI CMul fun i j => .int (i * j)) mulM := vo_I CMul fun i j => i * j
theorem vo_mulW : VO2 K S rInt rInt rInt (rI CMulW fun i j => .int (i * j)) mulWM := vo_I CMulW fun i j => i * j
theorem vo_div : VO2 K S rInt rInt rInt (rI CDivN fun i j => .int (i.fdiv j)) divM := vo_I CDivN fun i j => i.fdiv j
theorem vo_divW : VO2 K S rInt rInt rInt (rI CDivW fun i j => .int (i / j)) divWM := vo_I CDivW fun i j => i / j
theorem vo_mod : VO2 K S rInt rInt rInt (rI (fun _ j => j ≠ 0) fun i j => .int (i.fmod j)) modM := vo_I (fun _ j => j ≠ 0) fun i j => i.fmod j
theorem vo_pow : VO2 K S rInt rInt rInt (rI CPowV fun i j => .int (i ^ j.toNat)) powM := vo_I CPowV fun i j => i ^ j.toNat
end
theorem op_powV {X : Cx} : OpR X (binaryOp .Pow) (rI CPowV fun i j => .int (i ^ j.toNat)) := opI fun i j t u s Q E hc q => by
  obtain ⟨h0, h1, h2⟩ := hc
  refine PySem.AutoIntOpsIf.pow ?_
  rw [if_pos h1]
  by_cases hj : (j == 0) = true
  · rw [if_pos hj]
    have e : j = 0 := by simpa using hj
    subst e
    have e2 : i ^ Int.toNat 0 = 1 := by simp
    rw [e2] at q
    exact q
  · rw [if_neg hj]
    have hj' : j ≠ 0 := by simpa using hj
    by_cases hi : (i == 0 || i == 1) = true
    · rw [if_pos hi]
      have e : i ^ j.toNat = i := by
        have hp : j.toNat ≠ 0 := by omega
        rcases (by simpa using hi : i = 0 ∨ i = 1) with e | e
        · rw [e]; exact Int.zero_pow hp
        · rw [e]; exact Int.one_pow
      rw [e] at q
      exact q
    · rw [if_neg hi]
      have hm : ¬ (i == -1) = true := by simp; omega
      rw [if_neg hm]
      have hb : ¬ Builtin.Int.intTooBig (((Builtin.Int.intBits i : Nat) : Int) * j) = true := by
        unfold Builtin.Int.intTooBig
        have b : Builtin.Int.intBits i ≤ i.natAbs.log2 + 1 := by
          unfold Builtin.Int.intBits
          split <;> omega
        have e : bitsLine = 134217728 := by decide
        have e2 : ((Builtin.Int.intBits i : Nat) : Int) * j = ((Builtin.Int.intBits i * j.toNat : Nat) : Int) := by
          rw [Int.natCast_mul, Int.toNat_of_nonneg h1]
        have h3 : Builtin.Int.intBits i * j.toNat ≤ (i.natAbs.log2 + 1) * j.toNat := Nat.mul_le_mul_right _ b
        rw [e2, e]
        simp only [decide_eq_true_eq, gt_iff_lt, Int.not_lt]
        omega
      rw [if_neg hb]
      exact q
/-! ### small helpers of the printed proofs -/
section
variable {X : Cx} {S : Type} {F : FC X.K S} {U : Type} {r : Rp U} {e : Expr} {te : TE} {G G0 G' : S → List Slot} {m : SM S U} {n : Nat}
theorem ex_wk (w : ∀ s, Weak (G s) (G0 s)) (h : EX X F e te G0 G' r m) : EX X F e te G G' r m := ⟨h.pe, fun T t σ s H Q h0 q => h.go T t σ s H Q (h0.weak (w s)) q⟩
theorem wio {K : PySem.W.Frag} {F : FC K S} (hio : F.io = fun _ => uns n) (w : ∀ s, Weak (G s) (uns n)) : ∀ s, Weak (G s) (F.io s) := fun s => by rw [hio]; exact w s
theorem wios {K : PySem.W.Frag} {F : FC K S} {g : S → List Slot} (hio : F.io = g) (w : ∀ s, Weak (G s) (g s)) : ∀ s, Weak (G s) (F.io s) := fun s => by rw [hio]; exact w s
theorem hWE {K : PySem.W.Frag} {F : FC K S} {E : XK} (hW : F.W = fun c d _ H' => E c d H') : ∀ c d σ H, F.W c d σ H → E c d H := fun c d σ H h => by rw [hW] at h; exact h
theorem passes_nx {CX' : CXT} {P : Program} {w : World} (e : CX' = L2.CX P w) : Passes CX' X (fun _ _ _ => False) := fun pins σ H s e' s' I h => by
  subst e
  obtain ⟨a, B, H', cls, d, _, _, _, _, _, _, _, hf⟩ := h
  exact hf.elim
inductive UnAt (G : List Slot) : List Nat → Prop
  | nil : UnAt G []
  | cons {v vs} (e : G[v]? = some .un) (h : UnAt G vs) : UnAt G (v :: vs)
theorem UnAt.all {G : List Slot} {vs : List Nat} (h : UnAt G vs) : ∀ v, v ∈ vs → G[v]? = some .un ∨ G[v]? = none := by
  induction h with
  | nil => intro v z; cases z
  | cons e _ ih =>
    intro v z
    rcases List.mem_cons.mp z with z | z
    · rw [z]; exact .inl e
    · exact ih v z
end
section
variable {X : Cx} {S : Type} {F : FC X.K S} {N L R : Type} {sts : List Stmt} {ts : TS} {GN : N → S → List Slot} {GL : L → S → List Slot} {r : Rp R} {out : SM S (Fl N L R)}
theorem bx_nf {G : S → List Slot} (G' : S → List Slot) (e : ∀ s, G s = G' s) (h : BX X F sts ts G' GN GL r out) : BX X F sts ts G GN GL r out := by
  have z : G = G' := funext e
  subst z
  exact h
end
/-! ### data's text -/
def dP {A B : Type} (f : A → PyData) (g : B → PyData) (p : A × B) : PyData := .tuple [f p.1, g p.2]
def dT3 {A B C : Type} (f : A → PyData) (g : B → PyData) (h : C → PyData) (p : A × B × C) : PyData := .tuple [f p.1, g p.2.1, h p.2.2]
def dL {A : Type} (f : A → PyData) (xs : List A) : PyData := .list (xs.map f)
def dTL {A : Type} (f : A → PyData) (xs : List A) : PyData := .tuple (xs.map f)
def dO {A : Type} (f : A → PyData) : Option A → PyData
  | none => .none
  | some a => f a
def dN (_ : Unit) : PyData := .none
section
variable {A B C : Type} {r : Rp A} {q : Rp B} {l : Rp C} {f : A → PyData} {g : B → PyData} {h : C → PyData}
theorem en_N : Enc rNon dN := enc_non
theorem en_P (h1 : Enc r f) (h2 : Enc q g) : Enc (rPair r q) (dP f g) := enc_pair h1 h2
theorem en_T3 (h1 : Enc r f) (h2 : Enc q g) (h3 : Enc l h) : Enc (rTup3 r q l) (dT3 f g h) := enc_tup3 h1 h2 h3
theorem en_L (h1 : Enc r f) : Enc (rList r) (dL f) := enc_list h1
theorem en_TL (h1 : Enc r f) : Enc (rTupL r) (dTL f) := enc_tupL h1
theorem en_O (h1 : Enc r f) : Enc (rOpt r) (dO f) := by
  intro K M H v a B k
  cases a with
  | none =>
    have e : v = .non := k.1
    rw [e]; exact .non
  | some a => exact h1 k
end
/-! ### two lists side by side, of things that own nothing -/
section
variable {K : PySem.W.Frag} {S : Type} {F : FC K S} {A B : Type} {rx : Rp A} {ry : Rp B}
theorem src_zipC {a b : Addr} {xs : List A} {ys : List B} (c1 : rx.Cp) (c2 : ry.Cp) : Src F (fun _ => True) (Itz K a b) [.is (sh (rList ry)) ys, .is (sh (rList rx)) xs] [.ref b, .ref a] (rPair rx ry) (xs.zip ys) where
  len := rfl
  go := (src_zip (rx := rx) (ry := ry) (xs := xs) (ys := ys) (a := a) (b := b)).go
  stop := (src_zip (rx := rx) (ry := ry) (xs := xs) (ys := ys) (a := a) (b := b)).stop
  yld := by
    intro i c x T1 t1 T t G σ H H' _ e h hy ha
    obtain ⟨ha1, ha2⟩ := zip_get ha
    obtain ⟨A1, A2, h⟩ := h
    obtain ⟨_, v, ev, _, C, ⟨p, vs, _, ep, hp, hA, eC⟩, hC⟩ := held e h
    have h2 : AtP F ((T1 ++ [.is (sh (rList ry)) ys]) ++ ([.is (sh (rList rx)) xs] ++ T)) ((t1 ++ [.ref b]) ++ ([.ref a] ++ t)) G σ H A1 A2 := by simpa using h
    obtain ⟨_, v2, ev2, _, C2, ⟨p2, vs2, _, ep2, hp2, hA2, eC2⟩, hC2⟩ := held (by simp [e]) h2
    cases ev
    cases ep
    cases ev2
    cases ep2
    obtain ⟨T, y1, y2, rfl, hT, rfl, hy1, hy2⟩ := hy
    obtain ⟨w1, D1, e1, hr1, sub1⟩ := hA2.get' ha1
    obtain ⟨w2, D2, e2, hr2, sub2⟩ := hA.get' ha2
    have q1 := hy1 vs2 (SqL.of hp2)
    have q2 := hy2 vs (SqL.of hp)
    rw [e1] at q1
    rw [e2] at q2
    cases q1
    cases q2
    have eD1 := c1 hr1
    have eD2 := c2 hr2
    subst eD1 eD2
    exact At.tup2 ⟨A1, A2, (h.pushM hr1).pushM hr2⟩ hT
end
section
variable {X : Cx} {S : Type} {F : FC X.K S} {A B : Type} {rx : Rp A} {ry : Rp B} {e a b : Expr} {elts : List Expr} {kk : Nat} {tpos : Pos} {te ta tb : TE} {G G1 G2 G' : S → List Slot} {m : SM S (List A)} {m2 : SM S (List B)} {pos p0 : Pos}
theorem ei_zipC (h : EX X F a ta G G1 (sh (rList rx)) m) (h2 : EX X F b tb G1 G2 (sh (rList ry)) m2) (c1 : rx.Cp) (c2 : ry.Cp) (hg : Gl X "zip") (hm : X.mg "zip" = none) (hs : PySem.W.isStarred a = false := by rfl) (hs2 : PySem.W.isStarred b = false := by rfl) :
    EI X F (.Tuple elts kk tpos) (.Call (.Name "zip" p0) [a, b] [] pos) (iZip X.K (tCons ta (tCons tb tNil))) G G2 (fun _ => True) (rPair rx ry) (bnd m fun xs => bnd m2 fun ys => ret (xs.zip ys)) :=
  ⟨pi_zip hg hm (pa_cons h.pe (pa_cons h2.pe pa_nil (star1 hs2)) (star1 hs)) (by first | (rw [star1 hs, star1 hs2]; done) | (rw [star1 hs, star1 hs2]; rfl)) (by first | (rw [star1 hs2]; done) | (rw [star1 hs2]; rfl)), fun T t σ s H R h0 q => h.go T t σ s H _ h0 (wp_mono (wp_bnd q) (fun xs s1 q1 v H1 at1 => by
    refine h2.go _ _ σ s1 H1 _ at1 (wp_mono (wp_bnd q1) (fun ys s2 q2 w H2 at2 => ?_) fun _ _ z => z)
    obtain ⟨M, B, _, C, ⟨p, vs, D, ev, hp, hD, _⟩, _⟩ := snd_rel at2
    obtain ⟨M', B', _, C', ⟨p', vs', D', ev', hp', hD', _⟩, _⟩ := top_rel at2
    subst ev
    subst ev'
    exact ⟨p, p', vs, vs', rfl, SqL.of hp, SqL.of hp', q2 _ [_, _] [_, _] H2 (src_zipC c1 c2) at2⟩) fun _ _ z => z)⟩
end
end Td

set_option Elab.async false
set_option linter.all false
set_option maxRecDepth 100000
set_option maxHeartbeats 4000000
namespace Td
open PySem PySem.Spec PyProof.Rows L2

section
variable {X : Cx} {S : Type} {F : FC X.K S} {A B N L R : Type} {rx : Rp A} {rb : Rp B} {tg e elt : Expr} {ifs : List Expr} {scope : Scope} {own : List (Str × Nat)} {wi : TI} {g : Shared → Hp → Addr → List (Str × Addr) → List Addr → TG} {ws : List Nat} {tt : Shared → Hp → Addr → List (Str × Addr) → List Addr → TT} {te : Shared → Hp → Addr → List (Str × Addr) → List Addr → TE} {G G1 : S → List Slot} {C : List Slot → Prop} {mi : SM S (List A)} {Gt : S → A → List Slot} {mt : A → SM S Bool} {me : A → SM S B} {pos spos p0 : Pos} {GN : N → S → List Slot} {GL : L → S → List Slot} {r : Rp R} {rest : List Stmt} {tr : TS}
/-- y = [..] -/
theorem bx_lc {out : List B → SM S (Fl N L R)} {y : Str} (i : Nat) {gs : S → Slot} (sh0 : Shared) (hc : X.calm = true) (hN : X.N.Nodup) (hi : EI X F tg e wi G G1 C rx mi) (hC : ∀ s, C (G1 s)) (ok : BlkOk X.N X.env.scope scope own) (hun : ∀ s, UnAt (G1 s) (own.map (·.2))) (sub : ∀ j, j ∈ ws → j ∈ own.map (·.2)) (hwk : ∀ s x, Weak (Gt s x) (G1 s))
    (hg : ∀ (s0 : Shared) (H : Hp) (D : Addr) (cl : List (Str × Addr)) (fp : List Addr) (s : S), EG (X.blk s0 H scope (compEnvC scope cl D X.env) fp) F.nx tg (g s0 H D cl fp) ws rx (G1 s) (Gt s))
    (ht : ∀ (s0 : Shared) (H : Hp) (D : Addr) (cl : List (Str × Addr)) (fp : List Addr) (x : A), ETs (X.blk s0 H scope (compEnvC scope cl D X.env) fp) F.nx ifs (tt s0 H D cl fp) (fun s => Gt s x) (fun s => Gt s x) (mt x))
    (he : ∀ (s0 : Shared) (H : Hp) (D : Addr) (cl : List (Str × Addr)) (fp : List Addr) (x : A), EX (X.blk s0 H scope (compEnvC scope cl D X.env) fp) F.nx elt (te s0 H D cl fp) (fun s => Gt s x) (fun s => Gt s x) rb (me x)) (hA : Inhabited A) (hS : Inhabited S)
    (hb : ∀ a, BX X F rest tr (fun s => (G1 s).set i (.is (rList rb) a)) GN GL r (out a)) (hG : ∀ s, (G1 s)[i]? = some (gs s)) (hy : X.N[i]? = some y := by rfl) (hyl : X.env.scope.names.lookup y = some .local := by rfl) (hsw : swapsWith (.ListComp elt [⟨tg, e, ifs, 0⟩] scope pos) (some (.Name y p0)) spos.line X.env = pure true := by rfl)
    (hge : ∀ s0 H D cl fp, g s0 H D cl fp = g sh0 (fun _ => none) 0 [] [] := by intros; rfl) (hte : ∀ s0 H D cl fp, tt s0 H D cl fp = tt sh0 (fun _ => none) 0 [] [] := by intros; rfl) (hee : ∀ s0 H D cl fp, te s0 H D cl fp = te sh0 (fun _ => none) 0 [] [] := by intros; rfl) (hs : ∀ x, foldedSetIterable e X.env x = pure x := by intro _; rfl) : BX X F (.Assign [.Name y p0] (.ListComp elt [⟨tg, e, ifs, 0⟩] scope pos) spos :: rest) (tSeq (tAsg (tLc wi (g sh0 (fun _ => none) 0 [] []) (tt sh0 (fun _ => none) 0 [] []) (te sh0 (fun _ => none) 0 [] []) (own.map (·.2))) (gName i)) tr) G GN GL r (bnd (bnd mi fun xs => lcM (fun x => lcIt (mt x) (me x)) [] xs) out) :=
  bx_asgW i (ps_setLc hc hN hy hyl hsw hi.pi ok (fun s0 H D cl fp => by rw [← hge s0 H D cl fp]; exact (hg s0 H D cl fp hS.default).pg) (fun s0 H D cl fp => by rw [← hte s0 H D cl fp]; exact (ht s0 H D cl fp hA.default).pt) (fun s0 H D cl fp => by rw [← hee s0 H D cl fp]; exact (he s0 H D cl fp hA.default).pe) hs)
    (go_lc hi.go hC (fun s => (hun s).all) sub (fun s => (hg sh0 (fun _ => none) 0 [] [] s).go) hwk (fun x => (ht sh0 (fun _ => none) 0 [] [] x).go) (fun x => (he sh0 (fun _ => none) 0 [] [] x).go)) hb ⟨[]⟩ hG
theorem bx_lcS {out : List B → SM S (Fl N L R)} {y : Str} (i : Nat) {gs : S → Slot} (sh0 : Shared) (hc : X.calm = true) (hN : X.N.Nodup) (hi : EI X F tg e wi G G1 C rx mi) (hC : ∀ s, C (G1 s)) (ok : BlkOk X.N X.env.scope scope own) (hun : ∀ s, UnAt (G1 s) (own.map (·.2))) (sub : ∀ j, j ∈ ws → j ∈ own.map (·.2)) (hwk : ∀ s x, Weak (Gt s x) (G1 s))
    (hg : ∀ (s0 : Shared) (H : Hp) (D : Addr) (cl : List (Str × Addr)) (fp : List Addr) (s : S), EG (X.blk s0 H scope (compEnvC scope cl D X.env) fp) F.nx tg (g s0 H D cl fp) ws rx (G1 s) (Gt s))
    (ht : ∀ (s0 : Shared) (H : Hp) (D : Addr) (cl : List (Str × Addr)) (fp : List Addr) (x : A), ETs (X.blk s0 H scope (compEnvC scope cl D X.env) fp) F.nx ifs (tt s0 H D cl fp) (fun s => Gt s x) (fun s => Gt s x) (mt x))
    (he : ∀ (s0 : Shared) (H : Hp) (D : Addr) (cl : List (Str × Addr)) (fp : List Addr) (x : A), EX (X.blk s0 H scope (compEnvC scope cl D X.env) fp) F.nx elt (te s0 H D cl fp) (fun s => Gt s x) (fun s => Gt s x) rb (me x)) (hA : Inhabited A) (hS : Inhabited S)
    (hb : ∀ a, BX X F rest tr (fun s => (G1 s).set i (.is (sh (rList rb)) a)) GN GL r (out a)) (hG : ∀ s, (G1 s)[i]? = some (gs s)) (hy : X.N[i]? = some y := by rfl) (hyl : X.env.scope.names.lookup y = some .local := by rfl) (hsw : swapsWith (.ListComp elt [⟨tg, e, ifs, 0⟩] scope pos) (some (.Name y p0)) spos.line X.env = pure true := by rfl)
    (hge : ∀ s0 H D cl fp, g s0 H D cl fp = g sh0 (fun _ => none) 0 [] [] := by intros; rfl) (hte : ∀ s0 H D cl fp, tt s0 H D cl fp = tt sh0 (fun _ => none) 0 [] [] := by intros; rfl) (hee : ∀ s0 H D cl fp, te s0 H D cl fp = te sh0 (fun _ => none) 0 [] [] := by intros; rfl) (hs : ∀ x, foldedSetIterable e X.env x = pure x := by intro _; rfl) : BX X F (.Assign [.Name y p0] (.ListComp elt [⟨tg, e, ifs, 0⟩] scope pos) spos :: rest) (tSeq (tAsg (tLc wi (g sh0 (fun _ => none) 0 [] []) (tt sh0 (fun _ => none) 0 [] []) (te sh0 (fun _ => none) 0 [] []) (own.map (·.2))) (gName i)) tr) G GN GL r (bnd (bnd mi fun xs => lcM (fun x => lcIt (mt x) (me x)) [] xs) out) :=
  bx_asgW i (ps_setLc hc hN hy hyl hsw hi.pi ok (fun s0 H D cl fp => by rw [← hge s0 H D cl fp]; exact (hg s0 H D cl fp hS.default).pg) (fun s0 H D cl fp => by rw [← hte s0 H D cl fp]; exact (ht s0 H D cl fp hA.default).pt) (fun s0 H D cl fp => by rw [← hee s0 H D cl fp]; exact (he s0 H D cl fp hA.default).pe) hs)
    (fun T t σ s H Q h0 q => go_lc hi.go hC (fun s => (hun s).all) sub (fun s => (hg sh0 (fun _ => none) 0 [] [] s).go) hwk (fun x => (ht sh0 (fun _ => none) 0 [] [] x).go) (fun x => (he sh0 (fun _ => none) 0 [] [] x).go) T t σ s H Q h0 (wp_mono q (fun a s1 q1 v H1 at1 => q1 v H1 at1.freeze) fun _ _ z => z)) hb ⟨[]⟩ hG
/-- as a value -/
theorem ex_lcU (sh0 : Shared) (hc : X.calm = true) (hN : X.N.Nodup) (hi : EI X F tg e wi G G1 C rx mi) (hC : ∀ s, C (G1 s)) (ok : BlkOk X.N X.env.scope scope own) (hun : ∀ s, UnAt (G1 s) (own.map (·.2))) (sub : ∀ j, j ∈ ws → j ∈ own.map (·.2)) (hwk : ∀ s x, Weak (Gt s x) (G1 s))
    (hg : ∀ (s0 : Shared) (H : Hp) (D : Addr) (cl : List (Str × Addr)) (fp : List Addr) (s : S), EG (X.blk s0 H scope (compEnvC scope cl D X.env) fp) F.nx tg (g s0 H D cl fp) ws rx (G1 s) (Gt s))
    (ht : ∀ (s0 : Shared) (H : Hp) (D : Addr) (cl : List (Str × Addr)) (fp : List Addr) (x : A), ETs (X.blk s0 H scope (compEnvC scope cl D X.env) fp) F.nx ifs (tt s0 H D cl fp) (fun s => Gt s x) (fun s => Gt s x) (mt x))
    (he : ∀ (s0 : Shared) (H : Hp) (D : Addr) (cl : List (Str × Addr)) (fp : List Addr) (x : A), EX (X.blk s0 H scope (compEnvC scope cl D X.env) fp) F.nx elt (te s0 H D cl fp) (fun s => Gt s x) (fun s => Gt s x) rb (me x)) (hA : Inhabited A) (hS : Inhabited S)
    (hge : ∀ s0 H D cl fp, g s0 H D cl fp = g sh0 (fun _ => none) 0 [] [] := by intros; rfl) (hte : ∀ s0 H D cl fp, tt s0 H D cl fp = tt sh0 (fun _ => none) 0 [] [] := by intros; rfl) (hee : ∀ s0 H D cl fp, te s0 H D cl fp = te sh0 (fun _ => none) 0 [] [] := by intros; rfl) (hs : ∀ x, foldedSetIterable e X.env x = pure x := by intro _; rfl) : EX X F (.ListComp elt [⟨tg, e, ifs, 0⟩] scope pos) (tLc wi (g sh0 (fun _ => none) 0 [] []) (tt sh0 (fun _ => none) 0 [] []) (te sh0 (fun _ => none) 0 [] []) (own.map (·.2))) G G1 (rList rb) (bnd mi fun xs => lcM (fun x => lcIt (mt x) (me x)) [] xs) :=
  ex_lc sh0 hc hN hi hC ok (fun s => (hun s).all) sub hwk (fun s0 H D cl fp s => by rw [← hge s0 H D cl fp]; exact hg s0 H D cl fp s) (fun s0 H D cl fp x => by rw [← hte s0 H D cl fp]; exact ht s0 H D cl fp x) (fun s0 H D cl fp x => by rw [← hee s0 H D cl fp]; exact he s0 H D cl fp x) hA hS hs
end
end Td

set_option Elab.async false
set_option linter.all false
set_option maxRecDepth 100000
set_option maxHeartbeats 4000000
namespace Td
open PySem PySem.Spec PyProof.Rows L2

/-! ### calls whose in/out argument is a temp -/
/-- a computation with a state of its own -/
def subM {S S' T : Type} (m : SM S' T) (s0 : S') : SM S (T × S') := fun s => match m s0 with
  | .ok a s' => .ok (a, s') s
  | .exc e _ => .exc e s
  | .stuck => .stuck
theorem wp_subM {S S' T : Type} {m : SM S' T} {s0 : S'} {s : S} {P : T × S' → S → Prop} {E : Exn → S → Prop} (h : ((subM m s0 : SM S (T × S')) s).wp P E) : (m s0).wp (fun a s' => P (a, s') s) (fun e _ => E e s) := by
  unfold subM at h
  cases hm : m s0 with
  | ok a s' => rw [hm] at h; exact h
  | exc e s' => rw [hm] at h; exact h
  | stuck => rw [hm] at h; exact h
section
variable {K : PySem.W.Frag} {S : Type} {F : FC K S} {T T0 : List Slot} {t t0 : List V} {G : List Slot} {σ : L2.St} {H H' : Hp}
theorem AtS.mapOk {M M' : List Addr} {H' : Hp} {G : List Slot} {s : List (Option V)} {A : List Addr} (h : AtS K M H G s A) (k : ∀ {g x B}, Slot.ok K M H g x B → (∀ p, p ∈ B → p ∈ A) → Slot.ok K M' H' g x B) : AtS K M' H' G s A := by
  induction h with
  | nil => exact .nil
  | cons h t ih => exact .cons (k h fun p hp => List.mem_append_left _ hp) (ih fun h hp => k h fun p z => List.mem_append_right _ (hp p z))
theorem AtP.lift {g : Slot} {v : V} {A1 A2 : List Addr} (e : t0.length = T0.length) (h : AtP F (T0 ++ (g :: T)) (t0 ++ (v :: t)) G σ H A1 A2) :
    ∃ B A1', (∀ p, p ∈ A1' ++ (B ++ A2) ↔ p ∈ A1 ++ A2) ∧ g.ok K (A1 ++ A2 ++ F.M0) H (some v) B ∧ AtS K (A1' ++ (B ++ A2) ++ F.M0) H G σ A2 ∧ AtP F (T0 ++ T) (t0 ++ t) (g :: G) (some v :: σ) H A1' (B ++ A2) := by
  have ht := h.tmp
  rw [List.map_append] at ht
  obtain ⟨C, D, eA, h1, h2⟩ := AtS.split (by rw [List.length_map, e]) ht
  obtain ⟨B, D', eD, hg, h3⟩ := AtS.cons_inv h2
  subst eA eD
  have mm : ∀ p, p ∈ (C ++ D') ++ (B ++ A2) ↔ p ∈ (C ++ (B ++ D')) ++ A2 := fun p => by
    simp only [List.mem_append]; grind
  have hM : ∀ x, x ∈ (C ++ D') ++ (B ++ A2) ++ F.M0 → x ∈ (C ++ (B ++ D')) ++ A2 ++ F.M0 ∨ H x = none := fun x hx => .inl (by
    have := mm x
    simp only [List.mem_append] at *
    grind)
  have nd := h.good.nd
  refine ⟨B, C ++ D', mm, hg, h.loc.grow hM, ?_, .cons (Slot.ok_grow hg hM) (h.loc.grow hM), h.good.sub ?_ fun p hp => (mm p).mp hp⟩
  · rw [List.map_append]
    exact (h1.grow hM).append (h3.grow hM)
  · simp only [List.nodup_append, List.mem_append] at *
    grind
theorem At.low {g : Slot} {x : Option V} (h : At F T t (g :: G) (x :: σ) H) : At F T t G σ H := by
  obtain ⟨A1, A2, h⟩ := h
  obtain ⟨B, A', eA, hg, h2⟩ := AtS.cons_inv h.loc
  subst eA
  have nd := h.good.nd
  have hM : ∀ x, x ∈ A1 ++ A' ++ F.M0 → x ∈ A1 ++ (B ++ A') ++ F.M0 ∨ H x = none := fun x hx => .inl (by simp only [List.mem_append] at *; grind)
  exact ⟨A1, A', h.tmp.grow hM, h2.grow hM, h.good.sub (by simp only [List.nodup_append, List.mem_append] at *; grind) fun p hp => by simp only [List.mem_append] at *; grind⟩
theorem At.sink {g : Slot} {v : V} (h : At F T t (g :: G) (some v :: σ) H) : At F (g :: T) (v :: t) G σ H := by
  obtain ⟨A1, A2, h⟩ := h
  obtain ⟨B, A', eA, hg, h2⟩ := AtS.cons_inv h.loc
  subst eA
  have nd := h.good.nd
  have hM : ∀ x, x ∈ (B ++ A1) ++ A' ++ F.M0 → x ∈ A1 ++ (B ++ A') ++ F.M0 ∨ H x = none := fun x hx => .inl (by simp only [List.mem_append] at *; grind)
  exact ⟨B ++ A1, A', .cons (Slot.ok_grow hg hM) (h.tmp.grow hM), h2.grow hM, h.good.sub (by simp only [List.nodup_append, List.mem_append] at *; grind) fun p hp => by simp only [List.mem_append] at *; grind⟩
/-- the promise of a callee, its in/out argument in a slot ahead -/
theorem run_ioS {S' U W : Type} {n : Nat} {rio : Rp S'} {Pr : U → List Slot} {r : Rp W} {f : U → SM S' W} {E : XK} {L : List Arg} {ts vr : List V} {w : V} {s0 : S'} {u : U} {A1' A2 C : List Addr} {Q : VK} (cio : rio.Clo)
    (hio : rio.rel K (A1' ++ (C ++ A2) ++ F.M0) H w s0 C) (tail : AtS K (A1' ++ (C ++ A2) ++ F.M0) H G σ A2) (at2 : AtP F ((tmps L).reverse ++ T) (ts.reverse ++ t) (.is rio s0 :: G) (some w :: σ) H A1' (C ++ A2)) (lts : ts.length = (tmps L).length) (hn : vr.length + 1 = n)
    (hent : AtS K (A1' ++ (C ++ A2) ++ F.M0) H (Pr u) (vr.map some) [])
    (q : (f u s0).wp (fun b s' => ∀ v H', At F (.is rio s' :: .is r b :: T) (w :: v :: t) G σ H' → Q v H') (fun e s' => ∀ d v H', At F (.is rPay e.pay :: T) (v :: t) G σ H' → H' d = some (.xd [("value", v)]) → E (.ref (He.ga K e.cls)) (some d) H')) :
    SpI K n rio Pr r f (w :: vr) H Q E := by
  have tC := rio.trk hio
  have nd := at2.good.nd
  have disC : ∀ p, p ∈ C → p ∉ A1' ++ ([] ++ A2) ++ F.M0 := fun p hp z => by
    have out := at2.good.out p
    simp only [List.nodup_append, List.mem_append, List.nil_append] at *
    grind
  have ndC : C.Nodup := by
    simp only [List.nodup_append] at nd
    exact nd.2.1.1
  have tr := at2.m_trk
  have entry : At (FC.c (K := K) (S := S') H C (A1' ++ ([] ++ A2) ++ F.M0)) [] [] (.pn w rio s0 :: Pr u) ((w :: vr).map some) H := by
    refine ⟨[], C ++ [], .nil, .cons ⟨rfl, cio hio⟩ (hent.grow fun p hp => .inl ?_), ⟨by simpa using ndC, fun p hp => disC p (by simpa using hp), fun p hp => .inr (show p ∈ C by simpa using hp), tC, fun _ _ e _ => e, fun p hp => ⟨tr p ?_, fun z => disC p z hp⟩⟩⟩
    · have hp' : p ∈ [] ++ (C ++ []) ++ (A1' ++ ([] ++ A2) ++ F.M0) := hp
      simp only [List.mem_append, List.append_nil, List.nil_append] at *
      grind
    · have hp' : p ∈ A1' ++ ([] ++ A2) ++ F.M0 := hp
      simp only [List.mem_append, List.nil_append] at *
      grind
  have back : ∀ (M' : List Addr) (H' : Hp) (g' : Slot) (x' : Option V) (B' : List Addr), (∀ {g x B}, Slot.ok K (A1' ++ (C ++ A2) ++ F.M0) H g x B → (∀ p, p ∈ B → p ∈ [] ∨ p ∈ A2) → Slot.ok K M' H' g x B) → g'.ok K M' H' x' B' → AtS K M' H' ((.is rio s0 :: G).set 0 g') ((some w :: σ).set 0 x') ([] ++ (B' ++ A2)) := by
    intro M' H' g' x' B' k hg'
    show AtS K M' H' (g' :: G) (x' :: σ) (B' ++ A2)
    exact .cons hg' (tail.mapOk fun hs sub => k hs fun p hp => .inr (sub p hp))
  have hM : ∀ p, p ∈ A1' ++ ([] ++ A2) ++ F.M0 → p ∈ A1' ++ ([] ++ A2) ++ F.M0 := fun _ z => z
  refine ⟨u, s0, C, _, by rw [List.length_cons, hn], entry, wp_mono q (fun b s2 q3 v H' hx => ?_) (fun e s2 q3 d v H' hx hd => ?_)⟩
  · have z := At.backIo (j := 0) at2 (P1 := []) rfl back rfl tC hx cio (.inr hM)
    have z2 := At.dropU (by simp [lts]) z
    have z3 := (At.unpin z2 (i := 0) rfl).2
    exact q3 v H' (At.sink z3)
  · have z := At.backIo (j := 0) at2 (P1 := []) rfl back rfl tC hx cio (.inr hM)
    exact q3 d v H' (At.low (At.dropU (by simp [lts]) z)) hd
/-- .. a temp below the other arguments -/
theorem run_ioT {S' U W : Type} {n : Nat} {rio : Rp S'} {Pr : U → List Slot} {r : Rp W} {f : U → SM S' W} {E : XK} {L : List Arg} {ts vr : List V} {w : V} {s0 : S'} {u : U} {A1 A2 : List Addr} {Q : VK} (cio : rio.Clo)
    (at1 : AtP F ((tmps L).reverse ++ (.is rio s0 :: T)) (ts.reverse ++ (w :: t)) G σ H A1 A2) (av : ArgV σ L ts vr) (hn : L.length + 1 = n) (he : EntS G L (Pr u))
    (q : (f u s0).wp (fun b s' => ∀ v H', At F (.is rio s' :: .is r b :: T) (w :: v :: t) G σ H' → Q v H') (fun e s' => ∀ d v H', At F (.is rPay e.pay :: T) (v :: t) G σ H' → H' d = some (.xd [("value", v)]) → E (.ref (He.ga K e.cls)) (some d) H')) :
    SpI K n rio Pr r f (w :: vr) H Q E := by
  have hent := entS_at at1 av he
  have lts := (argV_len av).2
  obtain ⟨C, A1', mm, hg, tail, at2⟩ := at1.lift (T0 := (tmps L).reverse) (t0 := ts.reverse) (by simp [lts])
  obtain ⟨w', ew, hio⟩ := hg
  cases ew
  have hMM : ∀ p, p ∈ A1' ++ (C ++ A2) ++ F.M0 → p ∈ A1 ++ A2 ++ F.M0 ∨ H p = none := fun p hp => .inl (by
    have := mm p
    simp only [List.mem_append] at *
    grind)
  exact run_ioS cio (cio hio) tail at2 lts (by rw [(argV_len av).1, hn]) (hent.grow hMM) q
theorem go_callIoT {S' U W A : Type} {n : Nat} {rio : Rp S'} {Pr : U → List Slot} {r : Rp W} {f : U → SM S' W} {fm : A → SM S' W} {E : XK} {ta : TA} {G G' : S → List Slot} {LA : A → List Arg} {mA : SM S A} {sx : A → S'} (u : A → U) (hf : ∀ a, fm a = f (u a)) (cio : rio.Clo) (h : GA F ta G G' LA mA) (hL : ∀ a, LA a = .t (.is rio (sx a)) :: (LA a).tail) (hn : ∀ a, (LA a).length = n)
    (he : ∀ a s, EntS (G' s) (LA a).tail (Pr (u a))) (hW : ∀ c d σ H, F.W c d σ H → E c d H) (hw : ∀ s, Weak (G' s) (F.io s)) :
    GE F (tCall (SpI K n rio Pr r f) [] E ta) G G' r (bnd mA fun a => bnd (subM (fm a) (sx a)) fun p => ret p.1) := by
  intro T t σ s H Q h0 q
  have ef : fm = fun a => f (u a) := funext hf
  subst ef
  refine h T t σ s H _ h0 (wp_mono (wp_bnd q) (fun a s1 q1 ts vs H1 at1 av => ?_) fun _ _ z => z)
  have q2 := wp_subM (wp_bnd q1)
  obtain ⟨w, ts', vr, e1, e2, av'⟩ : ∃ w ts' vr, ts = w :: ts' ∧ vs = w :: vr ∧ ArgV σ (LA a).tail ts' vr := by
    have av2 := av
    rw [hL a] at av2
    cases av2 with
    | t h => exact ⟨_, _, _, rfl, rfl, h⟩
  subst e1 e2
  obtain ⟨A1, A2, at1⟩ := at1
  have at2 : AtP F ((tmps (LA a).tail).reverse ++ (.is rio (sx a) :: T)) (ts'.reverse ++ (w :: t)) (G' s1) σ H1 A1 A2 := by
    rw [hL a] at at1
    simpa [tmps] using at1
  show SpI K n rio Pr r f (w :: vr ++ []) H1 Q E
  rw [List.append_nil]
  have hn' : (LA a).tail.length + 1 = n := by
    have z := hn a
    rw [hL a] at z
    simpa using z
  refine run_ioT cio at2 av' hn' (he a s1) (wp_mono q2 (fun b s' q3 v H' hx => q3 v H' hx.pop) (fun e s' q3 d v H' hx hd => ?_))
  refine hW _ _ σ _ (q3 d v H' ?_ hd)
  have z2 := hx.weak (hw s1)
  exact At.dropM (T0 := [_]) (t0 := [v]) (T := []) (t := []) rfl (T1 := T) (t1 := t) (by obtain ⟨B1, B2, hz⟩ := h0; have := hz.tmp.length; simpa using this) (by simpa using z2)
end
section
variable {X : Cx} {S S' : Type} {F : FC X.K S} {U W A : Type} {n k : Nat} {rio : Rp S'} {Pr : U → List Slot} {r : Rp W} {f : U → SM S' W} {fm : A → SM S' W} {E : XK} {ta : TA} {G G' : S → List Slot} {LA : A → List Arg} {mA : SM S A} {CX : CXT} {fA : Addr} {fd : FuncData} {ps : List Str} {x : Str} {p pos : Pos} {e : Expr} {es : List Expr} {sx : A → S'}
theorem ex_callIoT (u : A → U) (FO : FnOk X.prog X.w X.K X.mg X.base CX k fA fd ps (SpI X.K n rio Pr r f)) (hr : Room k X.A) (hg : Gl X x) (hm : X.mg x = some (.ref fA)) (hk : PySem.W.keepIn X.K (.ref fA) = true) (hb : Binds X.K fd ps []) (hx : Passes CX X E)
    (cio : rio.Clo) (h : EA X F (e :: es) ta G G' LA mA) (hn : ∀ a, (LA a).length = n)
    (he : ∀ a s, EntS (G' s) (LA a).tail (Pr (u a))) (hW : ∀ c d σ H, F.W c d σ H → E c d H) (hw : ∀ s, Weak (G' s) (F.io s)) (hL : ∀ a, LA a = .t (.is rio (sx a)) :: (LA a).tail := by intro _; rfl) (hf : ∀ a, fm a = f (u a) := by intro _; rfl)
    (hst : PySem.W.isStarred e = false := by rfl) (hpl : (backTo pos (starEach es X.env)).any (·.1) = false := by rfl) (hdb : (x == ("__debug__" : Str)) = false := by decide) :
    EX X F (.Call (.Name x p) (e :: es) [] pos) (tCall (SpI X.K n rio Pr r f) [] E ta) G G' r (bnd mA fun a => bnd (subM (fm a) (sx a)) fun p => ret p.1) :=
  ⟨pe_call FO hr hg hm hk hb .nil hx h.pa (hdb := hdb) (he := star1 hst) (hpl := hpl), go_callIoT u hf cio h.go hL hn he hW hw⟩
end
end Td

set_option Elab.async false
set_option linter.all false
set_option maxRecDepth 100000
set_option maxHeartbeats 4000000
namespace Td
open PySem PySem.Spec PyProof.Rows L2

/-! ### calls of defs that the machine makes itself, without an exception -/
section
variable {K : PySem.W.Frag} {S : Type} {F : FC K S} {T : List Slot} {t : List V} {G : List Slot} {σ : L2.St} {H : Hp}
theorem run_sp {U W : Type} {n : Nat} {Ps : U → List Slot} {r : Rp W} {f : U → SM Unit W} {E : XK} {L : List Arg} {ts vs : List V} {u : U} {A1 A2 : List Addr} {Q : VK} (at1 : AtP F ((tmps L).reverse ++ T) (ts.reverse ++ t) G σ H A1 A2) (av : ArgV σ L ts vs) (hn : L.length = n) (he : EntS G L (Ps u))
    (q : (f u ()).wp (fun b _ => ∀ v H', At F (.is r b :: T) (v :: t) G σ H' → Q v H') (fun _ _ => False)) : SpP K n Ps r f vs H Q E := by
  have hat := entS_at at1 av he
  refine ⟨u, (), [], A1 ++ A2 ++ F.M0, by rw [(argV_len av).1, hn], ⟨[], [], .nil, hat, good_c at1.m_trk⟩, wp_mono q (fun b _ q3 v H' hx => ?_) fun _ _ z => z.elim⟩
  exact q3 v H' (At.dropU (by simp [(argV_len av).2]) (At.back at1 hx (.inr fun _ z => z)))
/-- what slot i owns is changed, and nothing else -/
theorem AtP.chg {i : Nat} {g' : Slot} {x : Option V} {B P1 P2 A1 A2 : List Addr} {H' : Hp} (h : AtP F T t G σ H A1 A2) (eA : A2 = P1 ++ (B ++ P2)) (ex : σ[i]? = some x)
    (back : ∀ (M' : List Addr) (H' : Hp) (g' : Slot) (x' : Option V) (B' : List Addr), (∀ {g x B}, Slot.ok K (A1 ++ A2 ++ F.M0) H g x B → (∀ p, p ∈ B → p ∈ P1 ∨ p ∈ P2) → Slot.ok K M' H' g x B) → g'.ok K M' H' x' B' → AtS K M' H' (G.set i g') (σ.set i x') (P1 ++ (B' ++ P2)))
    (tB : ∀ p, p ∈ B → ∃ o, H p = some o ∧ isTup o = false) (hout : ∀ p, p ∉ B → H' p = H p) (hin : ∀ p, p ∈ B → ∃ o, H' p = some o ∧ isTup o = false) (hg : g'.ok K (A1 ++ A2 ++ F.M0) H' x B) : At F T t (G.set i g') σ H' := by
  subst eA
  have nd := h.good.nd
  have kp : ∀ {B0 : List Addr}, (∀ p, p ∈ B0 → p ∈ A1 ∨ p ∈ P1 ∨ p ∈ P2) → ∀ p o, H p = some o → (p ∉ A1 ++ (P1 ++ (B ++ P2)) ++ F.M0 ∨ p ∈ B0 ∨ isTup o = true) → H' p = some o := by
    intro B0 hB0 p o e hp
    have np : p ∉ B := fun z => by
      obtain ⟨o', e', zt⟩ := tB p z
      rw [e] at e'
      cases e'
      rcases hp with q | q | q
      · exact q (by simp only [List.mem_append]; grind)
      · have := hB0 p q
        simp only [List.nodup_append, List.mem_append] at nd
        grind
      · rw [zt] at q; cases q
    rw [hout p np]; exact e
  have z := back (A1 ++ (P1 ++ (B ++ P2)) ++ F.M0) H' g' x B (fun hs sub => Slot.ok_keep hs (kp fun p hp => .inr (sub p hp))) hg
  rw [set_self ex] at z
  refine ⟨A1, P1 ++ (B ++ P2), h.tmp.keep (kp fun p hp => .inl hp), z, ⟨nd, h.good.out, h.good.new, fun p hp => ?_, fun p o e hI => ?_, h.good.m0⟩⟩
  · by_cases hB : p ∈ B
    · exact hin p hB
    · obtain ⟨o, e, q⟩ := h.good.has p hp
      exact ⟨o, by rw [hout p hB]; exact e, q⟩
  · have np : p ∉ B := fun z => by
      rcases h.good.new p (by simp only [List.mem_append]; grind) with q | q
      · rw [q] at e; cases e
      · exact hI q
    rw [hout p np]
    exact h.good.stay p o e hI
end

/-! ### a tape -/
abbrev TapeV := Int × List (Int × Int)
abbrev rFiles : Rp (List (Int × Int)) := rTupL (rPair rInt rInt)
theorem cp_files : rFiles.Cp := cp_tupL (cp_pair cp_int cp_int)
theorem clo_tupL {T : Type} {r : Rp T} (c : r.Clo) : (rTupL r).Clo := by
  rintro K M M' H v a B ⟨p, vs, e, hp, hA⟩
  exact ⟨p, vs, e, hp, hA.imp fun _ _ _ _ h => c h⟩
theorem clo_files : rFiles.Clo := clo_tupL (clo_pair clo_int clo_int)
def tapeC (K : PySem.W.Frag) : Addr := He.ga K "Tape"
def tapeAt (K : PySem.W.Frag) (M : List Addr) (H : Hp) (p dx : Addr) (a : TapeV) : Prop := ∃ w, H p = some (SlX.SlO p (tapeC K) dx [some (.int a.1), some w]) ∧ H dx = some (.xd []) ∧ rFiles.rel K M H w a.2 []
def rTape : Rp TapeV where
  rel := fun K M H v a B => ∃ p dx, v = .ref p ∧ p ≠ dx ∧ tapeAt K M H p dx a ∧ B = [p, dx]
  keep := by
    rintro K M H H' v a B ⟨p, dx, ev, ne, ⟨w, h1, h2, h3⟩, eB⟩ k
    subst eB
    exact ⟨p, dx, ev, ne, ⟨w, k p _ h1 (.inr (.inl (by simp))), k dx _ h2 (.inr (.inl (by simp))), rFiles.keep h3 fun q o e z => k q o e (z.elim .inl fun y => y.elim (fun x => by cases x) fun x => .inr (.inr x))⟩, rfl⟩
  grow := by
    rintro K M M' H v a B ⟨p, dx, ev, ne, ⟨w, h1, h2, h3⟩, eB⟩ k
    exact ⟨p, dx, ev, ne, ⟨w, h1, h2, rFiles.grow h3 k⟩, eB⟩
  trk := by
    rintro K M H v a B ⟨p, dx, ev, ne, ⟨w, h1, h2, h3⟩, eB⟩ x hx
    subst eB
    rcases List.mem_cons.mp hx with e | hx
    · subst e; exact ⟨_, h1, rfl⟩
    · rcases List.mem_cons.mp hx with e | hx
      · subst e; exact ⟨_, h2, rfl⟩
      · cases hx
theorem clo_tape : rTape.Clo := by
  rintro K M M' H v a B ⟨p, dx, ev, ne, ⟨w, h1, h2, h3⟩, eB⟩
  exact ⟨p, dx, ev, ne, ⟨w, h1, h2, clo_files h3⟩, eB⟩
theorem nn_tape : rTape.Nn := by
  rintro K M H v a B ⟨p, dx, ev, _⟩
  rw [ev]; intro z; cases z
/-- a tape that is being made -/
inductive TS0 where
  | new
  | half (n : Int)
  | full (a : TapeV)
instance : Inhabited TS0 := ⟨.new⟩
def rSelf : Rp TS0 where
  rel := fun K M H v a B => match a with
    | .new => ∃ p dx, v = .ref p ∧ p ≠ dx ∧ (H p = some (.ins (tapeC K) dx []) ∧ H dx = some (.own p)) ∧ B = [p, dx]
    | .half n => ∃ p dx, v = .ref p ∧ p ≠ dx ∧ (H p = some (SlX.SlO p (tapeC K) dx [some (.int n)]) ∧ H dx = some (.xd [])) ∧ B = [p, dx]
    | .full a => rTape.rel K M H v a B
  keep := by
    intro K M H H' v a B h k
    cases a with
    | new =>
      obtain ⟨p, dx, ev, ne, ⟨h1, h2⟩, eB⟩ := h
      subst eB
      exact ⟨p, dx, ev, ne, ⟨k p _ h1 (.inr (.inl (by simp))), k dx _ h2 (.inr (.inl (by simp)))⟩, rfl⟩
    | half n =>
      obtain ⟨p, dx, ev, ne, ⟨h1, h2⟩, eB⟩ := h
      subst eB
      exact ⟨p, dx, ev, ne, ⟨k p _ h1 (.inr (.inl (by simp))), k dx _ h2 (.inr (.inl (by simp)))⟩, rfl⟩
    | full a => exact rTape.keep h k
  grow := by
    intro K M M' H v a B h k
    cases a with
    | new => exact h
    | half n => exact h
    | full a => exact rTape.grow h k
  trk := by
    intro K M H v a B h x hx
    cases a with
    | new =>
      obtain ⟨p, dx, ev, ne, ⟨h1, h2⟩, eB⟩ := h
      subst eB
      simp only [List.mem_cons, List.not_mem_nil, or_false] at hx
      rcases hx with e | e
      · subst e; exact ⟨_, h1, rfl⟩
      · subst e; exact ⟨_, h2, rfl⟩
    | half n =>
      obtain ⟨p, dx, ev, ne, ⟨h1, h2⟩, eB⟩ := h
      subst eB
      simp only [List.mem_cons, List.not_mem_nil, or_false] at hx
      rcases hx with e | e
      · subst e; exact ⟨_, h1, rfl⟩
      · subst e; exact ⟨_, h2, rfl⟩
    | full a => exact rTape.trk h x hx
theorem clo_self : rSelf.Clo := by
  intro K M M' H v a B h
  cases a with
  | new => exact h
  | half n => exact h
  | full a => exact clo_tape h
/-- what of the text a tape's class must have -/
structure TapeCls (K : PySem.W.Frag) : Prop where
  sc : SlX.SCls K (tapeC K)
  s0 : SlX.Slot1 K (tapeC K) "extent" (He.ma K (tapeC K) "extent") 0
  s1 : SlX.Slot1 K (tapeC K) "kept" (He.ma K (tapeC K) "kept") 1
theorem tape_slt {K : PySem.W.Frag} {M : List Addr} {H : Hp} {v : V} {a : TapeV} {B : List Addr} (h : rTape.rel K M H v a B) : ∃ p dx w, v = .ref p ∧ SlX.Slt H p (tapeC K) dx [some (.int a.1), some w] ∧ rFiles.rel K M H w a.2 [] := by
  obtain ⟨p, dx, ev, ne, ⟨w, h1, h2, h3⟩, eB⟩ := h
  exact ⟨p, dx, w, ev, .inr ⟨h1, h2⟩, h3⟩
section
variable {X : Cx} {S : Type} {F : FC X.K S} {U : Type} {e : Expr} {te : TE} {G G' : S → List Slot} {m : SM S U} {arg : U → Arg} {tx : U → TapeV} {pos : Pos}
theorem ex_extent (tc : TapeCls X.K) (h : EO X F e te G G' arg m) (hx : ∀ a s, Rdd (G' s) (arg a) rTape (tx a)) (hb : attributeBase e "extent" X.env (eval e X.env) = eval e X.env := by rfl) :
    EX X F (.Attribute e "extent" pos) (SlX.tSl X.K te "extent") G G' rInt (bnd m fun a => ret (tx a).1) :=
  ⟨SlX.pe_sl h.pe hb, fun T t σ s H Q h0 q => h.go T t σ s H _ h0 (wp_mono (wp_bnd q) (fun a s1 q1 ts v H1 at1 av => by
    obtain ⟨A1, A2, at1⟩ := at1
    obtain ⟨v', B, e1, k⟩ := rddM (j := 0) at1 av rfl (hx a s1)
    cases e1
    obtain ⟨p, dx, w, ev, hs, _⟩ := tape_slt k
    exact ⟨p, _, dx, _, _, 0, .int (tx a).1, ev, hs, tc.sc, tc.s0, rfl, q1 _ H1 (at1.fin av ⟨rfl, rfl⟩)⟩) fun _ _ z => z)⟩
theorem ex_kept (tc : TapeCls X.K) (h : EO X F e te G G' arg m) (hx : ∀ a s, Rdd (G' s) (arg a) rTape (tx a)) (hb : attributeBase e "kept" X.env (eval e X.env) = eval e X.env := by rfl) :
    EX X F (.Attribute e "kept" pos) (SlX.tSl X.K te "kept") G G' rFiles (bnd m fun a => ret (tx a).2) :=
  ⟨SlX.pe_sl h.pe hb, fun T t σ s H Q h0 q => h.go T t σ s H _ h0 (wp_mono (wp_bnd q) (fun a s1 q1 ts v H1 at1 av => by
    obtain ⟨A1, A2, at1⟩ := at1
    obtain ⟨v', B, e1, k⟩ := rddM (j := 0) at1 av rfl (hx a s1)
    cases e1
    obtain ⟨p, dx, w, ev, hs, hf⟩ := tape_slt k
    exact ⟨p, _, dx, _, _, 1, w, ev, hs, tc.sc, tc.s1, rfl, q1 _ H1 (at1.fin av hf)⟩) fun _ _ z => z)⟩
end
end Td

set_option Elab.async false
set_option linter.all false
set_option maxRecDepth 100000
set_option maxHeartbeats 4000000
namespace Td
open PySem PySem.Spec PyProof.Rows L2 SlX

section
variable {X : Cx} {CX : CXT} {g : Addr} {k : Nat} {sp : Sp} {E : XK} {C : Addr}
/-- len(x) by the class's def -/
def rLenOwn (C : Addr) (sp : Sp) (E : XK) : List V → Hp → VK → Prop := fun xs H Q => ∃ a dx vs, xs = [V.ref a] ∧ Slt H a C dx vs ∧ sp [.ref a] H (fun z H' => ∃ n : Int, z = .int n ∧ (0 ≤ n ∧ n < 2 ^ 63) ∧ Q (.int n) H') E
theorem call_lenOwn (hs : PySem.W.findIn X.K (.ref C) "__len__" = some (some (.ref g))) (hf : PySem.W.isFn X.K (.ref g) = true) (FO : FnR X.prog X.w X.K X.mg X.base CX k g sp) (hr : Room (k + 1) X.A) (hx : Passes CX X E) : CallR X (.builtin "len") (rLenOwn C sp E) := by
  intro pins s σ H xs us Q I r h
  obtain ⟨a, dx, vs, exs, hsl, q⟩ := h
  subst exs
  obtain ⟨u, eu, ru⟩ := Vals.one r
  subst eu
  cases (show u = Value.ref a from ru)
  obtain ⟨sl, od, _, J, _⟩ := slt_inst I hsl
  obtain ⟨m, fr⟩ := I.fr
  refine PySem.W.len_K fr I.mod.kin J hs hf (wpAny_mono (wpAny_call (run_at (us := [.ref a]) (ws := [.ref a]) FO hr.in1 I.env0.in1 hx I (.cons rfl .nil) q)) (fun z s' hz => ?_) fun _ _ y => y)
  obtain ⟨zv, H', I', rz, n, ez, hn, qz⟩ := hz
  subst ez
  obtain ⟨tk, et⟩ := (show ∃ t, z = Value.int n t from rz)
  subst et
  exact ⟨hn, ⟨.int n, H', I'.tok _, ⟨_, rfl⟩, qz⟩⟩
/-- x[i] by the class's def -/
def rIxOwn (C : Addr) (sp : Sp) (E : XK) : R2 := fun x y H Q => ∃ a dx vs, x = V.ref a ∧ Slt H a C dx vs ∧ sp [x, y] H Q E
theorem pe_ixOwn {a b : Expr} {ta tb : TE} {pos : Pos} (hs : PySem.W.findIn X.K (.ref C) "__getitem__" = some (some (.ref g))) (hf : PySem.W.isFn X.K (.ref g) = true) (hfn : PySem.W.fnIn X.K g = true) (FO : FnR X.prog X.w X.K X.mg X.base CX k g sp) (hr : Room (k + 1) X.A) (hx : Passes CX X E) (ha : PE X a ta) (hb : PE X b tb)
    (hsl : ∀ o i, subscripted b true o i = runValue (.builtin "lifetime.subscript" ⟨[o, i], []⟩)) : PE X (.Subscript a b pos) (tOp (rIxOwn C sp E) ta tb) := by
  refine ⟨fun pins s σ H Q I h => Subscript_ (binT ha hb I h fun v u s2 x y H2 I2 rx ry q => ?_)⟩
  obtain ⟨p, dx, vs, ex, hsl2, q⟩ := q
  subst ex
  cases (show v = Value.ref p from rx)
  obtain ⟨sl, od, _, J, _⟩ := slt_inst I2 hsl2
  obtain ⟨m, fr⟩ := I2.fr
  exact PySem.W.sub_K fr I2.mod.kin J hs hfn hf (wpAny_mono (wpAny_call (run_at (us := [.ref p, u]) (ws := [.ref p, y]) FO hr.in1 I2.env0.in1 hx I2 (.cons rfl (.cons ry .nil)) q)) (fun z s' hz => hz) fun _ _ y => y) (hsl _ _)
end
/-! ### a tape used -/
structure Mth (K : PySem.W.Frag) (m : Str) : Prop where
  at_ : PySem.W.findIn K (.ref (tapeC K)) m = some (some (.ref (He.ma K (tapeC K) m)))
  fn : PySem.W.isFn K (.ref (He.ma K (tapeC K) m)) = true
theorem fnIn_of {K : PySem.W.Frag} {f : Addr} {x qual : Str} {params : Arguments} {body : List Stmt} {scope : Scope} {dvs : List V} {kws : List (Str × V)} {fd : FuncData} (F : FunD K x qual params body scope dvs kws f fd) : PySem.W.fnIn K f = true := by
  obtain ⟨oc, od, dV, kV, doc, pm, an, cdv, ct, osl, e, lk, _⟩ := F.ex
  unfold PySem.W.fnIn
  rw [lk]
section
variable {X : Cx} {S : Type} {F : FC X.K S} {U W : Type} {e a b : Expr} {te ta tb : TE} {G G1 G' : S → List Slot} {m m1 : SM S U} {arg : U → Arg} {tx : U → TapeV} {pos p0 : Pos} {r : Rp W} {f : TapeV → SM Unit W} {k : Nat} {g p : Addr} {fd : FuncData} {nm : Str} {ps : List Str}
theorem rtape_s {G : List Slot} {arg : Arg} {a : TapeV} (h : RdS G arg rTape a) : EntS G [arg] [.is (sh rTape) a] := .sh h .nil
/-- tape.f, a property -/
theorem ex_prop {pn : Str} {fm : U → SM Unit W} (tc : TapeCls X.K) (pr : Prp X.K (tapeC X.K) pn) (FO : FnOk X.prog X.w X.K X.mg X.base (L2.CX X.prog X.w) k (pgA X.K (tapeC X.K) pn) fd ps (SpP X.K 1 (fun u : TapeV => [.is (sh rTape) u]) r f)) (hb : Binds X.K fd ps []) (hr : Room (k + 1) X.A)
    (h : EO X F e te G G' arg m) (hx : ∀ a s, RdS (G' s) (arg a) rTape (tx a)) (hf : ∀ a, fm a = f (tx a) := by intro _; rfl) (hba : attributeBase e pn X.env (eval e X.env) = eval e X.env := by rfl) :
    EX X F (.Attribute e pn pos) (tPropSl (tapeC X.K) (SpP X.K 1 (fun u : TapeV => [.is (sh rTape) u]) r f) (fun _ _ _ => False) te) G G' r (bnd m fun a => nxc (lft (fm a))) :=
  ⟨pe_propSl h.pe tc.sc pr.at_ pr.get pr.tk pr.rc ((FnOk.raw FO hb .nil).imp fun vs H Q E q => by rw [List.append_nil]; exact q) hr (fun H s e s' z => by obtain ⟨_, _, _, _, _, _, _, _, _, _, _, _, w⟩ := z; exact w) hba, fun T t σ s H Q h0 q => h.go T t σ s H _ h0 (wp_mono (wp_bnd q) (fun a s1 q1 ts v H1 at1 av => by
    obtain ⟨A1, A2, at1⟩ := at1
    obtain ⟨v', e1, _, B, k1, _⟩ := rdS (j := 0) at1 av rfl (hx a s1)
    cases e1
    obtain ⟨p, dx, w, ev, hs, _⟩ := tape_slt k1
    subst ev
    rw [hf a] at q1
    exact ⟨p, dx, _, rfl, hs, run_sp at1 av rfl (rtape_s (hx a s1)) (wp_mono (wp_lft (wp_nxc (E' := fun _ _ => False) q1)) (fun b _ q2 v H' z => q2 v H' z) fun _ _ z => z)⟩) fun _ _ z => z)⟩
/-- len(tape) -/
theorem ex_tlen {fm : U → SM Unit Int} {f : TapeV → SM Unit Int} (mt : Mth X.K "__len__") (FO : FnOk X.prog X.w X.K X.mg X.base (L2.CX X.prog X.w) k (He.ma X.K (tapeC X.K) "__len__") fd ps (SpP X.K 1 (fun u : TapeV => [.is (sh rTape) u]) rInt f)) (hb : Binds X.K fd ps []) (hr : Room (k + 1) X.A)
    (h : EO X F e te G G' arg m) (hx : ∀ a s, RdS (G' s) (arg a) rTape (tx a)) (hg : Gl X "len") (hm : X.mg "len" = none) (hf : ∀ a, fm a = f (tx a) := by intro _; rfl) (hs : PySem.W.isStarred e = false := by rfl) :
    EX X F (.Call (.Name "len" p0) [e] [] pos) (tCB (rLenOwn (tapeC X.K) (SpP X.K 1 (fun u : TapeV => [.is (sh rTape) u]) rInt f) (fun _ _ _ => False)) (tCons te tNil)) G G' rInt (bnd m fun a => bnd (nxc (lft (fm a))) fun n => bnd (grd (0 ≤ n ∧ n < 2 ^ 63)) fun _ => ret n) :=
  ⟨pe_callB (call_lenOwn mt.at_ mt.fn ((FnOk.raw FO hb .nil).imp fun vs H Q E q => by rw [List.append_nil]; exact q) hr (passes_nx rfl)) hg hm PySem.boot_len (pa_cons h.pe pa_nil (star1 hs)) (he := star1 hs), fun T t σ s H Q h0 q => h.go T t σ s H _ h0 (wp_mono (wp_bnd q) (fun a s1 q1 ts v H1 at1 av => by
    obtain ⟨A1, A2, at1⟩ := at1
    obtain ⟨v', e1, _, B, k1, _⟩ := rdS (j := 0) at1 av rfl (hx a s1)
    cases e1
    obtain ⟨p, dx, w, ev, hs, _⟩ := tape_slt k1
    subst ev
    rw [hf a] at q1
    refine ⟨p, dx, _, rfl, hs, run_sp at1 av rfl (rtape_s (hx a s1)) (wp_mono (wp_lft (wp_nxc (E' := fun _ _ => False) (wp_bnd q1))) (fun n _ q2 v H' z => ?_) fun _ _ z => z)⟩
    obtain ⟨hn, q3⟩ := wp_grd (wp_bnd q2)
    obtain ⟨_, _, ek, _⟩ := top_rel z
    subst ek
    exact ⟨n, rfl, hn, q3 _ H' z⟩) fun _ _ z => z)⟩
/-- tape[i] -/
theorem ex_tix {mi : SM S Int} {fm : U → Int → SM Unit W} {f : TapeV × Int → SM Unit W} (mt : Mth X.K "__getitem__") (hfn : PySem.W.fnIn X.K (He.ma X.K (tapeC X.K) "__getitem__") = true) (FO : FnOk X.prog X.w X.K X.mg X.base (L2.CX X.prog X.w) k (He.ma X.K (tapeC X.K) "__getitem__") fd ps (SpP X.K 2 (fun u : TapeV × Int => [.is (sh rTape) u.1, .is rInt u.2]) r f)) (hb : Binds X.K fd ps []) (hr : Room (k + 1) X.A)
    (h1 : EO X F a ta G G1 arg m) (h2 : EX X F b tb G1 G' rInt mi) (hx : ∀ a s, RdS (G' s) (arg a) rTape (tx a)) (hf : ∀ a i, fm a i = f (tx a, i) := by intros; rfl) (hsl : ∀ o i, subscripted b true o i = runValue (.builtin "lifetime.subscript" ⟨[o, i], []⟩) := by intros; rfl) :
    EX X F (.Subscript a b pos) (tOp (rIxOwn (tapeC X.K) (SpP X.K 2 (fun u : TapeV × Int => [.is (sh rTape) u.1, .is rInt u.2]) r f) (fun _ _ _ => False)) ta tb) G G' r (bnd m fun a => bnd mi fun i => nxc (lft (fm a i))) :=
  ⟨pe_ixOwn mt.at_ mt.fn hfn ((FnOk.raw FO hb .nil).imp fun vs H Q E q => by rw [List.append_nil]; exact q) hr (passes_nx rfl) h1.pe h2.pe hsl, fun T t σ s H Q h0 q => by
    refine h1.go T t σ s H _ h0 (wp_mono (wp_bnd q) (fun a s1 q1 ts x H1 at1 av1 => ?_) fun _ _ z => z)
    refine h2.go _ _ σ s1 H1 _ at1 (wp_mono (wp_bnd q1) (fun i s2 q2 y H2 at2 => ?_) fun _ _ z => z)
    obtain ⟨A1, A2, at2⟩ := at2
    have at3 : AtP F ((tmps [arg a, .t (.is rInt i)]).reverse ++ T) ((ts ++ [y]).reverse ++ t) (G' s2) σ H2 A1 A2 := by
      rw [tmps_cons]
      simpa [tmps] using at2
    have av2 : ArgV σ [arg a, .t (.is rInt i)] (ts ++ [y]) [x, y] := argV_cons av1 (.t .nil)
    obtain ⟨v', e1, _, B, k1, _⟩ := rdS (j := 0) at3 av2 rfl (hx a s2)
    cases e1
    obtain ⟨p, dx, w, ev, hs, _⟩ := tape_slt k1
    subst ev
    rw [hf a i] at q2
    exact ⟨p, dx, _, rfl, hs, run_sp at3 av2 rfl (.sh (hx a s2) (.cp cp_int (.tc cp_int) .nil)) (wp_mono (wp_lft (wp_nxc (E' := fun _ _ => False) q2)) (fun b _ q2 v H' z => q2 v H' z) fun _ _ z => z)⟩⟩
end
end Td

set_option Elab.async false
set_option linter.all false
set_option maxRecDepth 100000
set_option maxHeartbeats 4000000
namespace Td
open PySem PySem.Spec PyProof.Rows L2 SlX

section
variable {K : PySem.W.Frag} {S : Type} {F : FC K S} {T : List Slot} {t : List V} {G : List Slot} {σ : L2.St} {H : Hp}
/-- the arguments used up, a new tuple of things that own nothing comes -/
theorem AtP.newT {L : List Arg} {ts vs : List V} {A1 A2 : List Addr} (h : AtP F ((tmps L).reverse ++ T) (ts.reverse ++ t) G σ H A1 A2) (av : ArgV σ L ts vs) {U : Type} {r : Rp U} {as : List U} {ws : List V} (hr : All3 (r.rel K (A1 ++ A2 ++ F.M0) H) ws as []) {p : Addr} (hp : H p = none) :
    At F (.is (rTupL r) as :: T) (.ref p :: t) G σ (upd H p (.tup ws)) := by
  have k : ∀ x o, H x = some o → upd H p (.tup ws) x = some o := fun x o e => by rw [upd_ne (ne_of_none e hp)]; exact e
  have at2 : AtP F ((tmps L).reverse ++ T) (ts.reverse ++ t) G σ (upd H p (.tup ws)) A1 A2 := by
    refine ⟨h.tmp.keep fun x o e _ => k x o e, h.loc.keep fun x o e _ => k x o e, ⟨h.good.nd, h.good.out, h.good.new, fun x hx => ?_, fun x o e z => k x o (h.good.stay x o e z), h.good.m0⟩⟩
    obtain ⟨o, e, z⟩ := h.good.has x hx
    exact ⟨o, k x o e, z⟩
  exact at2.fin av (r := rTupL r) ⟨p, ws, rfl, SqT.of upd_same, hr.imp fun v a B _ h => r.keep h fun x o e _ => k x o e⟩
end
section
variable {X : Cx} {S : Type} {F : FC X.K S} {U Z : Type} {r3 : Rp Z} {e : Expr} {te : TE} {G G' : S → List Slot} {m : SM S U} {arg : U → Arg} {pos p0 : Pos}
/-- tuple(xs) of a list -/
theorem ex_tuple {xs : U → List Z} (h : EO X F e te G G' arg m) (c : r3.Cp) (hx : ∀ a s, Rdd (G' s) (arg a) (rList r3) (xs a)) (hg : Gl X "tuple") (hm : X.mg "tuple" = none) (hs : PySem.W.isStarred e = false := by rfl) :
    EX X F (.Call (.Name "tuple" p0) [e] [] pos) (tCB (fun xs H Q => ∃ p ys, xs = [.ref p] ∧ ((SqL X.K H p ys ∧ ∀ l, H l = none → Q (.ref l) (upd H l (.tup ys))) ∨ (SqT X.K H p ys ∧ Q (.ref p) H))) (tCons te tNil)) G G' (rTupL r3) (bnd m fun a => ret (xs a)) :=
  ⟨pe_callTy call_tuple_of hg hm (by decide) (pa_cons h.pe pa_nil (star1 hs)) (he := star1 hs), go_call1 h.go (fun _ => stl_ret _) fun a s T t ts v σ H Q A1 A2 at1 av q => by
    obtain ⟨v', B, e1, p, vs, A, ev, hp, hA, eB⟩ := rddM (j := 0) at1 av rfl (hx a s)
    cases e1
    obtain ⟨_, q⟩ := q
    have eA := cp_all c hA
    subst eA
    exact ⟨p, vs, by rw [ev], .inl ⟨SqL.of hp, fun l hl => q _ _ (at1.newT av hA hl)⟩⟩⟩
end
/-! ### a tape made -/
def setExt (n : Int) : SM TS0 Unit := fun s => match s with
  | .new => .ok () (.half n)
  | _ => .stuck
def setKept (fs : List (Int × Int)) : SM TS0 Unit := fun s => match s with
  | .half n => .ok () (.full (n, fs))
  | _ => .stuck
section
variable {X : Cx} {F : FC X.K TS0} {N L R : Type} {G G1 : TS0 → List Slot} {GN : N → TS0 → List Slot} {GL : L → TS0 → List Slot} {r : Rp R} {pos p0 p1 : Pos} {rest : List Stmt} {tr : TS} {e : Expr} {te : TE} {x : Str} {w : V}
theorem bx_ext {me : SM TS0 Int} {out : SM TS0 (Fl N L R)} (tc : TapeCls X.K) (h : EX X F e te G G1 rInt me) (hG : ∀ s, (G1 s)[0]? = some (.pn w rSelf s)) (hset : ∀ s s', (G1 s).set 0 (.pn w rSelf s') = G1 s') (hb : BX X F rest tr G1 GN GL r out)
    (hN : X.N[0]? = some x := by rfl) (hv : Vis X.env.scope x := by first | exact Or.inl rfl | exact Or.inr (Or.inl rfl) | exact Or.inr (Or.inr rfl)) (hd : (x == ("__debug__" : Str)) = false := by decide) (hcd : (x == ("__classdict__" : Str)) = false := by decide)
    (hs : swapsWith e (some (.Attribute (.Name x p0) "extent" p1)) pos.line X.env = pure false := by rfl) :
    BX X F (.Assign [.Attribute (.Name x p0) "extent" p1] e pos :: rest) (tSeq (sSl X.K (tVar 0) te "extent") tr) G GN GL r (bnd me fun v => bnd (setExt v) fun _ => out) :=
  ⟨pss_cons (ps_sl (pe_var hN hv hd hcd) h.pe hs) hb.ps, fun T t σ s H D h0 q => by
    refine h.go T t σ s H _ h0 (wp_mono (wp_bnd q) (fun n s1 q1 v H1 at1 => ?_) fun e s z => z σ)
    obtain ⟨_, _, ek, _⟩ := top_rel at1
    subst ek
    have q2 := wp_bnd q1
    cases s1 with
    | half _ => exact q2.elim
    | full _ => exact q2.elim
    | new =>
      obtain ⟨A1, A2, at2⟩ := at1.pop
      obtain ⟨y, B, P1, P2, ey, hok, eA, back⟩ := at2.loc.at_ (hG .new)
      obtain ⟨ex, p, dx, ev, ne, ⟨h1, h2⟩, eB⟩ := hok
      subst ex ev eB
      refine ⟨.ref p, ey, p, tapeC X.K, dx, _, [], 0, rfl, .inl ⟨h1, rfl⟩, tc.sc, tc.s0, ?_⟩
      have z := at2.chg (g' := .pn (.ref p) rSelf (.half n)) (H' := slH H1 p (tapeC X.K) dx (putS 0 (.int n) [])) eA ey back (fun q hq => ?_) (fun q hq => ?_) (fun q hq => ?_) ?_
      · rw [hset] at z
        exact hb.go T t σ _ _ D z q2
      · simp only [List.mem_cons, List.not_mem_nil, or_false] at hq
        rcases hq with e | e
        · subst e; exact ⟨_, h1, rfl⟩
        · subst e; exact ⟨_, h2, rfl⟩
      · simp only [List.mem_cons, List.not_mem_nil, or_false, not_or] at hq
        exact slH_ne hq.1 hq.2
      · simp only [List.mem_cons, List.not_mem_nil, or_false] at hq
        rcases hq with e | e
        · subst e; exact ⟨_, upd_same, rfl⟩
        · subst e; exact ⟨.xd [], by unfold slH; rw [upd_ne (Ne.symm ne), upd_same], rfl⟩
      · exact ⟨rfl, p, dx, rfl, ne, ⟨upd_same, by unfold slH; rw [upd_ne (Ne.symm ne), upd_same]⟩, rfl⟩⟩
theorem bx_kept {me : SM TS0 (List (Int × Int))} {out : SM TS0 (Fl N L R)} (tc : TapeCls X.K) (h : EX X F e te G G1 rFiles me) (hG : ∀ s, (G1 s)[0]? = some (.pn w rSelf s)) (hset : ∀ s s', (G1 s).set 0 (.pn w rSelf s') = G1 s') (hb : BX X F rest tr G1 GN GL r out)
    (hN : X.N[0]? = some x := by rfl) (hv : Vis X.env.scope x := by first | exact Or.inl rfl | exact Or.inr (Or.inl rfl) | exact Or.inr (Or.inr rfl)) (hd : (x == ("__debug__" : Str)) = false := by decide) (hcd : (x == ("__classdict__" : Str)) = false := by decide)
    (hs : swapsWith e (some (.Attribute (.Name x p0) "kept" p1)) pos.line X.env = pure false := by rfl) :
    BX X F (.Assign [.Attribute (.Name x p0) "kept" p1] e pos :: rest) (tSeq (sSl X.K (tVar 0) te "kept") tr) G GN GL r (bnd me fun v => bnd (setKept v) fun _ => out) :=
  ⟨pss_cons (ps_sl (pe_var hN hv hd hcd) h.pe hs) hb.ps, fun T t σ s H D h0 q => by
    refine h.go T t σ s H _ h0 (wp_mono (wp_bnd q) (fun fs s1 q1 v H1 at1 => ?_) fun e s z => z σ)
    have q2 := wp_bnd q1
    cases s1 with
    | new => exact q2.elim
    | full _ => exact q2.elim
    | half n =>
      obtain ⟨A0, A2', at0⟩ := id at1
      obtain ⟨B0, A', eA0, ⟨v', ev', hf⟩, ht⟩ := AtS.cons_inv at0.tmp
      cases ev'
      have eB0 := cp_files hf
      subst eB0
      have hf2 : ∀ M, rFiles.rel X.K M H1 v fs [] := fun M => clo_files hf
      obtain ⟨A1, A2, at2⟩ := at1.pop
      obtain ⟨y, B, P1, P2, ey, hok, eA, back⟩ := at2.loc.at_ (hG (.half n))
      obtain ⟨ex, p, dx, ev, ne, ⟨h1, h2⟩, eB⟩ := hok
      subst ex ev eB
      have hout : ∀ q, q ∉ [p, dx] → slH H1 p (tapeC X.K) dx (putS 1 v [some (.int n)]) q = H1 q := fun q hq => by
        simp only [List.mem_cons, List.not_mem_nil, or_false, not_or] at hq
        exact slH_ne hq.1 hq.2
      refine ⟨.ref p, ey, p, tapeC X.K, dx, _, [some (.int n)], 1, rfl, .inr ⟨h1, h2⟩, tc.sc, tc.s1, ?_⟩
      have z := at2.chg (g' := .pn (.ref p) rSelf (.full (n, fs))) (H' := slH H1 p (tapeC X.K) dx (putS 1 v [some (.int n)])) eA ey back (fun q hq => ?_) hout (fun q hq => ?_) ?_
      · rw [hset] at z
        exact hb.go T t σ _ _ D z q2
      · simp only [List.mem_cons, List.not_mem_nil, or_false] at hq
        rcases hq with e | e
        · subst e; exact ⟨_, h1, rfl⟩
        · subst e; exact ⟨_, h2, rfl⟩
      · simp only [List.mem_cons, List.not_mem_nil, or_false] at hq
        rcases hq with e | e
        · subst e; exact ⟨_, upd_same, rfl⟩
        · subst e; exact ⟨.xd [], by unfold slH; rw [upd_ne (Ne.symm ne), upd_same], rfl⟩
      · refine ⟨rfl, p, dx, rfl, ne, ⟨v, upd_same, by unfold slH; rw [upd_ne (Ne.symm ne), upd_same], ?_⟩, rfl⟩
        refine rFiles.keep (hf2 _) fun q o e hq => ?_
        rw [hout q fun z => ?_]
        · exact e
        · rcases hq with hq | hq | hq
          · exact hq (by rw [eA]; simp only [List.mem_append]; grind)
          · cases hq
          · simp only [List.mem_cons, List.not_mem_nil, or_false] at z
            rcases z with z | z
            · subst z; rw [h1] at e; cases e; cases hq
            · subst z; rw [h2] at e; cases e; cases hq⟩
end
end Td

set_option Elab.async false
set_option linter.all false
set_option maxRecDepth 100000
set_option maxHeartbeats 4000000
namespace Td
open PySem PySem.Spec PyProof.Rows L2 SlX StX

section
variable {P : Program} {w : World} {K : PySem.W.Frag} {mg : Str → Option Value} {base : Heap} {x qual : Str} {params : Arguments} {body : List Stmt} {scope : Scope} {f : Addr} {fd : FuncData} {N ps : List Str} {k : Nat}
/-- a def whose first argument is in/out and which comes to its end -/
theorem fn_ioP {S U : Type} {rio : Rp S} {Pr : U → List Slot} {fm : U → SM S Unit} (FD : FunD K x qual params body scope [] [] f fd) (Sc : FnScope N ps scope) (out : U → SM S (Fl Unit Empty Unit)) (hfm : ∀ u, fm u = runP (out u))
    (hbody : ∀ (u : U) (v0 : V) (cdv : Value) (A : Around) (outer : List Env) (s : Shared) (H : Hp) (E : XK), Room k (A.deeper (envOfC qual scope s.heap.objs.size f cdv)) →
      ∀ F : FC K S, F.io = (fun s => .pn v0 rio s :: uns (N.length - 1)) → F.W = (fun c d _ H' => E c d H') → ∃ t, BX (cxOf (L2.CX P w) P w K mg base N qual scope f cdv A outer s H E) F body t (fun s => .pn v0 rio s :: (Pr u ++ uns (N.length - ps.length))) (fun (_ : Unit) s => .pn v0 rio s :: uns (N.length - 1)) (fun (e : Empty) _ => e.elim) rNon (out u)) :
    FnOk P w K mg base (L2.CX P w) (k + 1) f fd ps (SpI K ps.length rio Pr rNon fm) := by
  refine FD.ok Sc (fun vs H Q E h => ?_) (fun cdv A outer s H vs Q E hr h => ?_)
  · obtain ⟨u, _, _, _, h, _⟩ := h
    exact h
  · obtain ⟨u, s0, I, M0, hl, at0, q⟩ := h
    obtain ⟨t, hB⟩ := hbody u (vs.headD .non) cdv A outer s H E hr ⟨H, I, M0, fun s => .pn (vs.headD .non) rio s :: uns (N.length - 1), fun c d _ H' => E c d H'⟩ rfl rfl
    refine ⟨t, hB.ps, hB.go [] [] (start N vs) s0 H _ ?_ ?_⟩
    · have z := at_start (N := N) at0
      rw [hl] at z
      exact z.re rfl rfl rfl
    · rw [hfm u] at q
      refine wp_mono (wp_bnd q) (fun fl s1 q1 => ?_) (fun e s1 q1 σ d v H' h1 hd => q1 d v H' ((at_exitIo h1).re rfl rfl rfl) hd)
      cases fl with
      | nx n => exact fun σ' H' h1 => q1 .non H' ((at_exitIo (h1.push (r := rNon) (a := ()) (v := V.non) fun _ => ⟨rfl, rfl⟩)).re rfl rfl rfl)
      | bk n => exact n.elim
      | ct n => exact n.elim
      | rt b => exact fun v σ' H' h1 => q1 v H' ((at_exitIo h1).re rfl rfl rfl)
end
/-! ### a new tape -/
def tapeM {S : Type} : TS0 → SM S TapeV
  | .full a => ret a
  | _ => stk
section
variable {K : PySem.W.Frag} {S : Type} {F : FC K S} {T : List Slot} {t : List V} {G : List Slot} {σ : L2.St} {H : Hp}
theorem AtP.alloc {A1 A2 : List Addr} (h : AtP F T t G σ H A1 A2) {x dx : Addr} (hx : H x = none) (hd : H dx = none) (ne : dx ≠ x) :
    AtP F T t (.is rSelf .new :: G) (some (.ref x) :: σ) (upd (upd H dx (.own x)) x (.ins (tapeC K) dx [])) A1 ([x, dx] ++ A2) ∧ AtS K (A1 ++ ([x, dx] ++ A2) ++ F.M0) (upd (upd H dx (.own x)) x (.ins (tapeC K) dx [])) G σ A2 ∧ rSelf.rel K (A1 ++ ([x, dx] ++ A2) ++ F.M0) (upd (upd H dx (.own x)) x (.ins (tapeC K) dx [])) (.ref x) .new [x, dx] ∧
      (∀ p o, H p = some o → upd (upd H dx (.own x)) x (.ins (tapeC K) dx []) p = some o) ∧ ∀ p, p ∈ A1 ++ ([x, dx] ++ A2) ++ F.M0 → p ∈ A1 ++ A2 ++ F.M0 ∨ H p = none := by
  have k : ∀ p o, H p = some o → upd (upd H dx (.own x)) x (.ins (tapeC K) dx []) p = some o := fun p o e => by
    rw [upd_ne (ne_of_none e hx), upd_ne (ne_of_none e hd)]; exact e
  have hM : ∀ p, p ∈ A1 ++ ([x, dx] ++ A2) ++ F.M0 → p ∈ A1 ++ A2 ++ F.M0 ∨ H p = none := fun p hp => by
    by_cases e1 : p = x
    · subst e1; exact .inr hx
    · by_cases e2 : p = dx
      · subst e2; exact .inr hd
      · left
        simp only [List.mem_append, List.mem_cons, List.not_mem_nil, or_false] at *
        grind
  have rel : ∀ M, rSelf.rel K M (upd (upd H dx (.own x)) x (.ins (tapeC K) dx [])) (.ref x) .new [x, dx] := fun M => ⟨x, dx, rfl, Ne.symm ne, ⟨upd_same, by rw [upd_ne ne, upd_same]⟩, rfl⟩
  have loc := (h.loc.grow hM).keep fun p o e _ => k p o e
  have nA : ∀ p, H p = none → p ∉ A1 ++ A2 ++ F.M0 := fun p e z => by
    obtain ⟨o, q, _⟩ := h.m_trk p z
    rw [e] at q; cases q
  have nx := nA x hx
  have ndx := nA dx hd
  refine ⟨⟨(h.tmp.grow hM).keep fun p o e _ => k p o e, .cons ⟨_, rfl, rel _⟩ loc, ⟨?_, fun p hp => ?_, fun p hp => ?_, fun p hp => ?_, fun p o e z => k p o (h.good.stay p o e z), h.good.m0⟩⟩, loc, rel _, k, hM⟩
  · have := h.good.nd
    simp only [List.nodup_append, List.mem_append, List.mem_cons, List.not_mem_nil, or_false, List.nodup_cons, List.nodup_nil] at *
    grind
  · have := h.good.out p
    simp only [List.mem_append, List.mem_cons, List.not_mem_nil, or_false] at *
    grind
  · by_cases e1 : p = x
    · subst e1; exact .inl (h.good.fresh hx).1
    · by_cases e2 : p = dx
      · subst e2; exact .inl (h.good.fresh hd).1
      · exact h.good.new p (by simp only [List.mem_append, List.mem_cons, List.not_mem_nil, or_false] at *; grind)
  · obtain ⟨o, e, z⟩ := h.good.has p hp
    exact ⟨o, k p o e, z⟩
theorem go_make {U A : Type} {n : Nat} {Pr : U → List Slot} {f : U → SM TS0 Unit} {fm : A → SM TS0 Unit} {E : XK} {ta : TA} {G G' : S → List Slot} {LA : A → List Arg} {mA : SM S A} (u : A → U) (hf : ∀ a, fm a = f (u a)) (h : GA F ta G G' LA mA) (hn : ∀ a, (LA a).length + 1 = n)
    (he : ∀ a s, EntS (G' s) (LA a) (Pr (u a))) (hW : ∀ c d σ H, F.W c d σ H → E c d H) (hw : ∀ s, Weak (G' s) (F.io s)) :
    GE F (tMakeR (tapeC K) (SpI K n rSelf Pr rNon f) E ta) G G' (sh rTape) (bnd mA fun a => bnd (subM (fm a) TS0.new) fun p => tapeM p.2) := by
  intro T t σ s H Q h0 q
  have ef : fm = fun a => f (u a) := funext hf
  subst ef
  refine h T t σ s H _ h0 (wp_mono (wp_bnd q) (fun a s1 q1 ts vs H1 at1 av => ?_) fun _ _ z => z)
  have q2 := wp_subM (wp_bnd q1)
  obtain ⟨A1, A2, at1⟩ := at1
  intro x dx hx hd ne
  have hent := entS_at at1 av (he a s1)
  obtain ⟨at2, tail, rel, k, hM⟩ := at1.alloc hx hd ne
  refine run_ioS clo_self rel tail at2 (argV_len av).2 (by rw [(argV_len av).1, hn]) ((hent.grow hM).keep fun p o e _ => k p o e) (wp_mono q2 (fun b s' q3 v H' hz => ?_) (fun e s' q3 d v H' hz hd => ?_))
  · obtain ⟨_, _, hz0⟩ := id hz
    obtain ⟨_, _, _, _, ht0⟩ := AtS.cons_inv hz0.tmp
    obtain ⟨_, _, _, ⟨v', ev, eb, _⟩, _⟩ := AtS.cons_inv ht0
    cases ev
    subst eb
    refine ⟨rfl, ?_⟩
    cases s' with
    | new => exact q3.elim
    | half _ => exact q3.elim
    | full a =>
      have z1 : At F (.is rTape a :: .is rNon b :: T) (.ref x :: .non :: t) (G' s1) σ H' := by
        obtain ⟨C1, C2, hz⟩ := hz
        obtain ⟨B, A', eA, ⟨v', ev, hr⟩, ht⟩ := AtS.cons_inv hz.tmp
        subst eA
        exact ⟨_, C2, .cons ⟨v', ev, hr⟩ ht, hz.loc, hz.good⟩
      exact q3 _ H' (At.dropU (T1 := [_]) (t1 := [_]) rfl z1).freeze
  · refine hW _ _ σ _ (q3 d v H' ?_ hd)
    have z2 := hz.weak (hw s1)
    exact At.dropM (T0 := [_]) (t0 := [v]) (T := []) (t := []) rfl (T1 := T) (t1 := t) (by obtain ⟨B1, B2, hz⟩ := h0; have := hz.tmp.length; simpa using this) (by simpa using z2)
end
section
variable {X : Cx} {S : Type} {F : FC X.K S} {U A : Type} {n k : Nat} {Pr : U → List Slot} {f : U → SM TS0 Unit} {fm : A → SM TS0 Unit} {E : XK} {ta : TA} {G G' : S → List Slot} {LA : A → List Arg} {mA : SM S A} {CX : CXT} {fA : Addr} {fd : FuncData} {ps : List Str} {x : Str} {p pos : Pos} {e : Expr} {es : List Expr}
theorem ex_make (u : A → U) (M : Mk X.K (tapeC X.K) fA) (FO : FnOk X.prog X.w X.K X.mg X.base CX k fA fd ps (SpI X.K n rSelf Pr rNon f)) (hr : Room (k + 1) X.A) (hg : Gl X x) (hm : X.mg x = some (.ref (tapeC X.K))) (hb : Binds X.K fd ps []) (hx : Passes CX X E)
    (h : EA X F (e :: es) ta G G' LA mA) (hn : ∀ a, (LA a).length + 1 = n) (he : ∀ a s, EntS (G' s) (LA a) (Pr (u a))) (hW : ∀ c d σ H, F.W c d σ H → E c d H) (hw : ∀ s, Weak (G' s) (F.io s)) (hf : ∀ a, fm a = f (u a) := by intro _; rfl)
    (hst : PySem.W.isStarred e = false := by rfl) (hpl : (backTo pos (starEach es X.env)).any (·.1) = false := by rfl) (hdb : (x == ("__debug__" : Str)) = false := by decide) :
    EX X F (.Call (.Name x p) (e :: es) [] pos) (tMakeR (tapeC X.K) (SpI X.K n rSelf Pr rNon f) E ta) G G' (sh rTape) (bnd mA fun a => bnd (subM (fm a) TS0.new) fun p => tapeM p.2) :=
  ⟨pe_makeR M ((FnOk.raw FO hb .nil).imp fun vs H Q E q => by rw [List.append_nil]; exact q) hr hg hm hx h.pa (hdb := hdb) (he := star1 hst) (hpl := hpl), go_make u hf h.go hn he hW hw⟩
end
end Td

set_option Elab.async false
set_option linter.all false
set_option maxRecDepth 100000
set_option maxHeartbeats 4000000
namespace Td
open PySem PySem.Spec PyProof.Rows L2 SlX StX

/-! ### defs that are called where no repr is under way -/
structure FnG (P : Program) (w : World) (K : PySem.W.Frag) (mg : Str → Option Value) (base : Heap) (k : Nat) (f : Addr) (fd : FuncData) (ps : List Str) (sp : Sp) : Prop where
  len : ∀ vs H Q E, sp vs H Q E → vs.length = ps.length
  run : ∀ (A : Around) (outer : List Env) (s : Shared) (H : Hp) (args : Args) (us : List Value) (vs : List V) (Q : VK) (E : XK), Room k A → A.guards = some [] → Env0 P w K mg base A outer s H → BindsTo s fd args (ps.zip us) → Vals vs us → sp vs H Q E →
    codeAny (model P w) A (.call (.ref f) args) (CR (L2.CX P w) outer P w H s Q E) s
section
variable {P : Program} {w : World} {K : PySem.W.Frag} {mg : Str → Option Value} {base : Heap} {x qual : Str} {params : Arguments} {body : List Stmt} {scope : Scope} {f : Addr} {fd : FuncData} {N ps : List Str} {k : Nat} {sp : Sp}
theorem FnG.of (FD : FunD K x qual params body scope [] [] f fd) (Sc : FnScope N ps scope) (len : ∀ vs H Q E, sp vs H Q E → vs.length = ps.length)
    (hbody : ∀ (cdv : Value) (A : Around) (outer : List Env) (s : Shared) (H : Hp) (vs : List V) (Q : VK) (E : XK), Room k (A.deeper (envOfC qual scope s.heap.objs.size f cdv)) → A.guards = some [] → sp vs H Q E →
      ∃ t, PSs (cxOf (L2.CX P w) P w K mg base N qual scope f cdv A outer s H E) body t ∧ t { nx := fun _ H' => Q .non H', rt := Q } (start N vs) H) : FnG P w K mg base (k + 1) f fd ps sp := by
  obtain ⟨oc, od, dV, kV, doc, pm, an, cdv, ct, osl, efd, lk, hcd, _, _⟩ := FD.ex
  subst efd
  refine ⟨len, fun A outer s H args us vs Q E hr hgd e0 hb r hsp => ?_⟩
  have kept : ∀ b o, base.get? b = some o → s.heap.get? b = some o := fun b o e => (e0.bs b o e).1
  have KX : K.In s.heap := e0.mod.kin.keeps kept
  have kinds : ∀ y ∈ ps.zip us, scope.names.lookup y.1 = some .local ∨ (scope.names.lookup y.1 = some .cell ∧ ((cellsFrom (s.heap.objs.size + 1) scope.names []).lookup y.1).isSome = true) := fun y hy =>
    (Sc.par y.1 (List.of_mem_zip (show (y.1, y.2) ∈ ps.zip us from hy)).1).imp id fun q => ⟨q, PySem.W.cellsFrom_some _ _ _ (.inl q)⟩
  refine codeAny_call_function hr.depth (KX _ _ lk) rfl Sc.co Sc.gen rfl (PySem.W.codeRec_of KX hcd) (hb _ _ _ _ ?_)
  refine wpAny_newFunctionEnv_cells Sc.kind kinds fun env he s1 x1 => ?_
  subst he
  refine ⟨(e0.mod.nolimit.keeps kept).keeps x1.toInCall.keep, codeAny_func ?_⟩
  obtain ⟨t, ht, hq⟩ := hbody cdv A outer s H vs Q E (hr.deeper _) hgd hsp
  refine wpAny_mono (ht.run [] s1 (start N vs) H _ (inv_start Sc hr.hd e0 (len _ _ _ _ hsp) r x1) hq) (fun fl s' hs => ?_) fun e s' hs => hs
  cases fl with
  | next =>
    obtain ⟨σ', H', J, q⟩ := hs
    exact ⟨V.non, H', J.os, J.bare, J.base, J.hok, rfl, q⟩
  | ret u =>
    obtain ⟨v, σ', H', J, rv, q⟩ := hs
    exact ⟨v, H', J.os, J.bare, J.base, J.hok, rv, q⟩
  | brk => obtain ⟨_, _, _, q⟩ := hs; exact q.elim
  | cont => obtain ⟨_, _, _, q⟩ := hs; exact q.elim
theorem fnG_pure {U W : Type} {Ps : U → List Slot} {r : Rp W} {fm : U → SM Unit W} (FD : FunD K x qual params body scope [] [] f fd) (Sc : FnScope N ps scope) (out : U → SM Unit (Fl Empty Empty W)) (hfm : ∀ u, fm u = runB (out u))
    (hbody : ∀ (u : U) (cdv : Value) (A : Around) (outer : List Env) (s : Shared) (H : Hp) (E : XK), Room k (A.deeper (envOfC qual scope s.heap.objs.size f cdv)) → A.guards = some [] →
      ∀ F : FC K Unit, F.io = (fun _ => uns N.length) → F.W = (fun c d _ H' => E c d H') → ∃ t, BX (cxOf (L2.CX P w) P w K mg base N qual scope f cdv A outer s H E) F body t (fun _ => Ps u ++ uns (N.length - ps.length)) (fun (e : Empty) _ => e.elim) (fun (e : Empty) _ => e.elim) r (out u)) :
    FnG P w K mg base (k + 1) f fd ps (SpP K ps.length Ps r fm) := by
  refine FnG.of FD Sc (fun vs H Q E h => ?_) (fun cdv A outer s H vs Q E hr hgd h => ?_)
  · obtain ⟨u, _, _, _, h, _⟩ := h
    exact h
  · obtain ⟨u, s0, I, M0, hl, at0, q⟩ := h
    obtain ⟨t, hB⟩ := hbody u cdv A outer s H E hr hgd ⟨H, I, M0, fun _ => uns N.length, fun c d _ H' => E c d H'⟩ rfl rfl
    refine ⟨t, hB.ps, hB.go [] [] (start N vs) s0 H _ ?_ ?_⟩
    · have z := at_start (N := N) at0
      rw [hl] at z
      exact z.re rfl rfl rfl
    · rw [hfm u] at q
      refine wp_mono (wp_bnd q) (fun fl s1 q1 => ?_) (fun e s1 q1 σ d v H' h1 hd => q1 d v H' ((at_exit h1).re rfl rfl rfl) hd)
      cases fl with
      | nx n => exact n.elim
      | bk n => exact n.elim
      | ct n => exact n.elim
      | rt b => exact fun v σ' H' h1 => q1 v H' ((at_exit h1).re rfl rfl rfl)
theorem fnG_io {S U W : Type} {rio : Rp S} {Pr : U → List Slot} {r : Rp W} {fm : U → SM S W} (FD : FunD K x qual params body scope [] [] f fd) (Sc : FnScope N ps scope) (out : U → SM S (Fl Empty Empty W)) (hfm : ∀ u, fm u = runB (out u))
    (hbody : ∀ (u : U) (v0 : V) (cdv : Value) (A : Around) (outer : List Env) (s : Shared) (H : Hp) (E : XK), Room k (A.deeper (envOfC qual scope s.heap.objs.size f cdv)) → A.guards = some [] →
      ∀ F : FC K S, F.io = (fun s => .pn v0 rio s :: uns (N.length - 1)) → F.W = (fun c d _ H' => E c d H') → ∃ t, BX (cxOf (L2.CX P w) P w K mg base N qual scope f cdv A outer s H E) F body t (fun s => .pn v0 rio s :: (Pr u ++ uns (N.length - ps.length))) (fun (e : Empty) _ => e.elim) (fun (e : Empty) _ => e.elim) r (out u)) :
    FnG P w K mg base (k + 1) f fd ps (SpI K ps.length rio Pr r fm) := by
  refine FnG.of FD Sc (fun vs H Q E h => ?_) (fun cdv A outer s H vs Q E hr hgd h => ?_)
  · obtain ⟨u, _, _, _, h, _⟩ := h
    exact h
  · obtain ⟨u, s0, I, M0, hl, at0, q⟩ := h
    obtain ⟨t, hB⟩ := hbody u (vs.headD .non) cdv A outer s H E hr hgd ⟨H, I, M0, fun s => .pn (vs.headD .non) rio s :: uns (N.length - 1), fun c d _ H' => E c d H'⟩ rfl rfl
    refine ⟨t, hB.ps, hB.go [] [] (start N vs) s0 H _ ?_ ?_⟩
    · have z := at_start (N := N) at0
      rw [hl] at z
      exact z.re rfl rfl rfl
    · rw [hfm u] at q
      refine wp_mono (wp_bnd q) (fun fl s1 q1 => ?_) (fun e s1 q1 σ d v H' h1 hd => q1 d v H' ((at_exitIo h1).re rfl rfl rfl) hd)
      cases fl with
      | nx n => exact n.elim
      | bk n => exact n.elim
      | ct n => exact n.elim
      | rt b => exact fun v σ' H' h1 => q1 v H' ((at_exitIo h1).re rfl rfl rfl)
end
section
variable {X : Cx} {k : Nat} {f : Addr} {fd : FuncData} {ps : List Str} {sp : Sp} {E : XK} {x : Str} {p pos : Pos} {e : Expr} {es : List Expr} {t : TA}
theorem pe_callG (FO : FnG X.prog X.w X.K X.mg X.base k f fd ps sp) (hr : Room k X.A) (hgd : X.A.guards = some []) (hg : Gl X x) (hm : X.mg x = some (.ref f)) (hk : PySem.W.keepIn X.K (.ref f) = true) (hb : Binds X.K fd ps []) (hx : Passes (L2.CX X.prog X.w) X E)
    (ha : PA X (e :: es) t) (hdb : (x == ("__debug__" : Str)) = false := by decide) (hst : starEach (e :: es) X.env = (false, eval e X.env) :: starEach es X.env := by rfl) (hpl : (backTo pos (starEach es X.env)).any (·.1) = false := by rfl) :
    PE X (.Call (.Name x p) (e :: es) [] pos) (tCall sp [] E t) := by
  refine ⟨fun pins s σ H Q I h => wpAny_Call_Name_kw (ld_glob I hg hm (PySem.W.callWith_K (h₀ := X.base) I.ok.mod.kin hk (thn (ha.run pos pins s σ H _ I h) fun us s1 ⟨vs, H1, I1, r, q⟩ => ⟨I1.kIn, ?_⟩) hst hpl) hdb)⟩
  have q : sp vs H1 Q E := by
    have z : sp (vs ++ []) H1 Q E := q
    rwa [List.append_nil] at z
  have hl : (us ++ ([] : List Value)).length = ps.length := by rw [List.append_nil, ← r.length]; exact FO.len _ _ _ _ q
  have hb2 := hb s1 us I1.kIn hl
  rw [List.append_nil] at hb2
  refine wpAny_call (codeAny_mono (FO.run X.A X.stack s1 H1 ⟨us, []⟩ us vs Q E hr hgd I1.env0 hb2 r q) fun z s' hq => ?_)
  cases z with
  | error e => exact hx pins σ H1 s1 e s' I1 hq
  | ok fl =>
    cases fl with
    | ret u => exact I1.after hq
    | next => exact hq.elim
    | brk => exact hq.elim
    | cont => exact hq.elim
end
section
variable {X : Cx} {S S' : Type} {F : FC X.K S} {U W A : Type} {n k : Nat} {r : Rp W} {E : XK} {ta : TA} {G G' : S → List Slot} {LA : A → List Arg} {mA : SM S A} {fA : Addr} {fd : FuncData} {ps : List Str} {x : Str} {p pos : Pos} {e : Expr} {es : List Expr}
theorem ex_callG {Ps : U → List Slot} {f : U → SM Unit W} {fm : A → SM Unit W} (hgd : X.A.guards = some []) (u : A → U) (FO : FnG X.prog X.w X.K X.mg X.base k fA fd ps (SpP X.K n Ps r f)) (hr : Room k X.A) (hg : Gl X x) (hm : X.mg x = some (.ref fA)) (hk : PySem.W.keepIn X.K (.ref fA) = true) (hb : Binds X.K fd ps []) (hx : Passes (L2.CX X.prog X.w) X E)
    (h : EA X F (e :: es) ta G G' LA mA) (hn : ∀ a, (LA a).length = n) (he : (r.Clo ∧ ∀ a s, Ent (G' s) (LA a) (Ps (u a))) ∨ ∀ a s, EntS (G' s) (LA a) (Ps (u a))) (hW : ∀ c d σ H, F.W c d σ H → E c d H) (hw : ∀ s, Weak (G' s) (F.io s)) (hf : ∀ a, fm a = f (u a) := by intro _; rfl)
    (hst : PySem.W.isStarred e = false := by rfl) (hpl : (backTo pos (starEach es X.env)).any (·.1) = false := by rfl) (hdb : (x == ("__debug__" : Str)) = false := by decide) :
    EX X F (.Call (.Name x p) (e :: es) [] pos) (tCall (SpP X.K n Ps r f) [] E ta) G G' r (bnd mA fun a => lft (fm a)) :=
  ⟨pe_callG FO hr hgd hg hm hk hb hx h.pa (hdb := hdb) (hst := star1 hst) (hpl := hpl), go_call u hf h.go hn he hW hw⟩
theorem ex_callIoG {rio : Rp S} {Pr : U → List Slot} {f : U → SM S W} {fm : A → SM S W} {w : V} (hgd : X.A.guards = some []) (j : Nat) (u : A → U) (FO : FnG X.prog X.w X.K X.mg X.base k fA fd ps (SpI X.K n rio Pr r f)) (hr : Room k X.A) (hg : Gl X x) (hm : X.mg x = some (.ref fA)) (hk : PySem.W.keepIn X.K (.ref fA) = true) (hb : Binds X.K fd ps []) (hx : Passes (L2.CX X.prog X.w) X E)
    (cio : rio.Clo) (h : EA X F (e :: es) ta G G' (fun a => .v j :: LA a) mA) (hn : ∀ a, (LA a).length + 1 = n) (hG : ∀ s, (G' s)[j]? = some (.pn w rio s)) (hS : ∀ s s', (G' s).set j (.pn w rio s') = G' s')
    (he : ∀ a s, EntS (G' s) (LA a) (Pr (u a))) (hW : ∀ c d σ H, F.W c d σ H → E c d H) (hw : ∀ s, Weak (G' s) (F.io s)) (hf : ∀ a, fm a = f (u a) := by intro _; rfl)
    (hst : PySem.W.isStarred e = false := by rfl) (hpl : (backTo pos (starEach es X.env)).any (·.1) = false := by rfl) (hdb : (x == ("__debug__" : Str)) = false := by decide) :
    EX X F (.Call (.Name x p) (e :: es) [] pos) (tCall (SpI X.K n rio Pr r f) [] E ta) G G' r (bnd mA fm) :=
  ⟨pe_callG FO hr hgd hg hm hk hb hx h.pa (hdb := hdb) (hst := star1 hst) (hpl := hpl), go_callIo j u hf cio h.go hn hG hS he hW hw⟩
theorem ex_callIoTG {rio : Rp S'} {Pr : U → List Slot} {f : U → SM S' W} {fm : A → SM S' W} {sx : A → S'} (hgd : X.A.guards = some []) (u : A → U) (FO : FnG X.prog X.w X.K X.mg X.base k fA fd ps (SpI X.K n rio Pr r f)) (hr : Room k X.A) (hg : Gl X x) (hm : X.mg x = some (.ref fA)) (hk : PySem.W.keepIn X.K (.ref fA) = true) (hb : Binds X.K fd ps []) (hx : Passes (L2.CX X.prog X.w) X E)
    (cio : rio.Clo) (h : EA X F (e :: es) ta G G' LA mA) (hn : ∀ a, (LA a).length = n)
    (he : ∀ a s, EntS (G' s) (LA a).tail (Pr (u a))) (hW : ∀ c d σ H, F.W c d σ H → E c d H) (hw : ∀ s, Weak (G' s) (F.io s)) (hL : ∀ a, LA a = .t (.is rio (sx a)) :: (LA a).tail := by intro _; rfl) (hf : ∀ a, fm a = f (u a) := by intro _; rfl)
    (hst : PySem.W.isStarred e = false := by rfl) (hpl : (backTo pos (starEach es X.env)).any (·.1) = false := by rfl) (hdb : (x == ("__debug__" : Str)) = false := by decide) :
    EX X F (.Call (.Name x p) (e :: es) [] pos) (tCall (SpI X.K n rio Pr r f) [] E ta) G G' r (bnd mA fun a => bnd (subM (fm a) (sx a)) fun p => ret p.1) :=
  ⟨pe_callG FO hr hgd hg hm hk hb hx h.pa (hdb := hdb) (hst := star1 hst) (hpl := hpl), go_callIoT u hf cio h.go hL hn he hW hw⟩
end
/-! ### repr -/
def reprM {S : Type} (d : PyData) : SM S Str := bnd (grd (d.showable = true ∧ d.hasDict = false ∧ d.depth ≤ 60 ∧ d.shown.length ≤ sizeLine)) fun _ => ret d.shown
theorem call_reprD {X : Cx} (hgd : X.A.guards = some []) (hu : X.A.units + 64 < cLine) : CallR X (.builtin "repr") (fun xs H Q => ∃ v d, xs = [v] ∧ Dp X.K H v d ∧ (d.showable = true ∧ d.hasDict = false ∧ d.depth ≤ 60 ∧ d.shown.length ≤ sizeLine) ∧ Q (.str d.shown) H) := by
  intro pins s σ H xs us Q I r h
  obtain ⟨v, d, exs, hd, ⟨h1, h2, h3, h4⟩, q⟩ := h
  subst exs
  obtain ⟨u, eu, ru⟩ := Vals.one r
  subst eu
  have big : ∀ a, v = .ref a → wpAny (model X.prog X.w) X.A (call (.builtin "repr") [u]) (EP X pins σ Q) X.xe s := fun a e => by
    subst e
    cases (show u = Value.ref a from ru)
    obtain ⟨as, rd⟩ := Dp.reads I d _ _ hd ru
    exact repr_of_reads' rd h1 (PyData.noDict_hsm h2) hgd (by omega) (fun _ _ e => e) (fun h' tk tk' hk => ⟨.str d.shown, H, I.kept hk, ⟨_, rfl⟩, q⟩) h4
  cases hd with
  | non =>
    cases (show u = Value.none from ru)
    exact PySem.P.repr_of_none ⟨.str _, H, I.tok _, ⟨_, rfl⟩, by simpa only [PyData.shown] using q⟩
  | bl b =>
    cases (show u = Value.bool b from ru)
    exact PySem.P.repr_of_bool ⟨.str _, H, I.tok _, ⟨_, rfl⟩, by simpa only [PyData.shown] using q⟩
  | int i =>
    obtain ⟨tk, e⟩ := (show ∃ t, u = Value.int i t from ru)
    subst e
    exact PySem.P.repr_of_int (of_decide_eq_true (by simpa only [PyData.showable] using h1)) ⟨.str _, H, I.tok _, ⟨_, rfl⟩, by simpa only [PyData.shown] using q⟩
  | str x =>
    obtain ⟨tk, e⟩ := (show ∃ t, u = Value.str x t from ru)
    subst e
    exact PySem.P.repr_of_str ⟨.str _, H, I.tok _, ⟨_, rfl⟩, by simpa only [PyData.shown] using q⟩ (by simpa only [PyData.shown] using h4)
  | lst => exact big _ rfl
  | tup => exact big _ rfl
section
variable {X : Cx} {S : Type} {F : FC X.K S} {U : Type} {e : Expr} {te : TE} {G G' : S → List Slot} {m : SM S U} {arg : U → Arg} {pos p0 : Pos} {da : U → PyData}
theorem ex_repr (hgd : X.A.guards = some []) (hu : X.A.units + 64 < cLine) (h : EO X F e te G G' arg m) (hx : ∀ a s, RdE (G' s) (arg a) (da a)) (hg : Gl X "repr") (hm : X.mg "repr" = none) (hs : PySem.W.isStarred e = false := by rfl) :
    EX X F (.Call (.Name "repr" p0) [e] [] pos) (tCB (fun xs H Q => ∃ v d, xs = [v] ∧ Dp X.K H v d ∧ (d.showable = true ∧ d.hasDict = false ∧ d.depth ≤ 60 ∧ d.shown.length ≤ sizeLine) ∧ Q (.str d.shown) H) (tCons te tNil)) G G' rStr (bnd m fun a => reprM (da a)) :=
  ex_callB1 (call_reprD hgd hu) hg hm (by decide) h (go_call1 h.go (fun _ => stl_bnd stl_grd fun _ => stl_ret _) fun a s T t ts v σ H Q A1 A2 at1 av q => by
    obtain ⟨v', ev, k1⟩ := rdE (j := 0) at1 av rfl (hx a s)
    cases ev
    obtain ⟨hc, q⟩ := wp_grd (wp_bnd q)
    exact ⟨v, da a, rfl, k1, hc, q.2 _ H (at1.fin av ⟨rfl, rfl⟩)⟩) hs
end
end Td

set_option Elab.async false
set_option linter.all false
set_option maxRecDepth 100000
set_option maxHeartbeats 4000000
namespace Td
open PySem PySem.Spec PyProof.Rows L2 SlX StX

/-! ### list(range(..)) -/
instance decRg (a b : Int) : Decidable (RgOk a b) := by unfold RgOk; infer_instance
theorem rg_upto (a b : Int) : rgV a b = (upto a (b - a).toNat).map V.int := by
  unfold rgV upto
  rw [List.map_map]; rfl
theorem all_int {K : PySem.W.Frag} {M : List Addr} {H : Hp} : ∀ (xs : List Int), All3 (rInt.rel K M H) (xs.map V.int) xs []
  | [] => .nil
  | x :: xs => .cons (B := []) ⟨rfl, rfl⟩ (all_int xs)
/-- a new list of plain ints -/
theorem At.ints {K : PySem.W.Frag} {S : Type} {F : FC K S} {T : List Slot} {t : List V} {G : List Slot} {σ : L2.St} {H : Hp} (h : At F T t G σ H) (xs : List Int) {p : Addr} (hp : H p = none) : At F (.is (rList rInt) xs :: T) (.ref p :: t) G σ (upd H p (.lst (xs.map V.int))) := by
  obtain ⟨A1, A2, h⟩ := h
  exact At.lst ⟨A1, A2, h.pushAll (all_int xs) rfl⟩ (by simp) hp
section
variable {X : Cx} {S : Type} {F : FC X.K S} {a b : Expr} {ta tb : TE} {G G1 G2 G' : S → List Slot} {mi m1 m2 : SM S Int} {pos p0 q0 rpos : Pos}
theorem ex_listRg1 (h : EX X F a ta G G' rInt mi) (hc : X.calm = true) (hg : Gl X "list") (hm : X.mg "list" = none) (hg2 : Gl X "range") (hm2 : X.mg "range" = none) (hs : PySem.W.isStarred a = false := by rfl) :
    EX X F (.Call (.Name "list" p0) [.Call (.Name "range" q0) [a] [] rpos] [] pos) (tLstRg (tRg1 ta)) G G' (rList rInt) (bnd mi fun j => bnd (grd (RgOk 0 j)) fun _ => ret (upto 0 j.toNat)) :=
  ⟨pe_listRg hc hg hm (prg_1 hg2 hm2 h.pe (star1 hs)), fun T t σ s H Q h0 q => h.go T t σ s H _ h0 (wp_mono (wp_bnd q) (fun j s1 q1 v H1 at1 => by
    obtain ⟨hz, q1⟩ := wp_grd (wp_bnd q1)
    obtain ⟨_, _, ek, _⟩ := top_rel at1
    refine ⟨j, ek, hz, fun p hp => ?_⟩
    rw [rg_upto, show (j - 0).toNat = j.toNat by rw [Int.sub_zero]]
    exact q1 _ _ (at1.pop.ints _ hp)) fun _ _ z => z)⟩
theorem ex_listRg2 (h : EX X F a ta G G1 rInt m1) (h2 : EX X F b tb G1 G2 rInt m2) (hc : X.calm = true) (hg : Gl X "list") (hm : X.mg "list" = none) (hg2 : Gl X "range") (hm2 : X.mg "range" = none) (hs : PySem.W.isStarred a = false := by rfl) (hs2 : PySem.W.isStarred b = false := by rfl) :
    EX X F (.Call (.Name "list" p0) [.Call (.Name "range" q0) [a, b] [] rpos] [] pos) (tLstRg (tRg2 ta tb)) G G2 (rList rInt) (bnd m1 fun i => bnd m2 fun j => bnd (grd (RgOk i j)) fun _ => ret (upto i (j - i).toNat)) :=
  ⟨pe_listRg hc hg hm (prg_2 hg2 hm2 h.pe h2.pe (star1 hs) (star1 hs2) (by rw [star1 hs2]; rfl)), fun T t σ s H Q h0 q => h.go T t σ s H _ h0 (wp_mono (wp_bnd q) (fun i s1 q1 v H1 at1 => by
    refine h2.go _ _ σ s1 H1 _ at1 (wp_mono (wp_bnd q1) (fun j s2 q2 w H2 at2 => ?_) fun _ _ z => z)
    obtain ⟨hz, q2⟩ := wp_grd (wp_bnd q2)
    obtain ⟨_, _, ek, _⟩ := snd_rel at2
    obtain ⟨_, _, ek2, _⟩ := top_rel at2
    refine ⟨i, j, ek, ek2, hz, fun p hp => ?_⟩
    rw [rg_upto]
    exact q2 _ _ (at2.pop.pop.ints _ hp)) fun _ _ z => z)⟩
/-- the step is -1 -/
def tRg3 (tr : TA) : TE := fun σ H Q => tr σ H fun vs H1 => ∃ i j, vs = [.int i, .int j, .int (-1)] ∧ RgOk j i ∧ ∀ q, H1 q = none → Q (.ref q) (upd H1 q (.lst ((dnto i (i - j).toNat).map V.int)))
theorem vals_dn {i : Int} {n : Nat} {acc : Array Value} (h : ItemsOf (fun k v => ∃ t, v = .int (i + k * (-1)) t) acc n) : Vals ((dnto i n).map V.int) acc.toList := by
  have e : acc.toList.length = n := by rw [Array.length_toList]; exact h.1
  unfold dnto
  rw [List.map_map, ← e]
  refine vals_of_get acc.toList _ fun j u hj => ?_
  obtain ⟨t, et⟩ := h.2 j u (by rw [← hj, Array.getElem?_toList])
  exact ⟨t, et⟩
theorem pe_listRg3 {es : List Expr} {tr : TA} (hc : X.calm = true) (pa : PA X (a :: es) tr) (hg : Gl X "list") (hm : X.mg "list" = none) (hg2 : Gl X "range") (hm2 : X.mg "range" = none) (hs : PySem.W.isStarred a = false) (hp : (backTo rpos (starEach es X.env)).any (·.1) = false) :
    PE X (.Call (.Name "list" p0) [.Call (.Name "range" q0) (a :: es) [] rpos] [] pos) (tRg3 tr) := by
  refine ⟨fun pins s σ H Q I h => ?_⟩
  refine wpAny_Call_Name_kw (ld_blt I hg hm boot_list (PyProof.Rows.callWith_type1 (args_cons (wpAny_Call_Name_kw (ld_blt I hg2 hm2 boot_range (PyProof.Rows.callWith_type1 (thn (pa.run rpos pins s σ H _ I h) fun us s1 ⟨vs, H1, I1, r1, i, j, ev, ok, q⟩ => ?_) (star1 hs) hp))) rfl) rfl))
  subst ev
  obtain ⟨u1, us1, e1, r1', rr⟩ : ∃ u us', us = u :: us' ∧ RelV (.int i) u ∧ Vals [.int j, .int (-1)] us' := by
    cases r1 with
    | cons h t => exact ⟨_, _, rfl, h, t⟩
  obtain ⟨u2, u3, e2, r2, r3⟩ := Vals.two rr
  subst e1 e2
  obtain ⟨t1, k1⟩ := r1'
  obtain ⟨t2, k2⟩ := r2
  obtain ⟨t3, k3⟩ := r3
  subst k1 k2 k3
  refine call_range_3 (by decide) ?_ (.inl (PyProof.noPylong_small (by decide)))
  have I2 : L2.Inv X pins σ H1 { s1 with heap := s1.heap.push { cls := .type "range", data := .fields #[.int i t1, .int j t2, .int (-1) t3] } } := I1.kept (t' := s1.toks) fun b u e => Heap.get?_push_of_some _ e
  obtain ⟨b1, b2, b3, b4, b5⟩ := ok
  refine args_nil ?_
  refine call_list_range (n := (i - j).toNat) (I2.ok.hd hc) (IsRange.new ..) (PySem.W.small_down b3 b4 b1 b2) (PySem.W.rangeSize_downNat i j) b5 fun h' tk acc c' hk e' hi => ?_
  refine ⟨.ref _, _, I2.laid (o := .lst ((dnto i (i - j).toNat).map V.int)) hk (Nat.le_refl _) ⟨?_, acc.toList, c', vals_dn hi, ?_⟩, rfl, q _ (I2.hok.fresh (Nat.le_refl _))⟩
  · rw [List.length_map, dnto_len, sizeLine_eq]; omega
  · rw [Array.toArray_toList]; exact e'
theorem ex_listRg3 {k : Nat} {p1 p2 : Pos} (h : EX X F a ta G G1 rInt m1) (h2 : EX X F b tb G1 G2 rInt m2) (hc : X.calm = true) (hg : Gl X "list") (hm : X.mg "list" = none) (hg2 : Gl X "range") (hm2 : X.mg "range" = none) (hs : PySem.W.isStarred a = false := by rfl) (hs2 : PySem.W.isStarred b = false := by rfl) :
    EX X F (.Call (.Name "list" p0) [.Call (.Name "range" q0) [a, b, .UnaryOp .USub (.Constant (.int 1) k p1) p2] [] rpos] [] pos) (tRg3 (tCons ta (tCons tb (tCons (tUn (rU fun i => .int (-i)) (tC (.int 1))) tNil)))) G G2 (rList rInt) (bnd m1 fun i => bnd m2 fun j => bnd (grd (RgOk j i)) fun _ => ret (dnto i (i - j).toNat)) :=
  ⟨pe_listRg3 hc (pa_cons h.pe (pa_cons h2.pe (pa_cons (pe_un un_neg pe_int) pa_nil (star1 rfl)) (star1 hs2)) (star1 hs)) hg hm hg2 hm2 hs (by rw [star1 hs2]; rfl), fun T t σ s H Q h0 q => h.go T t σ s H _ h0 (wp_mono (wp_bnd q) (fun i s1 q1 v H1 at1 => by
    refine h2.go _ _ σ s1 H1 _ at1 (wp_mono (wp_bnd q1) (fun j s2 q2 w H2 at2 => ?_) fun _ _ z => z)
    obtain ⟨hz, q2⟩ := wp_grd (wp_bnd q2)
    obtain ⟨_, _, ek, _⟩ := snd_rel at2
    obtain ⟨_, _, ek2, _⟩ := top_rel at2
    subst ek ek2
    exact ⟨1, rfl, i, j, rfl, hz, fun p hp => q2 _ _ (at2.pop.pop.ints _ hp)⟩) fun _ _ z => z)⟩
end
/-! ### x in (a, b) -/
section
variable {X : Cx} {S : Type} {F : FC X.K S} {a b : Expr} {ta tb : TE} {G G1 G2 G' : S → List Slot} {mi : SM S Int} {pos : Pos}
theorem vo_in2 {K : PySem.W.Frag} : VO2 K S rInt (rPair rInt rInt) rBool (rIn K false) (fun i p => ret ([p.1, p.2].any (· == i))) := by
  intro i p v w M B M' B' H Q s h1 h2 q
  obtain ⟨ev, _⟩ := h1
  obtain ⟨x, v1, v2, B1, B2, ew, hT, ⟨e1, _⟩, ⟨e2, _⟩, _⟩ := h2
  subst ev ew e1 e2
  exact ⟨x, _, rfl, .inr hT, rfl, rfl, q rfl _ fun _ => ⟨by simp [inV, eqV], rfl⟩⟩
theorem vo_in3 {K : PySem.W.Frag} : VO2 K S rInt (rTup3 rInt rInt rInt) rBool (rIn K false) (fun i p => ret ([p.1, p.2.1, p.2.2].any (· == i))) := by
  intro i p v w M B M' B' H Q s h1 h2 q
  obtain ⟨ev, _⟩ := h1
  obtain ⟨x, v1, v2, v3, B1, B2, B3, ew, hT, ⟨e1, _⟩, ⟨e2, _⟩, ⟨e3, _⟩, _⟩ := h2
  subst ev ew e1 e2 e3
  exact ⟨x, _, rfl, .inr hT, rfl, rfl, q rfl _ fun _ => ⟨by simp [inV, eqV], rfl⟩⟩
variable {m2 : SM S (Int × Int)} {m3 : SM S (Int × Int × Int)}
theorem ex_in2 (h1 : EX X F a ta G G1 rInt mi) (h2 : EX X F b tb G1 G2 (rPair rInt rInt) m2) (hm : behindInMarks .In b = false := by with_unfolding_all rfl) : EX X F (.Compare a [.In] [b] pos) (tOp (rIn X.K false) ta tb) G G2 rBool (bnd mi fun i => bnd m2 fun p => ret ([p.1, p.2].any (· == i))) :=
  ex_cmp op_in_seq vo_in2 (fun _ _ => stl_ret _) h1 h2 hm
theorem et_in2 (h1 : EX X F a ta G G1 rInt mi) (h2 : EX X F b tb G1 G2 (rPair rInt rInt) m2) (hm : behindInMarks .In b = false := by with_unfolding_all rfl) : ET X F (.Compare a [.In] [b] pos) (tTest (tOp (rIn X.K false) ta tb)) G G2 (bnd mi fun i => bnd m2 fun p => ret ([p.1, p.2].any (· == i))) :=
  et_cmp op_in_seq vo_in2 (fun _ _ => stl_ret _) h1 h2 hm
theorem ex_in3 (h1 : EX X F a ta G G1 rInt mi) (h2 : EX X F b tb G1 G2 (rTup3 rInt rInt rInt) m3) (hm : behindInMarks .In b = false := by with_unfolding_all rfl) : EX X F (.Compare a [.In] [b] pos) (tOp (rIn X.K false) ta tb) G G2 rBool (bnd mi fun i => bnd m3 fun p => ret ([p.1, p.2.1, p.2.2].any (· == i))) :=
  ex_cmp op_in_seq vo_in3 (fun _ _ => stl_ret _) h1 h2 hm
theorem et_in3 (h1 : EX X F a ta G G1 rInt mi) (h2 : EX X F b tb G1 G2 (rTup3 rInt rInt rInt) m3) (hm : behindInMarks .In b = false := by with_unfolding_all rfl) : ET X F (.Compare a [.In] [b] pos) (tTest (tOp (rIn X.K false) ta tb)) G G2 (bnd mi fun i => bnd m3 fun p => ret ([p.1, p.2.1, p.2.2].any (· == i))) :=
  et_cmp op_in_seq vo_in3 (fun _ _ => stl_ret _) h1 h2 hm
end
end Td

set_option Elab.async false
set_option linter.all false
set_option maxRecDepth 100000
set_option maxHeartbeats 4000000
namespace Td
open PySem PySem.Spec PyProof.Rows L2 SlX StX

/-! ### two fors -/
def lc2M {S A B C : Type} (mt : A → SM S Bool) (mi : A → SM S (List B)) (f : A → B → SM S (Option C)) : List C → List A → SM S (List C)
  | acc, [] => ret acc
  | acc, x :: xs => bnd (nxc (mt x)) fun k => if k then bnd (nxc (mi x)) fun ys => bnd (lcM (f x) acc ys) fun acc' => lc2M mt mi f acc' xs else lc2M mt mi f acc xs
theorem At.raise {K : PySem.W.Frag} {S : Type} {F : FC K S} {T T1 : List Slot} {t t1 : List V} {G : List Slot} {σ : L2.St} {H : Hp} {g : Slot} {v : V} (e : t1.length = T1.length) (h : At F (T1 ++ (g :: T)) (t1 ++ (v :: t)) G σ H) : At F (g :: (T1 ++ T)) (v :: (t1 ++ t)) G σ H := by
  obtain ⟨A1, A2, h⟩ := h
  obtain ⟨B, A1', mm, hg, tail, h2⟩ := h.lift e
  exact At.sink ⟨_, _, h2⟩
theorem At.sinkUn {K : PySem.W.Frag} {S : Type} {F : FC K S} {T T1 : List Slot} {t t1 : List V} {G : List Slot} {σ : L2.St} {H : Hp} {g : Slot} {v : V} (e : t1.length = T1.length) (h : At F (g :: (T1 ++ T)) (v :: (t1 ++ t)) G σ H) : At F (g :: T) (v :: t) G σ H := At.dropU e h
section
variable {X : Cx} {S : Type} {F : FC X.K S} {A B C : Type} {rx : Rp A} {ry : Rp B} {rc : Rp C} {wi wi1 : TI} {g g1 : TG} {ws ws1 vs vs1 : List Nat} {tt tt1 : TT} {te : TE} {G G1 : S → List Slot} {CI CJ : List Slot → Prop} {mi : SM S (List A)} {Gt : S → A → List Slot} {Gu : S → A → B → List Slot} {mt : A → SM S Bool} {mj : A → SM S (List B)} {mt1 : A → B → SM S Bool} {me : A → B → SM S C}
theorem wipe_sub : ∀ {vs : List Nat} {σ : L2.St} {j : Nat}, j ∉ vs → (wipe σ vs)[j]? = σ[j]? := fun h => wipe_get h
theorem go_lc2 (hi : GI F wi G G1 CI rx mi) (hC : ∀ s, CI (G1 s)) (hun : ∀ s, UnAt (G1 s) vs) (sub : ∀ j, j ∈ ws → j ∈ vs) (sub1 : ∀ j, j ∈ ws1 → j ∈ vs1) (hv : ∀ j, j ∈ vs1 → j ∈ vs) (hg : ∀ s, GG F.nx g ws rx (G1 s) (Gt s)) (hwk : ∀ s x, Weak (Gt s x) (G1 s))
    (ht : ∀ x, GT F.nx tt (fun s => Gt s x) (fun s => Gt s x) (mt x)) (hj : ∀ x, GI F.nx wi1 (fun s => Gt s x) (fun s => Gt s x) CJ ry (mj x)) (hCJ : ∀ s x, CJ (Gt s x)) (hun1 : ∀ s x, UnAt (Gt s x) vs1) (hg1 : ∀ s x, GG F.nx g1 ws1 ry (Gt s x) (Gu s x)) (hwk1 : ∀ s x y, Weak (Gu s x y) (Gt s x))
    (ht1 : ∀ x y, GT F.nx tt1 (fun s => Gu s x y) (fun s => Gu s x y) (mt1 x y)) (he : ∀ x y, GE F.nx te (fun s => Gu s x y) (fun s => Gu s x y) rc (me x y)) :
    GE F (tLc2 wi g tt wi1 g1 tt1 te vs vs1) G G1 (rList rc) (bnd mi fun xs => lc2M mt mj (fun x y => lcIt (mt1 x y) (me x y)) [] xs) := by
  intro T t σ s H Q h0 q
  refine hi T t σ s H _ h0 (wp_mono (wp_bnd q) (fun xs s1 q1 J gv hvv H1 src at1 D hD => ?_) fun _ _ z => z)
  refine ⟨fun i m H => m = xs.length - i ∧ i ≤ xs.length ∧ ∃ s acc, At F (.is (rList rc) acc :: (gv ++ T)) (.ref D :: (hvv ++ t)) (G1 s) σ H ∧
      (lc2M mt mj (fun x y => lcIt (mt1 x y) (me x y)) acc (xs.drop i) s).wp (fun a s' => ∀ v H', At F (.is (rList rc) a :: T) (v :: t) (G1 s') σ H' → Q v H') (XP F σ),
    ⟨xs.length, by simp, Nat.zero_le _, s1, [], At.lst (r := rc) (as := []) (vs := []) (by simpa [pend] using at1) rfl hD, by simpa using q1⟩, ?_⟩
  rintro i m H ⟨rfl, hi, s, acc, at2, q2⟩
  by_cases hlt : i < xs.length
  · refine .inr ⟨src.go (T1 := [_]) (t1 := [_]) (hC s) rfl at2 hlt, fun H' => ∃ s acc, At F (.is (rList rc) acc :: (gv ++ T)) (.ref D :: (hvv ++ t)) (G1 s) σ H' ∧
      (lc2M mt mj (fun x y => lcIt (mt1 x y) (me x y)) acc (xs.drop (i + 1)) s).wp (fun a s' => ∀ v H', At F (.is (rList rc) a :: T) (v :: t) (G1 s') σ H' → Q v H') (XP F σ),
      fun H' ⟨s, acc, at3, q3⟩ => ⟨xs.length - (i + 1), by omega, rfl, hlt, s, acc, at3, q3⟩, fun x H' hy => ?_⟩
    have at3 := src.yld (T1 := [_]) (t1 := [_]) (hC s) rfl at2 hy (List.getElem?_eq_getElem hlt)
    refine hg s _ _ _ H' x xs[i] _ (nx_at (at3.wiped fun v h => (hun s).all v h)) fun σ2 at4 l4 k4 => ?_
    refine ⟨wipe_eq l4 k4 sub, ?_⟩
    rw [List.drop_eq_getElem_cons hlt] at q2
    have back : ∀ {T' : List Slot} {t' : List V} {s' : S} {H3 : Hp}, At F.nx T' t' (Gt s' xs[i]) σ2 H3 → At F T' t' (G1 s') σ H3 := fun {T' t' s' H3} z => by
      have y := (at_nx z).weak (hwk s' xs[i])
      refine y.reS (by rw [l4, wipe_length]) fun j => ?_
      by_cases hj : j ∈ vs
      · rcases (hun s').all j hj with w | w
        · exact .inl w
        · right
          have hl : σ2.length ≤ j := by rw [y.len]; exact List.getElem?_eq_none_iff.mp w
          rw [List.getElem?_eq_none hl, List.getElem?_eq_none (by rw [l4, wipe_length] at hl; exact hl)]
      · right
        rw [k4 j fun w => hj (sub j w), wipe_get hj]
    have q3 := wp_nxc (E' := XP F.nx σ2) (wp_bnd q2)
    refine ht xs[i] _ _ σ2 s H' _ at4 (wp_mono q3 (fun k s4 q4 H4 at5 => ?_) fun _ _ z => z)
    cases k with
    | false =>
      rw [if_neg Bool.false_ne_true] at q4
      rw [if_neg Bool.false_ne_true]
      exact ⟨s4, acc, back at5, q4⟩
    | true =>
      rw [if_pos rfl] at q4
      rw [if_pos rfl]
      have q5 := wp_nxc (E' := XP F.nx σ2) (wp_bnd q4)
      refine hj xs[i] _ _ σ2 s4 H4 _ at5 (wp_mono q5 (fun ys s5 q6 J1 g1v h1v H5 src1 at6 => ?_) fun _ _ z => z)
      have at7 := At.raise src1.len at6
      refine ⟨fun j m H => m = ys.length - j ∧ j ≤ ys.length ∧ ∃ s acc, At F.nx (.is (rList rc) acc :: (g1v ++ (gv ++ T))) (.ref D :: (h1v ++ (hvv ++ t))) (Gt s xs[i]) σ2 H ∧
          (bnd (lcM (fun y => lcIt (mt1 xs[i] y) (me xs[i] y)) acc (ys.drop j)) (fun acc' => lc2M mt mj (fun x y => lcIt (mt1 x y) (me x y)) acc' (xs.drop (i + 1))) s).wp (fun a s' => ∀ v H', At F (.is (rList rc) a :: T) (v :: t) (G1 s') σ H' → Q v H') (XP F σ),
        ⟨ys.length, by simp, Nat.zero_le _, s5, acc, at7, by simpa using q6⟩, ?_⟩
      rintro j m H ⟨rfl, hjl, s6, acc6, at8, q8⟩
      by_cases hlt1 : j < ys.length
      · refine .inr ⟨src1.go (T1 := [_]) (t1 := [_]) (hCJ s6 xs[i]) rfl at8 hlt1, fun H' => ∃ s acc, At F.nx (.is (rList rc) acc :: (g1v ++ (gv ++ T))) (.ref D :: (h1v ++ (hvv ++ t))) (Gt s xs[i]) σ2 H' ∧
          (bnd (lcM (fun y => lcIt (mt1 xs[i] y) (me xs[i] y)) acc (ys.drop (j + 1))) (fun acc' => lc2M mt mj (fun x y => lcIt (mt1 x y) (me x y)) acc' (xs.drop (i + 1))) s).wp (fun a s' => ∀ v H', At F (.is (rList rc) a :: T) (v :: t) (G1 s') σ H' → Q v H') (XP F σ),
          fun H' ⟨s, acc, at3, q3⟩ => ⟨ys.length - (j + 1), by omega, rfl, hlt1, s, acc, at3, q3⟩, fun y H' hy1 => ?_⟩
        have at9 := src1.yld (T1 := [_]) (t1 := [_]) (hCJ s6 xs[i]) rfl at8 hy1 (List.getElem?_eq_getElem hlt1)
        refine hg1 s6 xs[i] _ _ _ H' y ys[j] _ (at9.wiped fun v h => (hun1 s6 xs[i]).all v h) fun σ3 at10 l10 k10 => ?_
        refine ⟨wipe_eq l10 k10 sub1, ?_⟩
        rw [List.drop_eq_getElem_cons hlt1] at q8
        have back1 : ∀ {T' : List Slot} {t' : List V} {s' : S} {H3 : Hp}, At F.nx T' t' (Gu s' xs[i] ys[j]) σ3 H3 → At F.nx T' t' (Gt s' xs[i]) σ2 H3 := fun {T' t' s' H3} z => by
          have y := z.weak (hwk1 s' xs[i] ys[j])
          refine y.reS (by rw [l10, wipe_length]) fun j' => ?_
          by_cases hj' : j' ∈ vs1
          · rcases (hun1 s' xs[i]).all j' hj' with w | w
            · exact .inl w
            · right
              have hl : σ3.length ≤ j' := by rw [y.len]; exact List.getElem?_eq_none_iff.mp w
              rw [List.getElem?_eq_none hl, List.getElem?_eq_none (by rw [l10, wipe_length] at hl; exact hl)]
          · right
            rw [k10 j' fun w => hj' (sub1 j' w), wipe_get hj']
        have q9 := wp_nxc (E' := XP F.nx σ3) (wp_bnd (wp_bnd q8))
        refine ht1 xs[i] ys[j] _ _ σ3 s6 H' _ at10 (wp_mono (wp_bnd q9) (fun k s7 q10 H7 at11 => ?_) fun _ _ z => z)
        cases k with
        | true =>
          rw [if_pos rfl] at q10
          rw [if_pos rfl]
          refine he xs[i] ys[j] _ _ σ3 s7 H7 _ at11 (wp_mono (wp_bnd q10) (fun c s8 q11 v H8 at12 => ?_) fun _ _ z => z)
          have at13 := back1 at12
          have q12 : ((bnd (grd (acc6.length < sizeLine)) fun _ => lcM (fun y => lcIt (mt1 xs[i] y) (me xs[i] y)) (acc6 ++ [c]) (List.drop (j + 1) ys)) s8).wp (fun a s' => (lc2M mt mj (fun x y => lcIt (mt1 x y) (me x y)) a (List.drop (i + 1) xs) s').wp (fun a s' => ∀ v H', At F (.is (rList rc) a :: T) (v :: t) (G1 s') σ H' → Q v H') (XP F σ)) (XP F σ) := q11
          obtain ⟨hz, q13⟩ := wp_grd (wp_bnd q12)
          obtain ⟨us, hDu, hl, at14⟩ := At.appendT at13
          exact ⟨us, hDu, by rw [hl]; exact hz, s8, acc6 ++ [c], at14, bnd_wp q13⟩
        | false =>
          rw [if_neg Bool.false_ne_true] at q10
          rw [if_neg Bool.false_ne_true]
          exact ⟨s7, acc6, back1 at11, bnd_wp q10⟩
      · have e : j = ys.length := by omega
        subst e
        rw [List.drop_length] at q8
        exact .inl ⟨src1.stop (T1 := [_]) (t1 := [_]) (hCJ s6 xs[i]) rfl at8 (Nat.le_refl _), s6, acc6, back (At.dropU src1.len at8), wp_bnd q8⟩
  · have e : i = xs.length := by omega
    subst e
    rw [List.drop_length] at q2
    refine .inl ⟨src.stop (T1 := [_]) (t1 := [_]) (hC s) rfl at2 (Nat.le_refl _), ?_⟩
    exact q2 _ H (At.dropU src.len at2)
end
section
variable {X : Cx} {S : Type} {F : FC X.K S} {A B C : Type} {rx : Rp A} {ry : Rp B} {rc : Rp C} {tg e tg1 e1 elt : Expr} {ifs ifs1 : List Expr} {scope : Scope} {own : List (Str × Nat)} {wi : TI} {wi1 : Shared → Hp → Addr → List (Str × Addr) → List Addr → TI} {g g1 : Shared → Hp → Addr → List (Str × Addr) → List Addr → TG} {ws ws1 vs1 : List Nat} {tt tt1 : Shared → Hp → Addr → List (Str × Addr) → List Addr → TT} {te : Shared → Hp → Addr → List (Str × Addr) → List Addr → TE} {G G1 : S → List Slot} {CI CJ : List Slot → Prop} {mi : SM S (List A)} {Gt : S → A → List Slot} {Gu : S → A → B → List Slot} {mt : A → SM S Bool} {mj : A → SM S (List B)} {mt1 : A → B → SM S Bool} {me : A → B → SM S C} {pos : Pos}
theorem ex_lc2 (sh0 : Shared) (hc : X.calm = true) (hN : X.N.Nodup) (hi : EI X F tg e wi G G1 CI rx mi) (hC : ∀ s, CI (G1 s)) (ok : BlkOk X.N X.env.scope scope own) (hun : ∀ s, UnAt (G1 s) (own.map (·.2))) (sub : ∀ j, j ∈ ws → j ∈ own.map (·.2)) (sub1 : ∀ j, j ∈ ws1 → j ∈ vs1) (hv : ∀ j, j ∈ vs1 → j ∈ own.map (·.2)) (hwk : ∀ s x, Weak (Gt s x) (G1 s))
    (hg : ∀ (s0 : Shared) (H : Hp) (D : Addr) (cl : List (Str × Addr)) (fp : List Addr) (s : S), EG (X.blk s0 H scope (compEnvC scope cl D X.env) fp) F.nx tg (g s0 H D cl fp) ws rx (G1 s) (Gt s))
    (ht : ∀ (s0 : Shared) (H : Hp) (D : Addr) (cl : List (Str × Addr)) (fp : List Addr) (x : A), ETs (X.blk s0 H scope (compEnvC scope cl D X.env) fp) F.nx ifs (tt s0 H D cl fp) (fun s => Gt s x) (fun s => Gt s x) (mt x))
    (hj : ∀ (s0 : Shared) (H : Hp) (D : Addr) (cl : List (Str × Addr)) (fp : List Addr) (x : A), EI (X.blk s0 H scope (compEnvC scope cl D X.env) fp) F.nx tg1 e1 (wi1 s0 H D cl fp) (fun s => Gt s x) (fun s => Gt s x) CJ ry (mj x)) (hCJ : ∀ s x, CJ (Gt s x)) (hun1 : ∀ s x, UnAt (Gt s x) vs1) (hwk1 : ∀ s x y, Weak (Gu s x y) (Gt s x))
    (hg1 : ∀ (s0 : Shared) (H : Hp) (D : Addr) (cl : List (Str × Addr)) (fp : List Addr) (s : S) (x : A), EG (X.blk s0 H scope (compEnvC scope cl D X.env) fp) F.nx tg1 (g1 s0 H D cl fp) ws1 ry (Gt s x) (Gu s x))
    (ht1 : ∀ (s0 : Shared) (H : Hp) (D : Addr) (cl : List (Str × Addr)) (fp : List Addr) (x : A) (y : B), ETs (X.blk s0 H scope (compEnvC scope cl D X.env) fp) F.nx ifs1 (tt1 s0 H D cl fp) (fun s => Gu s x y) (fun s => Gu s x y) (mt1 x y))
    (he : ∀ (s0 : Shared) (H : Hp) (D : Addr) (cl : List (Str × Addr)) (fp : List Addr) (x : A) (y : B), EX (X.blk s0 H scope (compEnvC scope cl D X.env) fp) F.nx elt (te s0 H D cl fp) (fun s => Gu s x y) (fun s => Gu s x y) rc (me x y)) (hA : Inhabited A) (hB : Inhabited B) (hS : Inhabited S)
    (e_g : ∀ s0 H D cl fp, g s0 H D cl fp = g sh0 (fun _ => none) 0 [] [] := by intros; rfl) (e_g1 : ∀ s0 H D cl fp, g1 s0 H D cl fp = g1 sh0 (fun _ => none) 0 [] [] := by intros; rfl) (e_tt : ∀ s0 H D cl fp, tt s0 H D cl fp = tt sh0 (fun _ => none) 0 [] [] := by intros; rfl) (e_tt1 : ∀ s0 H D cl fp, tt1 s0 H D cl fp = tt1 sh0 (fun _ => none) 0 [] [] := by intros; rfl) (e_te : ∀ s0 H D cl fp, te s0 H D cl fp = te sh0 (fun _ => none) 0 [] [] := by intros; rfl) (e_wi1 : ∀ s0 H D cl fp, wi1 s0 H D cl fp = wi1 sh0 (fun _ => none) 0 [] [] := by intros; rfl) (hs : ∀ x, foldedSetIterable e X.env x = pure x := by intro _; rfl) (hs1 : ∀ env x, foldedSetIterable e1 env x = pure x := by intro _ _; rfl) :
    EX X F (.ListComp elt [⟨tg, e, ifs, 0⟩, ⟨tg1, e1, ifs1, 0⟩] scope pos) (tLc2 wi (g sh0 (fun _ => none) 0 [] []) (tt sh0 (fun _ => none) 0 [] []) (wi1 sh0 (fun _ => none) 0 [] []) (g1 sh0 (fun _ => none) 0 [] []) (tt1 sh0 (fun _ => none) 0 [] []) (te sh0 (fun _ => none) 0 [] []) (own.map (·.2)) vs1) G G1 (rList rc) (bnd mi fun xs => lc2M mt mj (fun x y => lcIt (mt1 x y) (me x y)) [] xs) :=
  ⟨pe_lc2 hc hN hi.pi ok hv (fun s0 H D cl fp => by rw [← e_g s0 H D cl fp]; exact (hg s0 H D cl fp hS.default).pg) (fun s0 H D cl fp => by rw [← e_tt s0 H D cl fp]; exact (ht s0 H D cl fp hA.default).pt) (fun s0 H D cl fp => by rw [← e_wi1 s0 H D cl fp]; exact (hj s0 H D cl fp hA.default).pi)
      (fun s0 H D cl fp => by rw [← e_g1 s0 H D cl fp]; exact (hg1 s0 H D cl fp hS.default hA.default).pg) (fun s0 H D cl fp => by rw [← e_tt1 s0 H D cl fp]; exact (ht1 s0 H D cl fp hA.default hB.default).pt) (fun s0 H D cl fp => by rw [← e_te s0 H D cl fp]; exact (he s0 H D cl fp hA.default hB.default).pe) hs hs1,
    go_lc2 hi.go hC hun sub sub1 hv (fun s => (hg sh0 (fun _ => none) 0 [] [] s).go) hwk (fun x => (ht sh0 (fun _ => none) 0 [] [] x).go) (fun x => (hj sh0 (fun _ => none) 0 [] [] x).go) hCJ hun1 (fun s x => (hg1 sh0 (fun _ => none) 0 [] [] s x).go) hwk1 (fun x y => (ht1 sh0 (fun _ => none) 0 [] [] x y).go) (fun x y => (he sh0 (fun _ => none) 0 [] [] x y).go)⟩
end
end Td
namespace Td
open PySem PySem.Spec PyProof.Rows L2
theorem At.unpair3 {K : PySem.W.Frag} {S : Type} {F : FC K S} {T : List Slot} {t : List V} {G : List Slot} {σ : L2.St} {H : Hp} {U W Z : Type} {r : Rp U} {q : Rp W} {l : Rp Z} {a : U × W × Z} {v : V} (h : At F (.is (rTup3 r q l) a :: T) (v :: t) G σ H) :
    ∃ p x y z, v = .ref p ∧ SqT K H p [x, y, z] ∧ At F (.is r a.1 :: .is q a.2.1 :: .is l a.2.2 :: T) (x :: y :: z :: t) G σ H := by
  obtain ⟨A1, A2, h⟩ := h
  obtain ⟨B, A', eA, ⟨v', ev, p, x, y, z, B1, B2, B3, e, hT, h1, h2, h3, eB⟩, ht⟩ := AtS.cons_inv h.tmp
  cases ev
  subst eA eB
  have eq : (B1 ++ (B2 ++ B3)) ++ A' = B1 ++ (B2 ++ (B3 ++ A')) := by simp
  refine ⟨p, x, y, z, e, hT, (B1 ++ (B2 ++ (B3 ++ A'))), A2, ?_, ?_, ?_⟩
  · rw [← eq]
    have w : AtS K ((B1 ++ (B2 ++ B3)) ++ A' ++ A2 ++ F.M0) H (.is r a.1 :: .is q a.2.1 :: .is l a.2.2 :: T) ((x :: y :: z :: t).map some) (B1 ++ (B2 ++ (B3 ++ A'))) := .cons ⟨x, rfl, h1⟩ (.cons ⟨y, rfl, h2⟩ (.cons ⟨z, rfl, h3⟩ ht))
    rwa [← eq] at w
  · rw [← eq]; exact h.loc
  · rw [← eq]; exact h.good
section
variable {X : Cx} {S : Type} {F : FC X.K S} {A B C : Type} {rx : Rp A} {ry : Rp B} {rz : Rp C} {G : List Slot} {pos : Pos}
theorem eg_tup3 {e1 e2 e3 : Expr} {g1 g2 g3 : TG} {w1 w2 w3 ws : List Nat} {k : Nat} {Gt : A × B × C → List Slot} {G1 : A → List Slot} {G2 : A → B → List Slot} {G3 : A → B → C → List Slot} (hc : X.calm = true) (h1 : EG X F e1 g1 w1 rx G G1) (h2 : ∀ a, EG X F e2 g2 w2 ry (G1 a) (G2 a)) (h3 : ∀ a b, EG X F e3 g3 w3 rz (G2 a b) (G3 a b))
    (ha : Inhabited A) (hb : Inhabited B) (hws : ws = w1 ++ (w2 ++ w3) := by rfl) (hGt : ∀ p, Gt p = G3 p.1 p.2.1 p.2.2 := by intro _; rfl) (hs1 : (assignEach [e1, e2, e3] X.env).map (·.2) = assign e1 X.env :: (assignEach [e2, e3] X.env).map (·.2) := by rfl)
    (hs2 : (assignEach [e2, e3] X.env).map (·.2) = assign e2 X.env :: (assignEach [e3] X.env).map (·.2) := by rfl) (hs3 : (assignEach [e3] X.env).map (·.2) = assign e3 X.env :: (assignEach [] X.env).map (·.2) := by rfl)
    (hn : (assignEach [e1, e2, e3] X.env).length = 3 := by rfl) (hst : (assignEach [e1, e2, e3] X.env).findIdx? (·.1) = none := by rfl) :
    EG X F (.Tuple [e1, e2, e3] k pos) (gTup X.K 3 (gCons g1 (gCons g2 (gCons g3 gNil)))) ws (rTup3 rx ry rz) G Gt :=
  ⟨pg_tup hc (pgs_cons h1.pg (pgs_cons (h2 ha.default).pg (pgs_cons (h3 ha.default hb.default).pg pgs_nil hs3) hs2) hs1) hn hst, fun T t σ H v a Q h q => by
    have eG : Gt = fun p => G3 p.1 p.2.1 p.2.2 := funext hGt
    subst hws eG
    obtain ⟨p, x, y, z, ev, hT, h⟩ := h.unpair3
    refine ⟨p, [x, y, z], ev, hT, rfl, x, [y, z], rfl, ?_⟩
    refine h1.go _ _ σ H x a.1 _ h fun σ1 at1 l1 k1 => ?_
    refine ⟨y, [z], rfl, ?_⟩
    refine (h2 a.1).go _ _ σ1 H y a.2.1 _ at1 fun σ2 at2 l2 k2 => ?_
    refine ⟨z, [], rfl, ?_⟩
    refine (h3 a.1 a.2.1).go _ _ σ2 H z a.2.2 _ at2 fun σ3 at3 l3 k3 => ?_
    exact ⟨rfl, q σ3 at3 ((l3.trans l2).trans l1) fun j hj => ((k3 j fun z => hj (by simp [z])).trans (k2 j fun z => hj (by simp [z]))).trans (k1 j fun z => hj (by simp [z]))⟩⟩
end
end Td

set_option Elab.async false
set_option linter.all false
set_option maxRecDepth 100000
set_option maxHeartbeats 4000000
namespace Td
open PySem PySem.Spec PyProof.Rows L2

/-! ### a law whose def shows data: run where no repr is under way -/
section
variable {P : Program} {w : World} {K : PySem.W.Frag} {mg mb : Str → Option Value} {k : Nat} {fa a : Addr} {fd : FuncData} {x : Str} {sp : Sp} {sh : Shared} {H : Hp}
/-- the call over one abstract heap that knows at most the script -/
theorem callG_at {o : Obj} (KX : K.In sh.heap) (hns : sh.heap.Ns mainGlobals mg) (hb : sh.heap.Ns builtinsNs mb) (hbb : ∀ x : Str, x ≠ "__name__" → mb x = bootBuiltins x) (hlim : sh.heap.NoLimit) (hg : sh.gens = #[])
    (ho : sh.heap.get? a = some o) (hseq : ∀ es ep, o.data ≠ .dict es ep) (hr : Room k callerA) (F : ∀ base : Heap, K.In base → base.Ns mainGlobals mg → FnG P w K mg base k fa fd [x] sp) (hbind : ∀ (s : Shared) (u : Value), BindsTo s fd ⟨[u], []⟩ [(x, u)])
    (hO : Only H) (hok : HOk P w H sh.heap) (hA : ∀ b, H b ≠ none → b = a) (hK : H a ≠ none → K.lookup a = none) (hsp : sp [.ref a] H (fun v _ => v = .bl true) fun _ _ _ => False) :
    codeAny (model P w) callerA (.call (.ref fa) ⟨[.ref a], []⟩) (fun r s' => r = .ok (.ret (.bool true)) ∧ OldK sh.heap s'.heap ∧ s'.os = sh.os ∧ AllBare s'.gens) sh := by
  have free : ∀ {b : Addr}, b ≠ a → H b = none := fun {b} h => by
    cases q : H b with
    | none => rfl
    | some u => exact absurd (hA b (by rw [q]; exact fun z => nomatch z)) h
  have nsK : ∀ {b : Addr} {m : Str → Option Value}, sh.heap.Ns b m → (hidT sh.heap H).Ns b m := fun {b m} hn => by
    obtain ⟨ob, es, ep, e, d, r⟩ := hn
    refine ⟨ob, es, ep, hidT_get e (free fun z => ?_), d, r⟩
    subst z
    rw [ho] at e
    cases e
    exact hseq es ep d
  have hKb : K.In (hidT sh.heap H) := fun b ob e => by
    refine hidT_get (KX b ob e) ?_
    by_cases hb : b = a
    · subst hb
      cases q : H b with
      | none => rfl
      | some u =>
        have z := hK (by rw [q]; exact fun z => nomatch z)
        rw [z] at e; cases e
    · exact free hb
  obtain ⟨mc, lim1, lim2⟩ := hlim
  have e0 : Env0 P w K mg (hidT sh.heap H) callerA [] sh H := ⟨rfl, ⟨hKb, nsK hns, ⟨mb, nsK hb, hbb⟩, ⟨mc, nsK lim1, lim2⟩⟩, fun b ob e => of_hidT e, Nat.le_of_eq (hidT_size _ _), trivial, fun b hb => (nomatch hb), hok, .of_eq hg⟩
  refine codeAny_mono ((F _ hKb (nsK hns)).run callerA [] sh H ⟨[.ref a], []⟩ [.ref a] [.ref a] _ _ hr rfl e0 (hbind sh (.ref a)) (.cons rfl .nil) hsp) fun r s' h => ?_
  cases r with
  | error e =>
    obtain ⟨_, _, _, _, _, _, _, _, _, _, _, _, hf⟩ := h
    exact hf.elim
  | ok fl =>
    cases fl with
    | next => exact h.elim
    | brk => exact h.elim
    | cont => exact h.elim
    | ret u =>
      obtain ⟨v, H', os, bare, un, hok', ru, ev⟩ := h
      have ev' : v = .bl true := ev
      subst ev'
      have eu : u = Value.bool true := ru
      refine ⟨by rw [eu], OldK.of_keep fun b ob e => ?_, os, bare⟩
      rcases hO b with z | ⟨o2, ys, z⟩
      · exact un.keep b ob e z (fun z => nomatch (show b ∈ ([] : List Addr) from z)) (fun z => nomatch z)
      · obtain ⟨e1, _⟩ := hok b _ z
        obtain ⟨e2, _⟩ := hok' b _ (un.frzs b o2 _ z)
        rw [e] at e1; cases e1
        exact e2
theorem law_callG {vs : List Value} {ns : List Int} (KX : K.In sh.heap) (hns : sh.heap.Ns mainGlobals mg) (hb : sh.heap.Ns builtinsNs mb) (hbb : ∀ x : Str, x ≠ "__name__" → mb x = bootBuiltins x) (hlim : sh.heap.NoLimit) (hg : sh.gens = #[])
    (ha : sh.heap.get? a = some { cls := .type "list", data := .seq vs.toArray }) (hi : IntsAre vs ns) (hl : ns.length ≤ sizeLine) (hr : Room k callerA)
    (F : ∀ base : Heap, K.In base → base.Ns mainGlobals mg → FnG P w K mg base k fa fd [x] sp) (hbind : ∀ (s : Shared) (u : Value), BindsTo s fd ⟨[u], []⟩ [(x, u)])
    (hsp : ∀ H : Hp, Only H → SqL K H a (ns.map V.int) → sp [.ref a] H (fun v _ => v = .bl true) fun _ _ _ => False) :
    codeAny (model P w) callerA (.call (.ref fa) ⟨[.ref a], []⟩) (fun r s' => r = .ok (.ret (.bool true)) ∧ OldK sh.heap s'.heap ∧ s'.os = sh.os ∧ AllBare s'.gens) sh := by
  have rv := vals_ints hi
  have key := fun (H : Hp) (hO : Only H) (hS : SqL K H a (ns.map V.int)) => callG_at (H := H) KX hns hb hbb hlim hg ha (fun es ep z => nomatch z) hr F hbind hO (hsp := hsp H hO hS)
  cases hk : K.lookup a with
  | some o =>
    have e := KX a o hk
    rw [ha] at e
    cases e
    exact key (fun _ => none) (fun _ => .inl rfl) (.inr ⟨_, vs.toArray, _, hk, rfl, rfl, rfl, by rw [List.size_toArray, hi.length]; exact hl, by simpa using rv⟩) (fun b u z => nomatch (show (none : Option HO) = some u from z)) (fun b z => absurd rfl z) (fun z => absurd rfl z)
  | none =>
    obtain ⟨u0, hu0⟩ : ∃ u : HO, u = .frz { cls := .type "list", data := .seq vs.toArray } (.lst (ns.map V.int)) := ⟨_, rfl⟩
    have at_a : (fun b : Addr => if b = a then some u0 else none) a = some u0 := if_pos rfl
    have off : ∀ b, b ≠ a → (fun b : Addr => if b = a then some u0 else none) b = none := fun b h => if_neg h
    refine key (fun b => if b = a then some u0 else none) (fun b => ?_) (.inl (.inr ⟨{ cls := .type "list", data := .seq vs.toArray }, by rw [← hu0]; exact at_a⟩)) (fun b u z => ?_) (fun b z => ?_) fun _ => hk
    · by_cases h : b = a
      · exact .inr ⟨_, _, by rw [h, at_a, hu0]⟩
      · exact .inl (off b h)
    · by_cases h : b = a
      · subst h
        rw [at_a] at z
        cases z
        subst hu0
        exact ⟨ha, by rw [List.length_map]; exact hl, vs, _, rv, ha⟩
      · rw [off b h] at z; cases z
    · exact Classical.byContradiction fun h => z (off b h)
end
/-- a law over a head by facts -/
theorem walk_ofG {l : PySem.W.OpenLaw} {n k : Nat} {q : Program} {loose : List Str} {XP : (Str → Option Value) → Heap → Prop} {YP : World → Heap → Prop} {d : DefRec} {x : Str}
    (hn : l.most = some n) (hn2 : n ≤ sizeLine) (hdf : d.params.defaults = []) (hr : Room k callerA)
    (F : ∀ (w : World) (mg : Str → Option Value) (fa : Addr) (h : Heap), YP w h → h.Ns mainGlobals mg → mg d.name = some (.ref fa) →
      ∃ (K : PySem.W.Frag) (fd : FuncData) (sp : Sp), K.In h ∧ (∀ (s : Shared) (u : Value), BindsTo s fd ⟨[u], []⟩ [(x, u)]) ∧
        (∀ (H : Hp) (a : Addr) (ns : List Int), ns.length ≤ n → Only H → SqL K H a (ns.map V.int) → sp [.ref a] H (fun v _ => v = .bl true) fun _ _ _ => False) ∧
        ∀ base : Heap, K.In base → base.Ns mainGlobals mg → FnG l.prog w K mg base k fa fd [x] sp) :
    PySem.W.WalkO q loose XP YP l.row.toRowW d [] (fun f vs => PySem.call f vs) := by
  refine Att.attach_call hn hdf fun w s₀ s₁ mg mb fa o pm cd doc a vs ns G Y ho hd hcd hmg hobj hints hlen hg => ?_
  obtain ⟨K, fd, sp, KX, hb, hsp, hF⟩ := F w mg fa _ Y G.T.g hmg
  exact law_callG KX G.T.g G.T.b G.T.builtins G.T.nolimit hg hobj hints (Nat.le_trans hlen hn2) hr hF hb fun H hO hS => hsp H a ns hlen hO hS
end Td
namespace Td
open PySem PySem.Spec PyProof.Rows L2
/-! ### the script -/
def rScr : Rp (List Int) where
  rel := fun K M H v xs B => B = [] ∧ ∃ p, v = .ref p ∧ ((∃ o, H p = some (.frz o (.lst (xs.map V.int)))) ∨ ∀ H', SqL K H' p (xs.map V.int))
  keep := by
    rintro K M H H' v a B ⟨eB, p, ev, h⟩ k
    refine ⟨eB, p, ev, h.imp (fun ⟨o, e⟩ => ⟨o, k p _ e (.inr (.inr rfl))⟩) id⟩
  grow := fun h _ => h
  trk := by
    rintro K M H v a B ⟨eB, _⟩ x hx
    rw [eB] at hx; cases hx
theorem cp_scr : rScr.Cp := fun h => h.1
theorem clo_scr : rScr.Clo := fun h => h
theorem scr_seq {K : PySem.W.Frag} {M : List Addr} {H : Hp} {v : V} {xs : List Int} {B : List Addr} (h : rScr.rel K M H v xs B) : ∃ p, v = .ref p ∧ SqL K H p (xs.map V.int) := by
  obtain ⟨_, p, ev, h⟩ := h
  exact ⟨p, ev, h.elim (fun ⟨o, e⟩ => .inl (.inr ⟨o, e⟩)) fun h => h H⟩
theorem scr_of {K : PySem.W.Frag} {H : Hp} {a : Addr} {xs : List Int} (hO : Only H) (h : SqL K H a (xs.map V.int)) (M : List Addr) : rScr.rel K M H (.ref a) xs [] := by
  refine ⟨rfl, a, rfl, ?_⟩
  rcases h with (h | h) | h
  · rcases hO a with z | ⟨o, ys, z⟩
    · rw [h] at z; cases z
    · rw [h] at z; cases z
  · exact .inl h
  · exact .inr fun _ => .inr h
theorem atI_map {xs : List Int} {i a : Int} (h : atI xs i = some a) : atI (xs.map V.int) i = some (.int a) := by
  unfold atI at *
  rw [List.length_map]
  cases e : ixN xs.length i with
  | none => rw [e] at h; cases h
  | some j =>
    rw [e] at h
    show (xs.map V.int)[j]? = _
    have h' : xs[j]? = some a := h
    rw [List.getElem?_map, h']; rfl
section
variable {X : Cx} {S : Type} {F : FC X.K S} {U : Type} {a b e : Expr} {ta tb te : TE} {G G1 G2 G' : S → List Slot} {m1 m : SM S U} {mi : SM S Int} {argU arg : U → Arg} {xs : U → List Int} {pos p0 : Pos}
theorem ex_ixScr (h1 : EO X F a ta G G1 argU m1) (h2 : EX X F b tb G1 G2 rInt mi) (hx : ∀ a s, Rdd (G2 s) (argU a) rScr (xs a)) (hs : PlainIx b := by exact fun _ _ => rfl) :
    EX X F (.Subscript a b pos) (tOp (rIxL X.K) ta tb) G G2 rInt (bnd m1 fun a => bnd mi fun i => ixM (xs a) i) :=
  ⟨pe_ix ix_list h1.pe h2.pe hs, go_op2 h1.go (eo_t h2).go (fun _ _ => stl_ixM _ _) fun a i s T t ts x y σ H Q A1 A2 at1 av q => by
    obtain ⟨v, B, e1, k1⟩ := rddM (j := 0) at1 av rfl (hx a s)
    obtain ⟨w, B', e2, ew, _⟩ := rddM (j := 1) at1 av rfl .t
    cases e1; cases e2
    obtain ⟨p, ev, hs⟩ := scr_seq k1
    obtain ⟨z, ez, _, q⟩ := wp_ixM q
    exact ⟨p, _, i, .int z, ev, ew, hs, atI_map ez, q _ H (at1.fin av ⟨rfl, rfl⟩)⟩⟩
theorem ex_lenScr (h : EO X F e te G G' arg m) (hx : ∀ a s, Rdd (G' s) (arg a) rScr (xs a)) (hg : Gl X "len") (hm : X.mg "len" = none) (hs : PySem.W.isStarred e = false := by rfl) :
    EX X F (.Call (.Name "len" p0) [e] [] pos) (tCB (fun xs H Q => ∃ p ys, xs = [.ref p] ∧ (SqL X.K H p ys ∨ SqT X.K H p ys) ∧ Q (.int ys.length) H) (tCons te tNil)) G G' rInt (bnd m fun a => ret ((xs a).length : Int)) :=
  ex_callB1 call_len_seq hg hm PySem.boot_len h (go_call1 h.go (fun _ => stl_ret _) fun a s T t ts v σ H Q A1 A2 at1 av q => by
    obtain ⟨v', B, e1, k1⟩ := rddM (j := 0) at1 av rfl (hx a s)
    cases e1
    obtain ⟨p, ev, hs⟩ := scr_seq k1
    exact ⟨p, _, by rw [ev], .inl hs, q.2 _ H (at1.fin av ⟨by rw [List.length_map], rfl⟩)⟩) hs
end
/-- the law's promise from what the head gives -/
theorem law_sp {K : PySem.W.Frag} {H : Hp} {a : Addr} {ns : List Int} {f : List Int → SM Unit Bool} (hO : Only H) (h : SqL K H a (ns.map V.int)) (hf : ∃ s, f ns () = .ok true s) : SpP K 1 (fun u : List Int => [.is rScr u]) rBool f [.ref a] H (fun v _ => v = .bl true) fun _ _ _ => False := by
  refine ⟨ns, (), [], [], rfl, ⟨[], [] ++ [], .nil, .cons (B := []) ⟨_, rfl, scr_of hO h _⟩ .nil, good_c fun _ z => nomatch z⟩, ?_⟩
  obtain ⟨s, e⟩ := hf
  rw [e]
  intro v H' hx
  obtain ⟨A1, A2, hx⟩ := hx
  obtain ⟨B, A', eA, ⟨v', ev, hv, _⟩, _⟩ := AtS.cons_inv hx.tmp
  cases ev
  exact hv
end Td

set_option Elab.async false
set_option linter.all false
set_option maxRecDepth 100000
set_option maxHeartbeats 4000000
namespace L2
open PySem PySem.Spec PyProof.Rows HT
namespace HT
section
variable {prog : Program} {w : World} {A : Around} {E : Value → Shared → Prop} {s : Shared}
theorem places_back (n : Nat) : Builtin.Slice.slicePlaces ((n : Int) - 1) (-1) (-1) = n := by
  unfold Builtin.Slice.slicePlaces
  have h1 : ¬ ((-1 : Int) > 0) := by decide
  simp only [h1, if_false]
  split
  · rw [show (-(-1) : Int) = 1 by decide, Int.ediv_one]; omega
  · omega
theorem sliceApplied_back {sl : Addr} {vs : Value} {n : Nat} {Q : Int × Int × Nat → Shared → Prop} (hs : s.heap.IsSliceOf sl .none .none vs) (pv : IsPart vs (some (-1)))
    (h : Q ((n : Int) - 1, -1, n) s) : wpAny (model prog w) A (Builtin.Slice.sliceApplied (.ref sl) (pure (n : Int))) Q E s := by
  obtain ⟨os, hos, hcs, hds⟩ := id hs
  unfold Builtin.Slice.sliceApplied Builtin.Slice.sliceFields
  refine wpAny_bind (wpAny_bind (wpAny_field hos hds (x := .none) rfl (wpAny_bind (wpAny_field hos hds (x := .none) rfl (wpAny_bind (wpAny_field hos hds (x := vs) rfl (wpAny_pure ?_)))))))
  refine wpAny_bind (slicePart_ pv ?_)
  show wpAny _ _ (if ((-1 : Int) == 0) = true then _ else _) _ _ s
  rw [if_neg (by decide)]
  refine wpAny_bind (slicePart_ .none (wpAny_bind (slicePart_ .none (wpAny_bind (wpAny_pure ?_)))))
  show wpAny _ _ (pure ((n : Int) - 1, (-1 : Int), Builtin.Slice.slicePlaces ((n : Int) - 1) (-1) (-1))) _ _ s
  rw [places_back]
  exact wpAny_pure h
theorem pick_back (xs : Array Value) : ((List.range xs.size).filterMap fun (m : Nat) => xs[(((xs.size : Int) - 1) + (m : Int) * (-1)).toNat]?).toArray = xs.toList.reverse.toArray := by
  congr 1
  rw [← List.map_id (List.filterMap _ _)]
  have key : ∀ (l : List Value) (f : Nat → Option Value), (∀ m, m < l.length → f m = l[m]?) → (List.range l.length).filterMap f = l := by
    intro l
    induction l with
    | nil => intro f _; rfl
    | cons a l ih =>
      intro f hf
      rw [List.length_cons, List.range_succ_eq_map, List.filterMap_cons_some (b := a) (by rw [hf 0 (by simp)]; rfl), List.filterMap_map, ih _ fun m hm => by
        show f (m + 1) = _
        rw [hf (m + 1) (by simpa using hm)]; rfl]
  rw [List.map_id]
  have := key xs.toList.reverse (fun (m : Nat) => xs[(((xs.size : Int) - 1) + (m : Int) * (-1)).toNat]?) (fun m hm => by
    rw [List.length_reverse, Array.length_toList] at hm
    rw [List.getElem?_reverse (by rw [Array.length_toList]; exact hm), Array.length_toList, Array.getElem?_toList]
    congr 1
    omega)
  rw [List.length_reverse, Array.length_toList] at this
  exact this
theorem getItem_tuple_back {t sl : Addr} {items : Array Value} {vs : Value} {Q : Value → Shared → Prop} (ht : IsTup s.heap t items) (hs : s.heap.IsSliceOf sl .none .none vs) (pv : IsPart vs (some (-1)))
    (h : Q (.ref s.heap.objs.size) { s with heap := s.heap.push { cls := .type "tuple", data := .seq items.toList.reverse.toArray } })
    (hsz : items.size ≤ sizeLine) : wpAny (model prog w) A (getItem (.ref t) (.ref sl)) Q E s := by
  have htake : sizeOk (.seq items.toList.reverse.toArray) := by
    show items.toList.reverse.toArray.size ≤ sizeLine
    rw [List.size_toArray, List.length_reverse, Array.length_toList]
    exact hsz
  obtain ⟨os, hos, hcs, hds⟩ := id hs
  have hTs : s.TypeIs (.ref sl) "slice" := ⟨os, hos, hcs⟩
  unfold getItem
  try with_reducible refine wpAny_holding ?_
  first | refine wpAny_bind (wpAny_pure ?_) | skip
  refine wpAny_bind (wpAny_sequenceKey ht.typeIs (by decide) ?_)
  refine wpAny_bind (wpAny_callSpecial?_slot (name := Str.ofString "__getitem__") ht.typeIs PyProof.Rows.slot_tuple_getitem
    (wpAny_call_entry PyProof.Rows.slot_tuple_getitem ht.typeIs entry_tuple_getitem ?_ (args_tuple_getitem _ _)))
  show wpAny _ _ (Builtin.Tuple.tupleItemsOf (.ref t) >>= _) _ _ s
  refine wpAny_bind (tupleItemsOf_ ht ?_)
  refine wpAny_bind (wpAny_typeOf hTs ?_)
  rw [if_pos (by decide)]
  refine wpAny_bind (sliceApplied_back hs pv ?_)
  have hno : ¬ (((((items.size : Int) - 1)) == 0 && (-1 : Int) == 1 && items.size == items.size) = true) := by
    intro q
    rw [Bool.and_eq_true, Bool.and_eq_true] at q
    exact absurd q.1.2 (by decide)
  show wpAny _ _ (if ((((items.size : Int) - 1)) == 0 && (-1 : Int) == 1 && items.size == items.size) = true then _ else _) _ _ s
  rw [if_neg hno, pick_back]
  first
    | exact wpAny_bind (m := Builtin.Tuple.tupleExact _) (wpAny_newObj_type (wpAny_pure ⟨_, rfl, wpAny_pure h⟩) htake)
    | exact wpAny_bind (m := Builtin.Tuple.tupleExact _) (wpAny_newObj_type (wpAny_bind (wpAny_pure (wpAny_pure ⟨_, rfl, wpAny_pure h⟩))) htake)
    | exact wpAny_bind (wpAny_bind (m := Builtin.Tuple.tupleExact _) (wpAny_newObj_type (wpAny_pure (wpAny_pure ⟨_, rfl, wpAny_pure h⟩)) htake))
    | exact wpAny_bind (wpAny_bind (m := Builtin.Tuple.tupleExact _) (wpAny_newObj_type (wpAny_pure ⟨_, rfl, wpAny_pure h⟩) htake))
end
end HT
section
variable {X : Cx}
def tRevT (K : PySem.W.Frag) (te : TE) : TE := fun σ H Q => te σ H fun x H1 => ∃ a xs, x = .ref a ∧ SqT K H1 a xs ∧ ∀ p, H1 p = none → Q (.ref p) (upd H1 p (.tup xs.reverse))
theorem pe_revT {e : Expr} {te : TE} {k : Nat} {p1 p2 p3 pos : Pos} (he : PE X e te) : PE X (.Subscript e (.Slice none none (some (.UnaryOp .USub (.Constant (.int 1) k p1) p2)) p3) pos) (tRevT X.K te) := by
  refine ⟨fun pins s σ H Q I h => ?_⟩
  refine Subscript_ (thn (he.run pins s σ H _ I h) fun v s1 ⟨x, H1, I1, r1, q1⟩ => ?_)
  obtain ⟨a, xs, ex, hx, q⟩ := q1
  subst ex
  cases r1
  have hst : PO X (some (.UnaryOp .USub (.Constant (.int 1) k p1) p2)) (tPart (tUn (rU fun i => .int (-i)) (tC (.int 1)))) := po_some (pe_un un_neg pe_int)
  refine wpAny_Slice (thn (po_none.run pins s1 σ H1 (fun o H2 => o = none ∧ H2 = H1) I1 ⟨rfl, rfl⟩) fun vl s2 ⟨l, H2, I2, pl, el, e2⟩ => ?_)
  subst el e2
  refine thn (po_none.run pins s2 σ H2 (fun o H3 => o = none ∧ H3 = H2) I2 ⟨rfl, rfl⟩) fun vu s3 ⟨u, H3, I3, pu, eu, e3⟩ => ?_
  subst eu e3
  refine thn (hst.run pins s3 σ H3 (fun o H4 => o = some (-1) ∧ H4 = H3) I3 ⟨1, rfl, -1, rfl, rfl, rfl⟩) fun vs s4 ⟨o, H4, I4, ps, eo, e4⟩ => ?_
  subst eo e4
  have I5 : Inv X pins σ H4 { s4 with heap := s4.heap.push { cls := .type "slice", data := .fields #[vl, vu, vs] } } := I4.kept (t' := s4.toks) fun b ob q => Heap.get?_push_of_some _ q
  obtain ⟨its, r, ht, hz⟩ := I5.tuple hx
  have hlen := r.length
  cases pl
  cases pu
  show wpAny (model X.prog X.w) X.A (subscriptTail e (.Slice none none (some (.UnaryOp .USub (.Constant (.int 1) k p1) p2)) p3) (.ref a) (.ref s4.heap.objs.size)) (EP X pins σ Q) X.xe { s4 with heap := s4.heap.push { cls := .type "slice", data := .fields #[.none, .none, vs] } }
  refine tail_any (ops := [.ref a, .ref s4.heap.objs.size]) ht.typeIs (PyProof.Rows.slot_tuple_getitem.lookup) ?_ (by with_unfolding_all rfl)
  refine HT.getItem_tuple_back ht (Heap.IsSliceOf.new _ .none .none vs) ps ?_ (by rw [List.size_toArray]; omega)
  refine ⟨.ref _, _, I5.laid (t' := s4.toks) (o := .tup xs.reverse) (fun b ob q => Heap.get?_push_of_some _ q) (Nat.le_refl _) ?_, rfl, q _ (I5.hok.fresh (Nat.le_refl _))⟩
  exact ⟨by rw [List.length_reverse]; exact hz, _, r.reverse, IsTup.new _ _⟩
end
end L2
namespace Td
open PySem PySem.Spec PyProof.Rows L2
theorem all3_rev {T : Type} {R : V → T → List Addr → Prop} : ∀ {vs : List V} {as : List T}, All3 R vs as [] → All3 R vs.reverse as.reverse [] := by
  intro vs as h
  generalize eA : ([] : List Addr) = A at h
  induction h with
  | nil => exact .nil
  | @cons v a B vs as A h t ih =>
    obtain ⟨e1, e2⟩ := List.append_eq_nil_iff.mp eA.symm
    subst e1 e2
    rw [List.reverse_cons, List.reverse_cons]
    exact (ih rfl).append (.cons (B := []) h .nil)
section
variable {X : Cx} {S : Type} {F : FC X.K S} {U W Z N L R : Type} {r r1 : Rp U} {r2 : Rp W} {r3 : Rp Z} {a b e : Expr} {es : List Expr} {ta tb te : TE} {tr : TA} {G G1 G2 G3 G' : S → List Slot} {m1 : SM S U} {m2 : SM S W} {ml : SM S (List Z)} {pos p0 p2 : Pos} {argU : U → Arg} {argW : W → Arg}
/-- xs[::-1] -/
theorem ex_revL {xs : U → List Z} {k : Nat} {q1 q2 q3 : Pos} (h1 : EO X F a ta G G1 argU m1) (c : r3.Cp) (hx : ∀ a s, Rdd (G1 s) (argU a) (rList r3) (xs a)) :
    EX X F (.Subscript a (.Slice none none (some (.UnaryOp .USub (.Constant (.int 1) k q1) q2)) q3) pos) (tRevL X.K ta) G G1 (rList r3) (bnd m1 fun a => ret (xs a).reverse) :=
  ⟨pe_revL h1.pe, fun T t σ s H Q h0 q => h1.go T t σ s H _ h0 (wp_mono (wp_bnd q) (fun a s1 q1 ts x H1 at1 av => by
    obtain ⟨A1, A2, at1⟩ := at1
    obtain ⟨v, B, e1, p, vs, A, ev, hp, hA, eB⟩ := rddM (j := 0) at1 av rfl (hx a s1)
    cases e1
    have eA := cp_all c hA
    subst eA
    exact ⟨p, vs, ev, SqL.of hp, fun l hl => q1 _ _ (at1.newL av (all3_rev hA) hl)⟩) fun _ _ z => z)⟩
/-- t[::-1] of a tuple -/
theorem ex_revT {xs : U → List Z} {k : Nat} {q1 q2 q3 : Pos} (h1 : EO X F a ta G G1 argU m1) (c : r3.Cp) (hx : ∀ a s, Rdd (G1 s) (argU a) (rTupL r3) (xs a)) :
    EX X F (.Subscript a (.Slice none none (some (.UnaryOp .USub (.Constant (.int 1) k q1) q2)) q3) pos) (tRevT X.K ta) G G1 (rTupL r3) (bnd m1 fun a => ret (xs a).reverse) :=
  ⟨pe_revT h1.pe, fun T t σ s H Q h0 q => h1.go T t σ s H _ h0 (wp_mono (wp_bnd q) (fun a s1 q1 ts x H1 at1 av => by
    obtain ⟨A1, A2, at1⟩ := at1
    obtain ⟨v, B, e1, p, vs, ev, hp, hA⟩ := rddM (j := 0) at1 av rfl (hx a s1)
    cases e1
    have eA := cp_all c hA
    subst eA
    exact ⟨p, vs, ev, hp, fun l hl => q1 _ _ (at1.newT av (all3_rev hA) hl)⟩) fun _ _ z => z)⟩
/-- t[lo:hi] of a tuple -/
theorem ex_sliceT {lo hi : Option Expr} {tl th : TO} {mlo mhi : SM S (Option Int)} {xs : U → List Z} (h1 : EO X F a ta G G1 argU m1) (hl : EPa X F lo tl G1 G2 mlo) (hh : EPa X F hi th G2 G3 mhi) (c : r3.Cp) (hx : ∀ a s, Rdd (G3 s) (argU a) (rTupL r3) (xs a)) :
    EX X F (.Subscript a (.Slice lo hi none p2) pos) (tSl (rSlA X.K) ta tl th) G G3 (rTupL r3) (bnd m1 fun a => bnd mlo fun l => bnd mhi fun u => ret (cutL (xs a) l u)) :=
  ⟨pe_slice sl_tupA h1.pe hl.po hh.po, fun T t σ s H Q h0 q => by
    refine h1.go T t σ s H _ h0 (wp_mono (wp_bnd q) (fun a s1 q1 ts x H1 at1 av => ?_) fun _ _ z => z)
    refine hl.go _ _ σ s1 H1 _ at1 (wp_mono (wp_bnd q1) (fun lo' s2 q2 H2 at2 => ?_) fun _ _ z => z)
    refine hh.go _ _ σ s2 H2 _ at2 (wp_mono (wp_bnd q2) (fun u s3 q3 H3 at3 => ?_) fun _ _ z => z)
    obtain ⟨A1, A2, at3⟩ := at3
    obtain ⟨v, B, e1, p, vs, ev, hp, hA⟩ := rddM (j := 0) at3 av rfl (hx a s3)
    cases e1
    have eA := cp_all c hA
    subst eA
    refine ⟨p, vs, ev, hp, fun hw => ?_, fun _ l hl => ?_⟩
    · have ec : cutL (xs a) lo' u = xs a := by
        unfold cutL
        rw [← hA.length, hw.1, hw.2, List.drop_zero, Nat.sub_zero, hA.length, List.take_length]
      exact q3 _ H3 (at3.fin av ⟨p, vs, rfl, hp, by rw [ec]; exact hA⟩)
    · obtain ⟨A', hA', sub⟩ := all3_cut hA lo' u
      have eA' := cp_all c hA'
      subst eA'
      exact q3 _ _ (at3.newT av hA' hl)⟩
/-- *t in a list's display, t a tuple -/
theorem el_starT {p : Pos} {xs : W → List Z} (h1 : EO X F e te G G1 argW m2) (c : r3.Cp) (hx : ∀ a s, Rdd (G1 s) (argW a) (rTupL r3) (xs a)) (h2 : EL X F es tr G1 G2 r3 ml) (hs : starEach (.Starred e p :: es) X.env = (true, eval e X.env) :: starEach es X.env := by rfl) :
    EL X F (.Starred e p :: es) (StX.tStar X.K te tr) G G2 r3 (bnd m2 fun a => bnd ml fun l => ret (xs a ++ l)) :=
  ⟨StX.pa_star h1.pe h2.pa hs, fun T t σ s H Q h q => by
    refine h1.go T t σ s H _ h (wp_mono (wp_bnd q) (fun a s1 q1 ts v H1 at1 av => ?_) fun _ _ z => z)
    obtain ⟨A1, A2, at1⟩ := at1
    obtain ⟨v', B, e1, p, vs, ev, hp, hA⟩ := rddM (j := 0) at1 av rfl (hx a s1)
    cases e1
    have eA := cp_all c hA
    subst eA
    refine ⟨p, vs, ev, .inl hp, ?_⟩
    have at2 := at1.pushAll hA rfl
    have at3 : At F (pend r3 (xs a) ++ T) (vs.reverse ++ t) (G1 s1) σ H1 := At.dropM (by rw [List.length_reverse, pend_len, hA.length]) (by simp [(argV_len av).2]) ⟨A1, A2, at2⟩
    refine h2.go _ _ σ s1 H1 _ at3 (wp_mono (wp_bnd q1) (fun l s2 q2 ws H2 at4 hl => ?_) fun _ _ z => z)
    exact q2 (vs ++ ws) H2 (by simpa [pend] using at4) (by simp [hl, hA.length])⟩
end
end Td

set_option Elab.async false
set_option linter.all false
set_option maxRecDepth 100000
set_option maxHeartbeats 4000000
namespace L2
open PySem PySem.Spec PyProof.Rows
/-- the values at the places is -/
def permL {α : Type} (is : List Nat) (xs : List α) : List α := is.filterMap (xs[·]?)
theorem permL_cons {α : Type} (i : Nat) (is : List Nat) (xs : List α) : permL (i :: is) xs = (match xs[i]? with | some x => x :: permL is xs | none => permL is xs) := by
  unfold permL
  rw [List.filterMap_cons]
  cases xs[i]? <;> rfl
theorem vals_get : ∀ {vs : List V} {us : List Value}, Vals vs us → ∀ i : Nat, (∃ v u, vs[i]? = some v ∧ us[i]? = some u ∧ RelV v u) ∨ (vs[i]? = none ∧ us[i]? = none)
  | _, _, .nil, i => .inr ⟨rfl, rfl⟩
  | _, _, .cons r t, 0 => .inl ⟨_, _, rfl, rfl, r⟩
  | _, _, .cons r t, i + 1 => by simpa using vals_get t i
theorem vals_perm {vs : List V} {us : List Value} (r : Vals vs us) : ∀ is : List Nat, Vals (permL is vs) (permL is us)
  | [] => .nil
  | i :: is => by
    rw [permL_cons, permL_cons]
    rcases vals_get r i with ⟨v, u, e1, e2, rv⟩ | ⟨e1, e2⟩
    · rw [e1, e2]; exact .cons rv (vals_perm r is)
    · rw [e1, e2]; exact vals_perm r is
section
variable {K : PySem.W.Frag} {x qual : Str} {params : Arguments} {body : List Stmt} {scope : Scope} {kws : List (Str × V)} {f : Addr} {fd : FuncData} {ps : List Str}
/-- no defaults: n values, then keywords ks, bound at the places is -/
theorem FunD.kbP (F : FunD K x qual params body scope [] kws f fd) (n : Nat) (ks : List Str) (is : List Nat)
    (h : ∀ (kV doc pm : Value) (an : Option Addr) (cdv ct : Value) (us ws : List Value), us.length = n → ws.length = ks.length → bindArgs (PySem.W.fnOf x qual params body scope .none kV doc pm an cdv ct) ⟨us, ks.zip ws⟩ = pure (ps.zip (permL is (us ++ ws)))) :
    KBn K fd ps n ks (fun us ws => permL is (us ++ ws)) (fun vs zs => permL is (vs ++ zs)) := by
  obtain ⟨oc, od, dV, kV, doc, pm, an, cdv, ct, osl, rfl, lk, hcd, hD, hK⟩ := F.ex
  rcases hD with ⟨_, rfl⟩ | ⟨e, _⟩
  · exact ⟨fun s us ws _ l1 l2 => .of_eq (h kV doc pm an cdv ct us ws l1 l2), fun r1 r2 => vals_perm (r1.append r2) is⟩
  · exact absurd rfl e
end
section
variable {X : Cx} {CX : CXT} {k n : Nat} {f : Addr} {fd : FuncData} {ps ks : List Str} {sp : Sp} {E : XK} {x : Str} {p pos : Pos} {kws : List Keyword} {tk : TA} {g : List Value → List Value → List Value} {gV : List V → List V → List V}
/-- f(k = v, ..) -/
theorem pe_callN0 (F : FnOk X.prog X.w X.K X.mg X.base CX k f fd ps sp) (hr : Room k X.A) (hg : Gl X x) (hm : X.mg x = some (.ref f)) (hk : PySem.W.keepIn X.K (.ref f) = true) (hb : KBn X.K fd ps 0 ks g gV) (hx : Passes CX X E)
    (hkw : PK X kws tk) (hall : (backToKw pos (keywordEach kws X.env)).all (·.1.isSome) = true := by rfl) (hks : (backToKw pos (keywordEach kws X.env)).filterMap (·.1) = ks := by rfl)
    (hdb : (x == ("__debug__" : Str)) = false := by decide)
    (hpl : ((backTo pos (starEach [] X.env)).any (·.1) || (backToKw pos (keywordEach kws X.env)).any (·.1.isNone)) = false := by rfl) :
    PE X (.Call (.Name x p) [] kws pos) (tCallN 0 ks.length sp gV E tNil tk) := by
  refine ⟨fun pins s σ H Q I h => ?_⟩
  refine wpAny_Call_Name_kw (ld_glob I hg hm ?_ hdb)
  refine PySem.W.callWith_KW0 (h₀ := X.base) I.ok.mod.kin hk hall ?_ hpl
  refine thn (hkw.run pos pins s σ H _ I h) fun ws s2 ⟨zs, H2, I2, rz, l1, l2, q2⟩ => ⟨I2.kIn, ?_⟩
  rw [hks]
  exact run_fnN (us := []) (vs := []) F hr hb hx I2 .nil rz rfl l2 q2
end
end L2
namespace Td
open PySem PySem.Spec PyProof.Rows L2
theorem atS_get {K : PySem.W.Frag} {M : List Addr} {H : Hp} : ∀ {G : List Slot} {xs : List (Option V)} {A : List Addr}, AtS K M H G xs A → A = [] → ∀ i : Nat, (∃ g x, G[i]? = some g ∧ xs[i]? = some x ∧ g.ok K M H x []) ∨ (G[i]? = none ∧ xs[i]? = none)
  | _, _, _, .nil, _, i => .inr ⟨rfl, rfl⟩
  | _, _, _, .cons h t, eA, 0 => by
    obtain ⟨e1, e2⟩ := List.append_eq_nil_iff.mp eA
    subst e1
    exact .inl ⟨_, _, rfl, rfl, h⟩
  | _, _, _, .cons h t, eA, i + 1 => by
    obtain ⟨e1, e2⟩ := List.append_eq_nil_iff.mp eA
    simpa using atS_get t e2 i
theorem atS_perm {K : PySem.W.Frag} {M : List Addr} {H : Hp} {G : List Slot} {xs : List (Option V)} (h : AtS K M H G xs []) : ∀ is : List Nat, AtS K M H (is.filterMap (G[·]?)) (permL is xs) []
  | [] => .nil
  | i :: is => by
    rw [permL_cons, List.filterMap_cons]
    rcases atS_get h rfl i with ⟨g, x, e1, e2, k⟩ | ⟨e1, e2⟩
    · rw [e1, e2]; exact .cons (B := []) k (atS_perm h is)
    · rw [e1, e2]; exact atS_perm h is
theorem permL_map {α β : Type} (f : α → β) (xs : List α) : ∀ is : List Nat, permL is (xs.map f) = (permL is xs).map f
  | [] => rfl
  | i :: is => by
    rw [permL_cons, permL_cons, List.getElem?_map, permL_map f xs is]
    cases xs[i]? <;> rfl
/-- keywords' values -/
structure EK (X : Cx) {S : Type} (F : FC X.K S) {U : Type} (kws : List Keyword) (ta : TA) (G G' : S → List Slot) (L : U → List Arg) (m : SM S U) : Prop where
  pk : PK X kws ta
  go : GA F ta G G' L m
section
variable {X : Cx} {S : Type} {F : FC X.K S} {U W : Type} {e : Expr} {kws : List Keyword} {te : TE} {tr : TA} {G G1 G2 : S → List Slot} {m1 : SM S U} {m2 : SM S W} {arg : U → Arg} {L : W → List Arg} {nm : Option Str} {kp : Pos}
theorem ek_nil : EK X F [] tNil G G (fun _ : Unit => []) (ret ()) := ⟨pk_nil, ga_nil⟩
theorem ek_cons (h1 : EO X F e te G G1 arg m1) (h2 : EK X F kws tr G1 G2 L m2) :
    EK X F (⟨nm, e, kp⟩ :: kws) (tCons te tr) G G2 (fun p : U × W => arg p.1 :: L p.2) (bnd m1 fun a => bnd m2 fun b => ret (a, b)) :=
  ⟨pk_cons h1.pe h2.pk, fun T t σ s H Q h q => by
    refine h1.go T t σ s H _ h (wp_mono (wp_bnd q) (fun a s1 q1 ts v H1 at1 av1 => ?_) fun _ _ z => z)
    refine h2.go _ _ σ s1 H1 _ at1 (wp_mono (wp_bnd q1) (fun b s2 q2 us ws H2 at2 av2 => ?_) fun _ _ z => z)
    refine q2 (ts ++ us) (v :: ws) H2 ?_ (argV_cons av1 av2)
    rw [tmps_cons]
    simpa using at2⟩
end
section
variable {K : PySem.W.Frag} {S : Type} {F : FC K S} {σ : L2.St}
theorem argV_app {σ : L2.St} : ∀ {L1 L2 : List Arg} {ts us vs ws : List V}, ArgV σ L1 ts vs → ArgV σ L2 us ws → ArgV σ (L1 ++ L2) (ts ++ us) (vs ++ ws)
  | _, _, _, _, _, _, .nil, h => h
  | _, _, _, _, _, _, .t h, h2 => .t (argV_app h h2)
  | _, _, _, _, _, _, .v e h, h2 => .v e (argV_app h h2)
  | _, _, _, _, _, _, .u h, h2 => .u (argV_app h h2)
theorem tmps_app : ∀ L1 L2 : List Arg, tmps (L1 ++ L2) = tmps L1 ++ tmps L2
  | [], _ => rfl
  | .t g :: L1, L2 => by show g :: tmps (L1 ++ L2) = _; rw [tmps_app]; rfl
  | .v i :: L1, L2 => tmps_app L1 L2
  | .u i :: L1, L2 => tmps_app L1 L2
/-- positional values, then keywords' values -/
theorem go_callK {U W A B : Type} {n m0 nn : Nat} {is : List Nat} {Ps Pe : U → List Slot} {r : Rp W} {f : U → SM Unit W} {fa : A → B → SM Unit W} {E : XK} {ta tk : TA} {G G1 G' : S → List Slot} {LA : A → List Arg} {LB : B → List Arg} {mA : SM S A} {mB : SM S B} (u : A → B → U) (hf : ∀ a b, fa a b = f (u a b)) (h : GA F ta G G1 LA mA) (hk : GA F tk G1 G' LB mB)
    (hn : ∀ a, (LA a).length = n) (hm : ∀ b, (LB b).length = m0) (hl : ∀ u, (Ps u).length = nn) (hp : ∀ u, (is.filterMap ((Pe u)[·]?)) = Ps u)
    (he : (r.Clo ∧ ∀ a b s, Ent (G' s) (LA a ++ LB b) (Pe (u a b))) ∨ ∀ a b s, EntS (G' s) (LA a ++ LB b) (Pe (u a b))) (hW : ∀ c d σ H, F.W c d σ H → E c d H) (hw : ∀ s, Weak (G' s) (F.io s)) :
    GE F (tCallN n m0 (SpP K nn Ps r f) (fun vs zs => permL is (vs ++ zs)) E ta tk) G G' r (bnd mA fun a => bnd mB fun b => lft (fa a b)) := by
  intro T t σ s H Q h0 q
  have ef : fa = fun a b => f (u a b) := by funext a b; exact hf a b
  subst ef
  refine h T t σ s H _ h0 (wp_mono (wp_bnd q) (fun a s1 q1 ts vs H1 at1 av => ?_) fun _ _ z => z)
  refine hk _ _ σ s1 H1 _ at1 (wp_mono (wp_bnd q1) (fun b s2 q2 us zs H2 at2 av2 => ?_) fun _ _ z => z)
  refine ⟨by rw [(argV_len av).1, hn], by rw [(argV_len av2).1, hm], ?_⟩
  have q3 := wp_lft q2
  have av3 := argV_app av av2
  have at3' : At F ((tmps (LA a ++ LB b)).reverse ++ T) ((ts ++ us).reverse ++ t) (G' s2) σ H2 := by
    rw [tmps_app]
    simpa using at2
  obtain ⟨A1, A2, at3⟩ := at3'
  have run : ∀ (M0 : List Addr), (∀ p, p ∈ M0 → ∃ o, H2 p = some o ∧ isTup o = false) → AtS K M0 H2 (Pe (u a b)) ((vs ++ zs).map some) [] → (r.Clo ∨ ∀ p, p ∈ A1 ++ A2 ++ F.M0 → p ∈ M0) → SpP K nn Ps r f (permL is (vs ++ zs)) H2 Q E := by
    intro M0 hM0 hat hor
    have hat1 := atS_perm hat is
    rw [hp, permL_map] at hat1
    have lv : (permL is (vs ++ zs)).length = nn := by
      have := hat1.length
      rw [List.length_map, hl] at this
      exact this
    have hat2 : AtS K ([] ++ [] ++ (FC.c (K := K) (S := Unit) H2 [] M0).M0) H2 (Ps (u a b)) ((permL is (vs ++ zs)).map some) [] := hat1
    refine ⟨u a b, (), [], M0, lv, ⟨[], [], .nil, hat2, good_c hM0⟩, wp_mono q3 (fun b _ q4 v H' hx => ?_) (fun e _ q4 d v H' hx hd => ?_)⟩
    · have z := At.back at3 hx hor
      exact q4 v H' (At.dropU (by rw [List.length_reverse, List.length_reverse, (argV_len av3).2]) z)
    · have z := At.back at3 hx (.inl clo_pay)
      have z2 := (At.dropU (by rw [List.length_reverse, List.length_reverse, (argV_len av3).2]) z).weak (hw s2)
      refine hW _ _ σ _ (q4 d v H' ?_ hd)
      exact At.dropM (T0 := [_]) (t0 := [v]) (T := []) (t := []) rfl (T1 := T) (t1 := t) (by obtain ⟨B1, B2, hz⟩ := h0; have := hz.tmp.length; simpa using this) (by simpa using z2)
  rcases he with ⟨c, he⟩ | he
  · exact run [] (fun _ z => by cases z) (ent_at at3 av3 (he a b s2)) (.inl c)
  · exact run (A1 ++ A2 ++ F.M0) at3.m_trk (entS_at at3 av3 (he a b s2)) (.inr fun _ z => z)
end
section
variable {X : Cx} {S : Type} {F : FC X.K S} {U W A B : Type} {n nn k : Nat} {is : List Nat} {Ps Pe : U → List Slot} {r : Rp W} {f : U → SM Unit W} {E : XK} {ta tk : TA} {G G1 G' : S → List Slot} {LA : A → List Arg} {LB : B → List Arg} {mA : SM S A} {mB : SM S B} {CX : CXT} {fA : Addr} {fd : FuncData} {ps ks : List Str} {x : Str} {p pos : Pos} {e : Expr} {es : List Expr} {kws : List Keyword} {g : List Value → List Value → List Value}
/-- f(e, .., k = v, ..) -/
theorem ex_callK {fm : A → B → SM Unit W} (u : A → B → U) (FO : FnOk X.prog X.w X.K X.mg X.base CX k fA fd ps (SpP X.K nn Ps r f)) (hr : Room k X.A) (hg : Gl X x) (hm : X.mg x = some (.ref fA)) (hk : PySem.W.keepIn X.K (.ref fA) = true) (hb : KBn X.K fd ps n ks g (fun vs zs => permL is (vs ++ zs))) (hx : Passes CX X E)
    (h : EA X F (e :: es) ta G G1 LA mA) (h2 : EK X F kws tk G1 G' LB mB) (hn : ∀ a, (LA a).length = n) (hn2 : ∀ b, (LB b).length = ks.length) (hl : ∀ u, (Ps u).length = nn) (hp : ∀ u, (is.filterMap ((Pe u)[·]?)) = Ps u)
    (he : (r.Clo ∧ ∀ a b s, Ent (G' s) (LA a ++ LB b) (Pe (u a b))) ∨ ∀ a b s, EntS (G' s) (LA a ++ LB b) (Pe (u a b))) (hW : ∀ c d σ H, F.W c d σ H → E c d H) (hw : ∀ s, Weak (G' s) (F.io s))
    (hf : ∀ a b, fm a b = f (u a b) := by intros; rfl)
    (hall : (backToKw pos (keywordEach kws X.env)).all (·.1.isSome) = true := by rfl) (hks : (backToKw pos (keywordEach kws X.env)).filterMap (·.1) = ks := by rfl)
    (hst : PySem.W.isStarred e = false := by rfl) (hpl : ((backTo pos (starEach (e :: es) X.env)).any (·.1) || (backToKw pos (keywordEach kws X.env)).any (·.1.isNone)) = false := by rfl) (hdb : (x == ("__debug__" : Str)) = false := by decide) :
    EX X F (.Call (.Name x p) (e :: es) kws pos) (tCallN n ks.length (SpP X.K nn Ps r f) (fun vs zs => permL is (vs ++ zs)) E ta tk) G G' r (bnd mA fun a => bnd mB fun b => lft (fm a b)) :=
  ⟨pe_callN FO hr hg hm hk hb hx h.pa h2.pk hall hks hdb (star1 hst) hpl, go_callK u hf h.go h2.go hn hn2 hl hp he hW hw⟩
/-- f(k = v, ..) -/
theorem ex_callK0 {fm : B → SM Unit W} (u : B → U) (FO : FnOk X.prog X.w X.K X.mg X.base CX k fA fd ps (SpP X.K nn Ps r f)) (hr : Room k X.A) (hg : Gl X x) (hm : X.mg x = some (.ref fA)) (hk : PySem.W.keepIn X.K (.ref fA) = true) (hb : KBn X.K fd ps 0 ks g (fun vs zs => permL is (vs ++ zs))) (hx : Passes CX X E)
    (h2 : EK X F kws tk G G' LB mB) (hn2 : ∀ b, (LB b).length = ks.length) (hl : ∀ u, (Ps u).length = nn) (hp : ∀ u, (is.filterMap ((Pe u)[·]?)) = Ps u)
    (he : (r.Clo ∧ ∀ b s, Ent (G' s) (LB b) (Pe (u b))) ∨ ∀ b s, EntS (G' s) (LB b) (Pe (u b))) (hW : ∀ c d σ H, F.W c d σ H → E c d H) (hw : ∀ s, Weak (G' s) (F.io s))
    (hf : ∀ b, fm b = f (u b) := by intros; rfl)
    (hall : (backToKw pos (keywordEach kws X.env)).all (·.1.isSome) = true := by rfl) (hks : (backToKw pos (keywordEach kws X.env)).filterMap (·.1) = ks := by rfl)
    (hpl : ((backTo pos (starEach [] X.env)).any (·.1) || (backToKw pos (keywordEach kws X.env)).any (·.1.isNone)) = false := by rfl) (hdb : (x == ("__debug__" : Str)) = false := by decide) :
    EX X F (.Call (.Name x p) [] kws pos) (tCallN 0 ks.length (SpP X.K nn Ps r f) (fun vs zs => permL is (vs ++ zs)) E tNil tk) G G' r (bnd mB fun b => lft (fm b)) :=
  ⟨pe_callN0 FO hr hg hm hk hb hx h2.pk hall hks hdb hpl, go_callK (U := U) (LA := fun _ : Unit => []) (mA := ret ()) (fun _ b => u b) (fun _ b => hf b) ga_nil h2.go (fun _ => rfl) hn2 hl hp (he.imp (fun z => ⟨z.1, fun _ b s => z.2 b s⟩) fun z _ b s => z b s) hW hw⟩
end
end Td

set_option Elab.async false
set_option linter.all false
set_option maxRecDepth 100000
set_option maxHeartbeats 4000000
namespace Td
open PySem PySem.Spec PyProof.Rows L2 SlX
section
variable {K : PySem.W.Frag} {S : Type} {F : FC K S} {T : List Slot} {t : List V} {G : S → List Slot} {σ : L2.St} {H : Hp}
/-- a promise run at values in hand; what is raised goes on -/
theorem run_spE {U W : Type} {n : Nat} {Ps : U → List Slot} {r : Rp W} {f : U → SM Unit W} {E : XK} {L : List Arg} {ts vs : List V} {u : U} {A1 A2 : List Addr} {Q : VK} {s : S} (at1 : AtP F ((tmps L).reverse ++ T) (ts.reverse ++ t) (G s) σ H A1 A2) (av : ArgV σ L ts vs) (hn : L.length = n) (ht : t.length = T.length)
    (he : (r.Clo ∧ Ent (G s) L (Ps u)) ∨ EntS (G s) L (Ps u)) (hW : ∀ c d σ H, F.W c d σ H → E c d H) (hw : Weak (G s) (F.io s))
    (q : (f u ()).wp (fun b _ => ∀ v H', At F (.is r b :: T) (v :: t) (G s) σ H' → Q v H') (fun e _ => XP F σ e s)) : SpP K n Ps r f vs H Q E := by
  have run : ∀ (M0 : List Addr), (∀ p, p ∈ M0 → ∃ o, H p = some o ∧ isTup o = false) → AtS K M0 H (Ps u) (vs.map some) [] → (r.Clo ∨ ∀ p, p ∈ A1 ++ A2 ++ F.M0 → p ∈ M0) → SpP K n Ps r f vs H Q E := by
    intro M0 hM0 hat hor
    have hat2 : AtS K ([] ++ [] ++ (FC.c (K := K) (S := Unit) H [] M0).M0) H (Ps u) (vs.map some) [] := hat
    refine ⟨u, (), [], M0, by rw [(argV_len av).1, hn], ⟨[], [], .nil, hat2, good_c hM0⟩, wp_mono q (fun b _ q3 v H' hx => ?_) (fun e _ q3 d v H' hx hd => ?_)⟩
    · have z := At.back at1 hx hor
      exact q3 v H' (At.dropU (by simp [(argV_len av).2]) z)
    · have z := At.back at1 hx (.inl clo_pay)
      have z2 := (At.dropU (by simp [(argV_len av).2]) z).weak hw
      refine hW _ _ σ _ (q3 d v H' ?_ hd)
      exact At.dropM (T0 := [_]) (t0 := [v]) (T := []) (t := []) rfl (T1 := T) (t1 := t) (by rw [ht]) (by simpa using z2)
  rcases he with ⟨c, he⟩ | he
  · exact run [] (fun _ z => by cases z) (ent_at at1 av he) (.inl c)
  · exact run (A1 ++ A2 ++ F.M0) at1.m_trk (entS_at at1 av he) (.inr fun _ z => z)
end
section
variable {X : Cx} {S : Type} {F : FC X.K S} {U W A : Type} {e a b : Expr} {es : List Expr} {te ta tb : TE} {tA : TA} {G G1 G' : S → List Slot} {m m1 : SM S U} {m2 : SM S A} {arg argA : U → Arg} {argB : A → Arg} {tx txA : U → TapeV} {txB : A → TapeV} {pos p0 apos : Pos} {r : Rp W} {k n : Nat} {g : Addr} {fd : FuncData} {nm : Str} {ps : List Str} {E : XK}
theorem at_len {T : List Slot} {t : List V} {Gs : List Slot} {σ : L2.St} {H : Hp} (h : At F T t Gs σ H) : t.length = T.length := by
  obtain ⟨B1, B2, hz⟩ := h
  have := hz.tmp.length
  simpa using this
/-- tape.m() -/
theorem ex_meth0 {fm : U → SM Unit W} {f : TapeV → SM Unit W} {pl : Sem Bool} (tc : TapeCls X.K) (mt : Meth X.K (tapeC X.K) nm g) (FO : FnOk X.prog X.w X.K X.mg X.base (L2.CX X.prog X.w) k g fd ps (SpP X.K 1 (fun u : TapeV => [.is (sh rTape) u]) r f)) (hb : Binds X.K fd ps []) (hr : Room k X.A) (hx : Passes (L2.CX X.prog X.w) X E)
    (h : EO X F e te G G' arg m) (hxt : ∀ a s, RdS (G' s) (arg a) rTape (tx a)) (hW : ∀ c d σ H, F.W c d σ H → E c d H) (hw : ∀ s, Weak (G' s) (F.io s)) (hf : ∀ a, fm a = f (tx a) := by intro _; rfl)
    (ht : eval (.Call (.Attribute e nm apos) [] [] pos) X.env = (do
      let ov ← eval e X.env
      standAt apos.atName
      let (f, first) ← holding [ov] (getMethod ov nm pl)
      callWith pos f first (backTo pos (starEach [] X.env)) (backToKw pos (keywordEach [] X.env))) := by rfl) :
    EX X F (.Call (.Attribute e nm apos) [] [] pos) (tMethSl (tapeC X.K) (SpP X.K 1 (fun u : TapeV => [.is (sh rTape) u]) r f) E te tNil) G G' r (bnd m fun a => lft (fm a)) :=
  ⟨pe_methSl0 h.pe tc.sc mt ((FnOk.raw FO hb .nil).imp fun vs H Q E q => by rw [List.append_nil]; exact q) hr hx ht, fun T t σ s H Q h0 q => by
    have hl := at_len h0
    refine h.go T t σ s H _ h0 (wp_mono (wp_bnd q) (fun a s1 q1 ts v H1 at1 av => ?_) fun _ _ z => z)
    obtain ⟨A1, A2, at1⟩ := at1
    obtain ⟨v', e1, _, B, k1, _⟩ := rdS (j := 0) at1 av rfl (hxt a s1)
    cases e1
    obtain ⟨p, dx, w, ev, hs, _⟩ := tape_slt k1
    rw [hf a] at q1
    refine ⟨p, dx, _, ev, hs, ?_⟩
    exact run_spE at1 av rfl hl (.inr (rtape_s (hxt a s1))) hW (hw s1) (wp_lft q1)⟩
/-- tape.m(i) -/
theorem ex_methI {mi : SM S Int} {fm : U → Int → SM Unit W} {f : TapeV × Int → SM Unit W} {pl : Sem Bool} (tc : TapeCls X.K) (mt : Meth X.K (tapeC X.K) nm g) (FO : FnOk X.prog X.w X.K X.mg X.base (L2.CX X.prog X.w) k g fd ps (SpP X.K 2 (fun u : TapeV × Int => [.is (sh rTape) u.1, .is rInt u.2]) r f)) (hb : Binds X.K fd ps []) (hr : Room k X.A) (hx : Passes (L2.CX X.prog X.w) X E)
    (h : EO X F e te G G1 arg m) (h2 : EX X F b tb G1 G' rInt mi) (hxt : ∀ a s, RdS (G' s) (arg a) rTape (tx a)) (hxt1 : ∀ a s, RdS (G1 s) (arg a) rTape (tx a)) (hW : ∀ c d σ H, F.W c d σ H → E c d H) (hw : ∀ s, Weak (G' s) (F.io s)) (hf : ∀ a i, fm a i = f (tx a, i) := by intros; rfl)
    (hst : PySem.W.isStarred b = false := by rfl) (hpl : (backTo pos (starEach [] X.env)).any (·.1) = false := by rfl)
    (ht : eval (.Call (.Attribute e nm apos) [b] [] pos) X.env = (do
      let ov ← eval e X.env
      standAt apos.atName
      let (f, first) ← holding [ov] (getMethod ov nm pl)
      callWith pos f first (backTo pos (starEach [b] X.env)) (backToKw pos (keywordEach [] X.env))) := by rfl) :
    EX X F (.Call (.Attribute e nm apos) [b] [] pos) (tMethSl (tapeC X.K) (SpP X.K 2 (fun u : TapeV × Int => [.is (sh rTape) u.1, .is rInt u.2]) r f) E te (tCons tb tNil)) G G' r (bnd m fun a => bnd mi fun i => lft (fm a i)) :=
  ⟨pe_methSl h.pe tc.sc mt ((FnOk.raw FO hb .nil).imp fun vs H Q E q => by rw [List.append_nil]; exact q) hr hx (pa_cons h2.pe pa_nil (star1 hst)) (star1 hst) hpl ht, fun T t σ s H Q h0 q => by
    have hl := at_len h0
    refine h.go T t σ s H _ h0 (wp_mono (wp_bnd q) (fun a s1 q1 ts x H1 at1 av1 => ?_) fun _ _ z => z)
    have at1' := at1
    obtain ⟨A1, A2, at1⟩ := at1
    obtain ⟨v', e1, _, B, k1, _⟩ := rdS (j := 0) at1 av1 rfl (hxt1 a s1)
    cases e1
    obtain ⟨p, dx, w, ev, hs, _⟩ := tape_slt k1
    refine ⟨p, dx, _, ev, hs, ?_⟩
    refine h2.go _ _ σ s1 H1 _ at1' (wp_mono (wp_bnd q1) (fun i s2 q2 y H2 at2 => ?_) fun _ _ z => z)
    obtain ⟨A1, A2, at2⟩ := at2
    have at3 : AtP F ((tmps [arg a, .t (.is rInt i)]).reverse ++ T) ((ts ++ [y]).reverse ++ t) (G' s2) σ H2 A1 A2 := by
      rw [tmps_cons]
      simpa [tmps] using at2
    have av2 : ArgV σ [arg a, .t (.is rInt i)] (ts ++ [y]) [x, y] := argV_cons av1 (.t .nil)
    rw [hf a i] at q2
    exact run_spE at3 av2 rfl hl (.inr (.sh (hxt a s2) (.cp cp_int (.tc cp_int) .nil))) hW (hw s2) (wp_lft q2)⟩
/-- isinstance(tape, Tape) -/
theorem ex_isTape {q0 : Pos} (tc : TapeCls X.K) (ti : SlX.SIsi X.K (tapeC X.K)) (h : EO X F e te G G' arg m) (hxt : ∀ a s, RdS (G' s) (arg a) rTape (tx a)) (hg : Gl X "isinstance") (hm : X.mg "isinstance" = none) (hg2 : Gl X "Tape") (hm2 : X.mg "Tape" = some (.ref (tapeC X.K))) (hs : PySem.W.isStarred e = false := by rfl) :
    EX X F (.Call (.Name "isinstance" p0) [e, .Name "Tape" q0] [] pos) (tCB (rIsiSl X.K (.ref (tapeC X.K))) (tCons te (tCons (tC (.ref (tapeC X.K))) tNil))) G G' rBool (bnd m fun a => ret true) :=
  ⟨pe_callB (call_isiSl (.ref (tapeC X.K))) hg hm (by decide +kernel) (pa_cons h.pe (pa_cons (pe_glob hg2 hm2 rfl) pa_nil (star1 rfl)) (star1 hs)) (he := star1 hs), fun T t σ s H Q h0 q => h.go T t σ s H _ h0 (wp_mono (wp_bnd q) (fun a s1 q1 ts v H1 at1 av => by
    have at0 := at1
    obtain ⟨A1, A2, at1⟩ := at1
    obtain ⟨v', e1, _, B, k1, _⟩ := rdS (j := 0) at1 av rfl (hxt a s1)
    cases e1
    obtain ⟨p, dx, w, ev, hs, _⟩ := tape_slt k1
    subst ev
    refine ⟨p, tapeC X.K, dx, _, .ref (tapeC X.K), true, rfl, rfl, fun w hw => hw, hs, tc.sc, ti, by unfold PySem.W.kitOne; rw [if_pos (by simp)], q1 _ H1 (at1.fin av ⟨rfl, rfl⟩)⟩) fun _ _ z => z)⟩
/-- tape == tape -/
theorem go_eqTape {f : TapeV × TapeV → SM Unit Bool} {fm : U → A → SM Unit Bool} (h : GO F ta G G1 argA m1) (h2 : GO F tb G1 G' argB m2) (x1 : ∀ a s, RdS (G' s) (argA a) rTape (txA a)) (x2 : ∀ a s, RdS (G' s) (argB a) rTape (txB a)) (hw : ∀ s, Weak (G' s) (F.io s)) (hf : ∀ a b, fm a b = f (txA a, txB b)) :
    GE F (tOp (rOwn X.K (tapeC X.K) (SpP X.K 2 (fun u : TapeV × TapeV => [.is (sh rTape) u.1, .is (sh rTape) u.2]) rBool f) (fun _ _ _ => False)) ta tb) G G' rBool (bnd m1 fun a => bnd m2 fun b => nxc (lft (fm a b))) := fun T t σ s H Q h0 q => by
  have hl := at_len h0
  refine h T t σ s H _ h0 (wp_mono (wp_bnd q) (fun a s1 q1 ts x H1 at1 av1 => ?_) fun _ _ z => z)
  refine h2 _ _ σ s1 H1 _ at1 (wp_mono (wp_bnd q1) (fun b s2 q2 us y H2 at2 av2 => ?_) fun _ _ z => z)
  have av3 : ArgV σ [argA a, argB b] (ts ++ us) [x, y] := argV_cons av1 av2
  have at3 : At F ((tmps [argA a, argB b]).reverse ++ T) ((ts ++ us).reverse ++ t) (G' s2) σ H2 := by
    rw [tmps_cons]
    simpa using at2
  obtain ⟨A1, A2, at3⟩ := at3
  obtain ⟨v1, e1, _, B1, k1, _⟩ := rdS (j := 0) at3 av3 rfl (x1 a s2)
  obtain ⟨v2, e2, _, B2, k2, _⟩ := rdS (j := 1) at3 av3 rfl (x2 b s2)
  cases e1
  cases e2
  obtain ⟨p, dx, w, ev, hs, _⟩ := tape_slt k1
  obtain ⟨p2, dx2, w2, ev2, hs2, _⟩ := tape_slt k2
  subst ev ev2
  rw [hf a b] at q2
  refine ⟨p, dx, _, p2, tapeC X.K, dx2, _, rfl, rfl, hs, hs2, by unfold PySem.W.notFirst; simp, ?_⟩
  exact run_sp at3 av3 rfl (.sh (x1 a s2) (.sh (x2 b s2) .nil)) (wp_mono (wp_lft (wp_nxc (E' := fun _ _ => False) q2)) (fun b _ q3 v H' z => q3 v H' z) fun _ _ z => z)
theorem ex_eqTape {f : TapeV × TapeV → SM Unit Bool} {fm : U → A → SM Unit Bool} (mt : Meth X.K (tapeC X.K) "__eq__" g) (FO : FnOk X.prog X.w X.K X.mg X.base (L2.CX X.prog X.w) k g fd ps (SpP X.K 2 (fun u : TapeV × TapeV => [.is (sh rTape) u.1, .is (sh rTape) u.2]) rBool f)) (hb : Binds X.K fd ps []) (hr : Room k X.A)
    (h : EO X F a ta G G1 argA m1) (h2 : EO X F b tb G1 G' argB m2) (x1 : ∀ a s, RdS (G' s) (argA a) rTape (txA a)) (x2 : ∀ a s, RdS (G' s) (argB a) rTape (txB a)) (hw : ∀ s, Weak (G' s) (F.io s)) (hf : ∀ a b, fm a b = f (txA a, txB b) := by intros; rfl) (hm : behindInMarks .Eq b = false := by rfl) :
    EX X F (.Compare a [.Eq] [b] pos) (tOp (rOwn X.K (tapeC X.K) (SpP X.K 2 (fun u : TapeV × TapeV => [.is (sh rTape) u.1, .is (sh rTape) u.2]) rBool f) (fun _ _ _ => False)) ta tb) G G' rBool (bnd m1 fun a => bnd m2 fun b => nxc (lft (fm a b))) :=
  ⟨pe_cmpR (op_own (fun _ _ => rfl) mt.at_ mt.fn ((FnOk.raw FO hb .nil).imp fun vs H Q E q => by rw [List.append_nil]; exact q) hr (passes_nx rfl)) h.pe h2.pe hm, go_eqTape h.go h2.go x1 x2 hw hf⟩
theorem et_eqTape {f : TapeV × TapeV → SM Unit Bool} {fm : U → A → SM Unit Bool} (mt : Meth X.K (tapeC X.K) "__eq__" g) (FO : FnOk X.prog X.w X.K X.mg X.base (L2.CX X.prog X.w) k g fd ps (SpP X.K 2 (fun u : TapeV × TapeV => [.is (sh rTape) u.1, .is (sh rTape) u.2]) rBool f)) (hb : Binds X.K fd ps []) (hr : Room k X.A)
    (h : EO X F a ta G G1 argA m1) (h2 : EO X F b tb G1 G' argB m2) (x1 : ∀ a s, RdS (G' s) (argA a) rTape (txA a)) (x2 : ∀ a s, RdS (G' s) (argB a) rTape (txB a)) (hw : ∀ s, Weak (G' s) (F.io s)) (hf : ∀ a b, fm a b = f (txA a, txB b) := by intros; rfl) (hm : behindInMarks .Eq b = false := by rfl) :
    ET X F (.Compare a [.Eq] [b] pos) (tTest (tOp (rOwn X.K (tapeC X.K) (SpP X.K 2 (fun u : TapeV × TapeV => [.is (sh rTape) u.1, .is (sh rTape) u.2]) rBool f) (fun _ _ _ => False)) ta tb)) G G' (bnd m1 fun a => bnd m2 fun b => nxc (lft (fm a b))) :=
  ⟨pt_cmpR (op_own (fun _ _ => rfl) mt.at_ mt.fn ((FnOk.raw FO hb .nil).imp fun vs H Q E q => by rw [List.append_nil]; exact q) hr (passes_nx rfl)) h.pe h2.pe hm, go_test (go_eqTape h.go h2.go x1 x2 hw hf)⟩
end
end Td

set_option Elab.async false
set_option linter.all false
set_option maxRecDepth 100000
set_option maxHeartbeats 4000000
namespace Td
open PySem PySem.Spec PyProof.Rows L2
section
variable {K : PySem.W.Frag} {S : Type} {F : FC K S} {T : List Slot} {t : List V} {G : List Slot} {σ : L2.St} {H : Hp} {U W : Type}
/-- a pair's two values taken by name -/
theorem At.box {i : Nat} {r : Rp U} {q : Rp W} {a : U × W} (h : At F T t G σ H) (e : G[i]? = some (.is (rPair r q) a)) : ∃ v1 v2, At F T t (G.set i (.is (rBox v1 v2 r q) a)) σ H := by
  obtain ⟨A1, A2, h⟩ := h
  obtain ⟨x, B, P1, P2, e1, hr, eA, back⟩ := h.loc.at_ e
  obtain ⟨v, ev, p, v1, v2, B1, B2, ep, hT, k1, k2, eB⟩ := hr
  refine ⟨v1, v2, ?_⟩
  have z := back (A1 ++ A2 ++ F.M0) H (.is (rBox v1 v2 r q) a) x B (fun h _ => h) ⟨v, ev, p, B1, B2, ep, hT, k1, k2, eB⟩
  rw [set_self e1, ← eA] at z
  exact ⟨A1, A2, h.tmp, z, h.good⟩
theorem At.putB2 {i : Nat} {q : Rp U} {r : Rp W} {v1 v2 : V} {a : U} {xs : List W} (c : r.Cp) (h : At F T t G σ H) (e : G[i]? = some (.is (rBox v1 v2 q (rList r)) (a, xs))) :
    ∃ D vs M, v2 = .ref D ∧ H D = some (.lst vs) ∧ All3 (r.rel K M H) vs xs [] ∧ ∀ ys ws, (∀ M, All3 (r.rel K M H) vs xs [] → All3 (r.rel K M H) ws ys []) → At F T t (G.set i (.is (rBox v1 v2 q (rList r)) (a, ys))) σ (upd H D (.lst ws)) := by
  obtain ⟨A1, A2, h0⟩ := id h
  obtain ⟨x, B, P1, P2, ex, hok, eA, back⟩ := h0.loc.at_ e
  obtain ⟨v, ev, p, B1, B2, ep, hT, k1, ⟨D, vs, C, eD, hD, hA, eB2⟩, eB⟩ := hok
  have eC := cp_all c hA
  subst eC
  subst eB2 eB
  refine ⟨D, vs, _, eD, hD, hA, fun ys ws hw => ?_⟩
  have nd := h0.good.nd
  have hM : D ∈ A1 ++ A2 ++ F.M0 := by rw [eA]; simp
  have hn1 : D ∉ B1 := by
    rw [eA] at nd
    simp only [List.nodup_append, List.mem_append] at nd
    intro z
    have := nd.2.1.2.1.1.2.2 D z D (by simp)
    exact this rfl
  have kp : ∀ {B0 : List Addr}, D ∉ B0 → ∀ p o, H p = some o → (p ∉ A1 ++ A2 ++ F.M0 ∨ p ∈ B0 ∨ isTup o = true) → upd H D (.lst ws) p = some o := fun {B0} hB0 p o eo hp => by
    have hne : p ≠ D := by
      intro z
      subst z
      rcases hp with z | z | z
      · exact z hM
      · exact hB0 z
      · rw [hD] at eo; cases eo; cases z
    rw [upd_ne hne]; exact eo
  refine h0.chg eA ex back (fun p hp => ?_) (fun p hp => ?_) (fun p hp => ?_) ⟨v, ev, p, B1, [D], ep, sqT_keep hT (kp (B0 := []) (by simp)), q.keep k1 (kp hn1), ⟨D, ws, [], eD, upd_same, (hw _ hA).imp fun v a B hB z => r.keep z (kp fun y => by cases hB _ y), rfl⟩, rfl⟩
  · rcases List.mem_append.mp hp with hp | hp
    · exact q.trk k1 p hp
    · rcases List.mem_cons.mp hp with z | z
      · subst z; exact ⟨_, hD, rfl⟩
      · cases z
  · refine upd_ne fun z => hp ?_
    subst z
    simp
  · by_cases z : p = D
    · subst z; exact ⟨_, upd_same, rfl⟩
    · rw [upd_ne z]
      rcases List.mem_append.mp hp with hp | hp
      · exact q.trk k1 p hp
      · rcases List.mem_cons.mp hp with y | y
        · exact absurd y z
        · cases y
end
section
variable {X : Cx} {S : Type} {F : FC X.K S} {N L R U W Z A : Type} {G G1 G2 : S → List Slot} {GN : N → S → List Slot} {GL : L → S → List Slot} {r : Rp R} {r1 : Rp U} {r2 : Rp W} {q1 : Rp Z} {pos p0 p1 cpos apos : Pos} {sts rest : List Stmt} {ts tr : TS} {e e2 : Expr} {te te2 : TE}
/-- from here on the pair in slot i has its two values by name -/
theorem bx_box {a : U × W} {out : SM S (Fl N L R)} (i : Nat) (hG : ∀ s, (G s)[i]? = some (.is (rPair r1 r2) a)) (hb : ∀ v1 v2, BX X F sts ts (fun s => (G s).set i (.is (rBox v1 v2 r1 r2) a)) GN GL r out) : BX X F sts ts G GN GL r out :=
  ⟨(hb .non .non).ps, fun T t σ s H D h0 q => by
    obtain ⟨v1, v2, h1⟩ := h0.box (hG s)
    exact (hb v1 v2).go T t σ s H D h1 q⟩
/-- x[0], x[1] of such a pair -/
theorem eo_b1 {v1 v2 : V} {a : Z × W} {b : A} {x : Str} {j : Nat} (i : Nat) (hG : ∀ s, (G s)[i]? = some (.is (rBox v1 v2 q1 r2) a)) (hN : X.N[i]? = some x := by rfl) (hv : Vis X.env.scope x := by first | exact Or.inl rfl | exact Or.inr (Or.inl rfl) | exact Or.inr (Or.inr rfl))
    (hd : (x == ("__debug__" : Str)) = false := by decide) (hcd : (x == ("__classdict__" : Str)) = false := by decide) :
    EO X F (.Subscript (.Name x p0) (.Constant (.int 0) j p1) pos) (tOp (rIxT X.K) (tVar i) (tC (.int 0))) G G (fun _ : A => .u v1) (ret b) :=
  ⟨pe_ix ix_tup (pe_var hN hv hd hcd) pe_int fun _ _ => rfl, fun T t σ s H Q h q => by
    obtain ⟨A1, A2, h0⟩ := id h
    obtain ⟨x, B, e1, ⟨v, ev, p, B1, B2, ep, hT, _⟩, _⟩ := h0.loc.mem (hG s)
    subst ev
    exact ⟨v, e1, p, [v1, v2], 0, v1, ep, rfl, hT, rfl, q [] v1 H (by simpa [tmps] using h) (.u .nil)⟩⟩
theorem eo_b2 {v1 v2 : V} {a : Z × W} {b : A} {x : Str} {j : Nat} (i : Nat) (hG : ∀ s, (G s)[i]? = some (.is (rBox v1 v2 q1 r2) a)) (hN : X.N[i]? = some x := by rfl) (hv : Vis X.env.scope x := by first | exact Or.inl rfl | exact Or.inr (Or.inl rfl) | exact Or.inr (Or.inr rfl))
    (hd : (x == ("__debug__" : Str)) = false := by decide) (hcd : (x == ("__classdict__" : Str)) = false := by decide) :
    EO X F (.Subscript (.Name x p0) (.Constant (.int 1) j p1) pos) (tOp (rIxT X.K) (tVar i) (tC (.int 1))) G G (fun _ : A => .u v2) (ret b) :=
  ⟨pe_ix ix_tup (pe_var hN hv hd hcd) pe_int fun _ _ => rfl, fun T t σ s H Q h q => by
    obtain ⟨A1, A2, h0⟩ := id h
    obtain ⟨x, B, e1, ⟨v, ev, p, B1, B2, ep, hT, _⟩, _⟩ := h0.loc.mem (hG s)
    subst ev
    exact ⟨v, e1, p, [v1, v2], 1, v2, ep, rfl, hT, rfl, q [] v2 H (by simpa [tmps] using h) (.u .nil)⟩⟩
theorem en_Box {T U : Type} {v1 v2 : V} {r : Rp T} {q : Rp U} {f : T → PyData} {g : U → PyData} (h1 : Enc r f) (h2 : Enc q g) : Enc (rBox v1 v2 r q) (dP f g) := by
  rintro K M H v a B ⟨p, B1, B2, e, hT, k1, k2, _⟩
  rw [e]
  exact .tup hT (.cons (h1 k1) (.cons (h2 k2) .nil))
/-- xs.pop(i): the item and what is left -/
def popM {T : Type} (xs : List T) (i : Int) : SM S (T × List T) := bnd (grd (-(2 ^ 63) ≤ i ∧ i < 2 ^ 63)) fun _ => match ixN xs.length i with
  | some k => (match xs[k]? with
    | some y => ret (y, xs.eraseIdx k)
    | none => stk)
  | none => stk
theorem wp_popM {T : Type} {xs : List T} {i : Int} {s : S} {P : T × List T → S → Prop} {E : Exn → S → Prop} (h : (popM xs i s).wp P E) : ∃ k y, ixN xs.length i = some k ∧ xs[k]? = some y ∧ (-(2 ^ 63) ≤ i ∧ i < 2 ^ 63) ∧ P (y, xs.eraseIdx k) s := by
  obtain ⟨hi, q⟩ := wp_grd (wp_bnd h)
  cases e : ixN xs.length i with
  | none => rw [e] at q; exact q.elim
  | some k =>
    rw [e] at q
    cases e2 : xs[k]? with
    | none => simp only [e2] at q; exact q.elim
    | some y => simp only [e2] at q; exact ⟨k, y, rfl, e2, hi, q⟩
def popL {T : Type} (xs : List T) (i : Int) : SM S (List T) := bnd (popM xs i) fun p => ret p.2
theorem all3_erase {T : Type} {R' : V → T → List Addr → Prop} : ∀ {vs : List V} {as : List T} (k : Nat), All3 R' vs as [] → All3 R' (vs.eraseIdx k) (as.eraseIdx k) [] := by
  intro vs as k h
  generalize eA : ([] : List Addr) = B at h
  induction h generalizing k with
  | nil => exact .nil
  | @cons v a B vs as C h t ih =>
    obtain ⟨e1, e2⟩ := List.append_eq_nil_iff.mp eA.symm
    subst e1 e2
    cases k with
    | zero => exact t
    | succ k => exact .cons (B := []) h (ih k rfl)
theorem all3_at {T : Type} {R' : V → T → List Addr → Prop} {vs : List V} {as : List T} (h : All3 R' vs as []) {k : Nat} {y : T} (e : as[k]? = some y) : ∃ v, vs[k]? = some v ∧ R' v y [] := by
  have hk : k < vs.length := by rw [h.length]; exact (List.getElem?_eq_some_iff.mp e).1
  obtain ⟨a, B, e1, hr, sub⟩ := h.get (List.getElem?_eq_getElem hk)
  rw [e] at e1
  cases e1
  have eB : B = [] := List.eq_nil_iff_forall_not_mem.mpr fun p hp => by cases sub p hp
  subst eB
  exact ⟨_, List.getElem?_eq_getElem hk, hr⟩
/-- given[1].pop(i) -/
theorem bx_popB {epos : Pos} {v1 v2 : V} {a : Z} {xs : List U} {mi : SM S Int} {out : List U → SM S (Fl N L R)} {x : Str} {j : Nat} (i : Nat) (c : r1.Cp) (h : EX X F e te G G1 rInt mi) (hG0 : ∀ s, (G s)[i]? = some (.is (rBox v1 v2 q1 (rList r1)) (a, xs))) (hG : ∀ s, (G1 s)[i]? = some (.is (rBox v1 v2 q1 (rList r1)) (a, xs)))
    (hb : ∀ ys, BX X F rest tr (fun s => (G1 s).set i (.is (rBox v1 v2 q1 (rList r1)) (a, ys))) GN GL r (out ys))
    (hN : X.N[i]? = some x := by rfl) (hv : Vis X.env.scope x := by first | exact Or.inl rfl | exact Or.inr (Or.inl rfl) | exact Or.inr (Or.inr rfl)) (hd : (x == ("__debug__" : Str)) = false := by decide) (hcd : (x == ("__classdict__" : Str)) = false := by decide)
    (hs : PySem.W.isStarred e = false := by rfl)
    (hfew : ((backTo cpos (starEach (e :: []) X.env)).all (fun x => !x.1) && (backToKw cpos (keywordEach [] X.env)).all (fun x => x.1.isSome)
      && decide ((e :: []).length + ([] : List Keyword).length + (if ([] : List Keyword).isEmpty then 0 else 1) < 30)) = true := by rfl) (hline : (apos.endLine == cpos.line) = true := by rfl)
    (hbase : attributeBase (.Subscript (.Name x p0) (.Constant (.int 1) j p1) pos) "pop" X.env (eval (.Subscript (.Name x p0) (.Constant (.int 1) j p1) pos) X.env) = eval (.Subscript (.Name x p0) (.Constant (.int 1) j p1) pos) X.env := by rfl)
    (hsw : swapsWith (.Call (.Attribute (.Subscript (.Name x p0) (.Constant (.int 1) j p1) pos) "pop" apos) [e] [] cpos) none epos.line X.env = pure false := by rfl) :
    BX X F (.Expr (.Call (.Attribute (.Subscript (.Name x p0) (.Constant (.int 1) j p1) pos) "pop" apos) [e] [] cpos) epos :: rest) (tSeq (tDrop (tBM X.K "list" rPopAt (tOp (rIxT X.K) (tVar i) (tC (.int 1))) (tCons te tNil))) tr) G GN GL r (bnd mi fun k => bnd (popL xs k) out) :=
  ⟨pss_cons (ps_expr (pe_bm PySem.F.plainAttrs_list PySem.F.slot_list_pop PySem.F.type_list_pop mt_popAt (pe_ix ix_tup (pe_var hN hv hd hcd) pe_int fun _ _ => rfl) (pa_cons h.pe pa_nil (star1 hs)) hbase hfew hline (star1 hs) (by rfl)) hsw) (hb []).ps, fun T t σ s H D h0 q => by
    have e0 := h0
    obtain ⟨A1, A2, e0⟩ := e0
    obtain ⟨x, B, e1, ⟨v, ev, p, B1, B2, ep, hT, _, ⟨D0, vs0, C0, eD0, hD0, _⟩, _⟩, _⟩ := e0.loc.mem (hG0 s)
    subst ev
    refine ⟨v, e1, p, [v1, v2], 1, v2, ep, rfl, hT, rfl, by rw [eD0]; exact ty_lst hD0, ?_⟩
    refine h.go T t σ s H _ h0 (wp_mono (wp_bnd q) (fun k s1 q1 w H1 at1 => ?_) fun e s z => z σ)
    obtain ⟨kk, y, hk, hy, hi, q2⟩ := wp_popM (wp_bnd (wp_bnd q1))
    obtain ⟨_, _, ek, _⟩ := top_rel at1
    subst ek
    obtain ⟨D', vs, M, e2, hD, hA, k3⟩ := at1.pop.putB2 c (hG s1)
    obtain ⟨u, eu, _⟩ := all3_at hA hy
    have hlen := hA.length
    obtain ⟨hk2, _⟩ := ixN_seq hk
    exact ⟨D', vs, k, kk, u, e2, rfl, hD, hi.1, hi.2, by rw [hlen]; exact hk2, eu, (hb _).go T t σ s1 _ D (k3 _ _ fun M z => all3_erase kk z) q2⟩⟩
/-- x.pop(i) of an own list -/
theorem bx_pop {xs : List U} {mi : SM S Int} {out : List U → SM S (Fl N L R)} {x : Str} (i : Nat) (c : r1.Cp) (h : EX X F e te G G1 rInt mi) (hG0 : ∀ s, (G s)[i]? = some (.is (rList r1) xs)) (hG : ∀ s, (G1 s)[i]? = some (.is (rList r1) xs))
    (hb : ∀ ys, BX X F rest tr (fun s => (G1 s).set i (.is (rList r1) ys)) GN GL r (out ys))
    (hN : X.N[i]? = some x := by rfl) (hv : Vis X.env.scope x := by first | exact Or.inl rfl | exact Or.inr (Or.inl rfl) | exact Or.inr (Or.inr rfl)) (hd : (x == ("__debug__" : Str)) = false := by decide) (hcd : (x == ("__classdict__" : Str)) = false := by decide)
    (hs : PySem.W.isStarred e = false := by rfl)
    (hfew : ((backTo cpos (starEach (e :: []) X.env)).all (fun x => !x.1) && (backToKw cpos (keywordEach [] X.env)).all (fun x => x.1.isSome)
      && decide ((e :: []).length + ([] : List Keyword).length + (if ([] : List Keyword).isEmpty then 0 else 1) < 30)) = true := by rfl) (hline : (apos.endLine == cpos.line) = true := by rfl)
    (hsw : swapsWith (.Call (.Attribute (.Name x p0) "pop" apos) [e] [] cpos) none pos.line X.env = pure false := by rfl)
    (hbase : attributeBase (.Name x p0) "pop" X.env (eval (.Name x p0) X.env) = eval (.Name x p0) X.env := by rfl) :
    BX X F (.Expr (.Call (.Attribute (.Name x p0) "pop" apos) [e] [] cpos) pos :: rest) (tSeq (tDrop (tBM X.K "list" rPopAt (tVar i) (tCons te tNil))) tr) G GN GL r (bnd mi fun k => bnd (popL xs k) out) :=
  ⟨pss_cons (ps_expr (pe_bm PySem.F.plainAttrs_list PySem.F.slot_list_pop PySem.F.type_list_pop mt_popAt (pe_var hN hv hd hcd) (pa_cons h.pe pa_nil (star1 hs)) hbase hfew hline (star1 hs) (by rfl)) hsw) (hb []).ps, fun T t σ s H D h0 q => by
    obtain ⟨v0, M0, B0, ev0, hr0⟩ := h0.slot (hG0 s)
    obtain ⟨p0', vs0, A0, ep0, hp0, _⟩ := hr0
    subst ep0
    refine ⟨_, ev0, ty_lst hp0, ?_⟩
    refine h.go T t σ s H _ h0 (wp_mono (wp_bnd q) (fun k s1 q1 w H1 at1 => ?_) fun e s z => z σ)
    obtain ⟨kk, y, hk, hy, hi, q2⟩ := wp_popM (wp_bnd (wp_bnd q1))
    obtain ⟨_, _, ek, _⟩ := top_rel at1
    subst ek
    have at1p := at1.pop
    obtain ⟨v1, M1, B1, ev1, p1, vs1, A1, ep1, hp1, hA1, _⟩ := at1p.slot (hG s1)
    have eA := cp_all c hA1
    subst eA
    obtain ⟨D', vs, e1, hD, hl, k3⟩ := at1p.putS (ys := xs.eraseIdx kk) c (hG s1)
    rw [ev0] at e1 ev1
    cases e1
    cases ev1
    cases ep1
    rw [hD] at hp1
    cases hp1
    obtain ⟨u, eu, _⟩ := all3_at hA1 hy
    obtain ⟨hk2, _⟩ := ixN_seq hk
    exact ⟨p0', _, k, kk, u, rfl, rfl, hD, hi.1, hi.2, by rw [hl]; exact hk2, eu, (hb _).go T t σ s1 _ D (k3 _ fun M z => all3_erase kk z) q2⟩⟩
end
end Td

set_option Elab.async false
set_option linter.all false
set_option maxRecDepth 100000
set_option maxHeartbeats 4000000
namespace Td
open PySem PySem.Spec PyProof.Rows L2 StX
section
variable {K : PySem.W.Frag} {S : Type} {F : FC K S} {T : List Slot} {t : List V} {G : List Slot} {σ : L2.St} {H : Hp} {A : Type} {rx : Rp A} {xs : List A}
theorem held_pn {i : Nat} {w : V} {A1 A2 : List Addr} {U : Type} {r : Rp U} {a : U} (e : G[i]? = some (.pn w r a)) (h : AtP F T t G σ H A1 A2) : ∃ B, r.rel K (A1 ++ A2 ++ F.M0) H w a B := by
  obtain ⟨x, B, e1, ⟨_, h1⟩, _⟩ := h.loc.mem e
  exact ⟨B, h1⟩
/-- a list in a slot whose value is known -/
theorem src_pin {i : Nat} {p : Addr} (c : rx.Cp) : Src F (fun G => G[i]? = some (.pn (.ref p) (rList rx) xs)) (Itl K p) [] [] rx xs where
  len := rfl
  go := by
    intro i T1 t1 T t G σ H hC e h hi
    obtain ⟨A1, A2, h⟩ := h
    obtain ⟨B, p', vs, A, ep, hp, hA, _⟩ := held_pn hC h
    cases ep
    have hi' : i < vs.length := by rw [hA.length]; exact hi
    exact ⟨vs, vs[i], SqL.of hp, List.getElem?_eq_getElem hi'⟩
  stop := by
    intro i T1 t1 T t G σ H hC e h hi
    obtain ⟨A1, A2, h⟩ := h
    obtain ⟨B, p', vs, A, ep, hp, hA, _⟩ := held_pn hC h
    cases ep
    exact ⟨vs, SqL.of hp, by rw [hA.length]; exact hi⟩
  yld := by
    intro i a x T1 t1 T t G σ H H' hC e h hy ha
    obtain ⟨A1, A2, h⟩ := h
    obtain ⟨B, p', vs, A, ep, hp, hA, _⟩ := held_pn hC h
    cases ep
    obtain ⟨rfl, hy⟩ := hy
    obtain ⟨w, D, e1, hr, _⟩ := hA.get' ha
    have e2 := hy vs (SqL.of hp)
    rw [e1] at e2
    cases e2
    have eD := c hr
    subst eD
    exact ⟨A1, A2, h.pushM hr⟩
/-- a tuple -/
theorem src_tup {a : Addr} (c : rx.Cp) : Src F (fun _ => True) (Itt K a) [.is (rTupL rx) xs] [.ref a] rx xs where
  len := rfl
  go := by
    intro i T1 t1 T t G σ H _ e h hi
    obtain ⟨A1, A2, h⟩ := h
    obtain ⟨B, v, ev, p, vs, ep, hp, hA⟩ := held e h
    cases ev
    cases ep
    have hi' : i < vs.length := by rw [hA.length]; exact hi
    exact ⟨vs, vs[i], hp, List.getElem?_eq_getElem hi'⟩
  stop := by
    intro i T1 t1 T t G σ H _ e h hi
    obtain ⟨A1, A2, h⟩ := h
    obtain ⟨B, v, ev, p, vs, ep, hp, hA⟩ := held e h
    cases ev
    cases ep
    exact ⟨vs, hp, by rw [hA.length]; exact hi⟩
  yld := by
    intro i a x T1 t1 T t G σ H H' _ e h hy ha
    obtain ⟨A1, A2, h⟩ := h
    obtain ⟨B, v, ev, p, vs, ep, hp, hA⟩ := held e h
    cases ev
    cases ep
    obtain ⟨rfl, hy⟩ := hy
    obtain ⟨w, D, e1, hr, _⟩ := hA.get' ha
    have e2 := hy vs hp
    rw [e1] at e2
    cases e2
    have eD := c hr
    subst eD
    exact ⟨A1, A2, h.pushM hr⟩
theorem At.pin {i : Nat} {U : Type} {r : Rp U} {a : U} (h : At F T t G σ H) (e : G[i]? = some (.is r a)) : ∃ w, At F T t (G.set i (.pn w r a)) σ H := by
  obtain ⟨v, M, B, ev, hr⟩ := h.slot e
  exact ⟨v, h.repin e ev⟩
end
section
variable {X : Cx} {S : Type} {F : FC X.K S} {N L R U W Z A : Type} {G G1 G2 : S → List Slot} {GN : N → S → List Slot} {GL : L → S → List Slot} {r : Rp R} {r1 : Rp U} {r2 : Rp W} {q1 : Rp Z} {rx : Rp A} {pos p0 p1 cpos apos : Pos} {sts rest : List Stmt} {ts tr : TS} {tg e e2 : Expr} {te te2 : TE}
/-- a name that holds a pinned list is walked -/
theorem ei_pin {w : V} {xs : List A} {x : Str} (i : Nat) (hG : ∀ s, (G s)[i]? = some (.pn w (rList rx) xs)) (c : rx.Cp) (hN : X.N[i]? = some x := by rfl) (hv : Vis X.env.scope x := by first | exact Or.inl rfl | exact Or.inr (Or.inl rfl) | exact Or.inr (Or.inr rfl))
    (hd : (x == ("__debug__" : Str)) = false := by decide) (hcd : (x == ("__classdict__" : Str)) = false := by decide) : EI X F tg (.Name x p0) (iList X.K (tVar i)) G G (fun G => G[i]? = some (.pn w (rList rx) xs)) rx (ret xs) :=
  ⟨pi_list (pe_var hN hv hd hcd), fun T t σ s H R h0 q => by
    obtain ⟨A1, A2, h1⟩ := id h0
    obtain ⟨x, B, e1, ⟨ew, h2⟩, _⟩ := h1.loc.mem (hG s)
    obtain ⟨p', vs, A', ep, hp, hA, _⟩ := h2
    subst ep
    subst ew
    exact ⟨_, e1, p', rfl, ⟨vs, SqL.of hp⟩, q _ [] [] H (src_pin c) h0⟩⟩
theorem ei_tup {m : SM S (List A)} (h : EX X F e te G G1 (rTupL rx) m) (c : rx.Cp) : EI X F tg e (iTup X.K te) G G1 (fun _ => True) rx m :=
  ⟨pi_tup h.pe, fun T t σ s H R h0 q => h.go T t σ s H _ h0 (wp_mono q (fun xs s1 q1 v H1 at1 => by
    obtain ⟨M, B, p, vs, ev, hp, hD⟩ := top_rel at1
    subst ev
    exact ⟨p, rfl, ⟨vs, hp⟩, q1 _ [_] [_] H1 (src_tup c) at1⟩) fun _ _ z => z)⟩
theorem en_sh {T : Type} {r : Rp T} {f : T → PyData} (h : Enc r f) : Enc (sh r) f := by
  rintro K M H v a B ⟨_, A, k, _⟩
  exact h k
/-- while an expression is evaluated, the list in slot i has its value by name -/
theorem ex_pin {b : Z} {m : SM S U} (i : Nat) (h0 : ∀ s, (G s)[i]? = some (.is q1 b)) (h1 : ∀ s, (G1 s)[i]? = some (.is q1 b)) (h : ∀ w, EX X F e te (fun s => (G s).set i (.pn w q1 b)) (fun s => (G1 s).set i (.pn w q1 b)) r1 m) : EX X F e te G G1 r1 m :=
  ⟨(h .non).pe, fun T t σ s H Q at0 q => by
    obtain ⟨w, at1⟩ := at0.pin (h0 s)
    refine (h w).go T t σ s H Q at1 (wp_mono q (fun a s1 q1 v H1 at2 => q1 v H1 ?_) fun _ _ z => z)
    have hi : i < (G1 s1).length := (List.getElem?_eq_some_iff.mp (h1 s1)).1
    have z := (at2.unpin (i := i) (by rw [List.getElem?_set_self hi])).2
    rw [List.set_set, set_self (h1 s1)] at z
    exact z⟩
theorem bx_pin {b : Z} {out : SM S (Fl N L R)} (i : Nat) (h0 : ∀ s, (G s)[i]? = some (.is q1 b)) (h : ∀ w, BX X F sts ts (fun s => (G s).set i (.pn w q1 b)) GN GL r out) : BX X F sts ts G GN GL r out :=
  ⟨(h .non).ps, fun T t σ s H D at0 q => by
    obtain ⟨w, at1⟩ := at0.pin (h0 s)
    exact (h w).go T t σ s H D at1 q⟩
theorem bx_unpin {w : V} {b : Z} {out : SM S (Fl N L R)} (i : Nat) (h0 : ∀ s, (G s)[i]? = some (.pn w q1 b)) (h : BX X F sts ts (fun s => (G s).set i (.is q1 b)) GN GL r out) : BX X F sts ts G GN GL r out :=
  ⟨h.ps, fun T t σ s H D at0 q => h.go T t σ s H D (at0.unpin (h0 s)).2 q⟩
end
section
variable {K : PySem.W.Frag} {S : Type} {F : FC K S} {T : List Slot} {t : List V} {G : List Slot} {σ : L2.St} {H : Hp}
/-- a call with a state of its own; the other arguments may be the caller's own -/
theorem run_ioSE {S' U W : Type} {n : Nat} {rio : Rp S'} {Pr : U → List Slot} {r : Rp W} {f : U → SM S' W} {E : XK} {L : List Arg} {ts vr : List V} {w : V} {s0 : S'} {u : U} {A1' A2 C : List Addr} {Q : VK} (cio : rio.Clo) (cr : r.Clo)
    (hio : rio.rel K (A1' ++ (C ++ A2) ++ F.M0) H w s0 C) (tail : AtS K (A1' ++ (C ++ A2) ++ F.M0) H G σ A2) (at2 : AtP F ((tmps L).reverse ++ T) (ts.reverse ++ t) (.is rio s0 :: G) (some w :: σ) H A1' (C ++ A2)) (lts : ts.length = (tmps L).length) (hn : vr.length + 1 = n)
    (hent : AtS K C H (Pr u) (vr.map some) [])
    (q : (f u s0).wp (fun b s' => ∀ v H', At F (.is rio s' :: .is r b :: T) (w :: v :: t) G σ H' → Q v H') (fun e s' => ∀ d v H', At F (.is rPay e.pay :: T) (v :: t) G σ H' → H' d = some (.xd [("value", v)]) → E (.ref (He.ga K e.cls)) (some d) H')) :
    SpI K n rio Pr r f (w :: vr) H Q E := by
  have tC := rio.trk hio
  have nd := at2.good.nd
  have ndC : C.Nodup := by
    simp only [List.nodup_append] at nd
    exact nd.2.1.1
  have entry : At (FC.c (K := K) (S := S') H C []) [] [] (.pn w rio s0 :: Pr u) ((w :: vr).map some) H := by
    refine ⟨[], C ++ [], .nil, .cons ⟨rfl, cio hio⟩ (hent.grow fun p hp => .inl (by simpa [FC.c] using hp)), ⟨by simpa using ndC, fun p hp z => (by cases z), fun p hp => .inr (show p ∈ C by simpa using hp), tC, fun _ _ e _ => e, fun p hp => (by cases hp)⟩⟩
  have back : ∀ (M' : List Addr) (H' : Hp) (g' : Slot) (x' : Option V) (B' : List Addr), (∀ {g x B}, Slot.ok K (A1' ++ (C ++ A2) ++ F.M0) H g x B → (∀ p, p ∈ B → p ∈ [] ∨ p ∈ A2) → Slot.ok K M' H' g x B) → g'.ok K M' H' x' B' → AtS K M' H' ((.is rio s0 :: G).set 0 g') ((some w :: σ).set 0 x') ([] ++ (B' ++ A2)) := by
    intro M' H' g' x' B' k hg'
    show AtS K M' H' (g' :: G) (x' :: σ) (B' ++ A2)
    exact .cons hg' (tail.mapOk fun hs sub => k hs fun p hp => .inr (sub p hp))
  refine ⟨u, s0, C, _, by rw [List.length_cons, hn], entry, wp_mono q (fun b s2 q3 v H' hx => ?_) (fun e s2 q3 d v H' hx hd => ?_)⟩
  · have z := At.backIo (j := 0) at2 (P1 := []) rfl back rfl tC hx cio (.inl cr)
    have z2 := At.dropU (by simp [lts]) z
    have z3 := (At.unpin z2 (i := 0) rfl).2
    exact q3 v H' (At.sink z3)
  · have z := At.backIo (j := 0) at2 (P1 := []) rfl back rfl tC hx cio (.inl clo_pay)
    exact q3 d v H' (At.low (At.dropU (by simp [lts]) z)) hd
theorem go_makeE {U A : Type} {n : Nat} {Pr : U → List Slot} {f : U → SM TS0 Unit} {fm : A → SM TS0 Unit} {E : XK} {ta : TA} {G G' : S → List Slot} {LA : A → List Arg} {mA : SM S A} (u : A → U) (hf : ∀ a, fm a = f (u a)) (h : GA F ta G G' LA mA) (hn : ∀ a, (LA a).length + 1 = n)
    (he : ∀ a s, Ent (G' s) (LA a) (Pr (u a))) (hW : ∀ c d σ H, F.W c d σ H → E c d H) (hw : ∀ s, Weak (G' s) (F.io s)) :
    GE F (tMakeR (tapeC K) (SpI K n rSelf Pr rNon f) E ta) G G' (sh rTape) (bnd mA fun a => bnd (subM (fm a) TS0.new) fun p => tapeM p.2) := by
  intro T t σ s H Q h0 q
  have ef : fm = fun a => f (u a) := funext hf
  subst ef
  refine h T t σ s H _ h0 (wp_mono (wp_bnd q) (fun a s1 q1 ts vs H1 at1 av => ?_) fun _ _ z => z)
  have q2 := wp_subM (wp_bnd q1)
  obtain ⟨A1, A2, at1⟩ := at1
  intro x dx hx hd ne
  have hent := ent_at at1 av (he a s1)
  obtain ⟨at2, tail, rel, k, hM⟩ := at1.alloc hx hd ne
  have hC : ∀ p, p ∈ [x, dx] → p ∈ ([] : List Addr) ∨ H1 p = none := fun p hp => by
    rcases List.mem_cons.mp hp with e | hp
    · subst e; exact .inr hx
    · rcases List.mem_cons.mp hp with e | hp
      · subst e; exact .inr hd
      · cases hp
  refine run_ioSE clo_self (fun h => h) rel tail at2 (argV_len av).2 (by rw [(argV_len av).1, hn]) ((hent.grow hC).keep fun p o e _ => k p o e) (wp_mono q2 (fun b s' q3 v H' hz => ?_) (fun e s' q3 d v H' hz hd => ?_))
  · obtain ⟨_, _, hz0⟩ := id hz
    obtain ⟨_, _, _, _, ht0⟩ := AtS.cons_inv hz0.tmp
    obtain ⟨_, _, _, ⟨v', ev, eb, _⟩, _⟩ := AtS.cons_inv ht0
    cases ev
    subst eb
    refine ⟨rfl, ?_⟩
    cases s' with
    | new => exact q3.elim
    | half _ => exact q3.elim
    | full a =>
      have z1 : At F (.is rTape a :: .is rNon b :: T) (.ref x :: .non :: t) (G' s1) σ H' := by
        obtain ⟨C1, C2, hz⟩ := hz
        obtain ⟨B, A', eA, ⟨v', ev, hr⟩, ht⟩ := AtS.cons_inv hz.tmp
        subst eA
        exact ⟨_, C2, .cons ⟨v', ev, hr⟩ ht, hz.loc, hz.good⟩
      exact q3 _ H' (At.dropU (T1 := [_]) (t1 := [_]) rfl z1).freeze
  · refine hW _ _ σ _ (q3 d v H' ?_ hd)
    have z2 := hz.weak (hw s1)
    exact At.dropM (T0 := [_]) (t0 := [v]) (T := []) (t := []) rfl (T1 := T) (t1 := t) (by obtain ⟨B1, B2, hz⟩ := h0; have := hz.tmp.length; simpa using this) (by simpa using z2)
end
section
variable {X : Cx} {S : Type} {F : FC X.K S} {U A : Type} {n k : Nat} {Pr : U → List Slot} {f : U → SM TS0 Unit} {fm : A → SM TS0 Unit} {E : XK} {ta : TA} {G G' : S → List Slot} {LA : A → List Arg} {mA : SM S A} {CX : CXT} {fA : Addr} {fd : FuncData} {ps : List Str} {x : Str} {p pos : Pos} {e : Expr} {es : List Expr}
theorem ex_makeE (u : A → U) (M : Mk X.K (tapeC X.K) fA) (FO : FnOk X.prog X.w X.K X.mg X.base CX k fA fd ps (SpI X.K n rSelf Pr rNon f)) (hr : Room (k + 1) X.A) (hg : Gl X x) (hm : X.mg x = some (.ref (tapeC X.K))) (hb : Binds X.K fd ps []) (hx : Passes CX X E)
    (h : EA X F (e :: es) ta G G' LA mA) (hn : ∀ a, (LA a).length + 1 = n) (he : ∀ a s, Ent (G' s) (LA a) (Pr (u a))) (hW : ∀ c d σ H, F.W c d σ H → E c d H) (hw : ∀ s, Weak (G' s) (F.io s)) (hf : ∀ a, fm a = f (u a) := by intro _; rfl)
    (hst : PySem.W.isStarred e = false := by rfl) (hpl : (backTo pos (starEach es X.env)).any (·.1) = false := by rfl) (hdb : (x == ("__debug__" : Str)) = false := by decide) :
    EX X F (.Call (.Name x p) (e :: es) [] pos) (tMakeR (tapeC X.K) (SpI X.K n rSelf Pr rNon f) E ta) G G' (sh rTape) (bnd mA fun a => bnd (subM (fm a) TS0.new) fun p => tapeM p.2) :=
  ⟨pe_makeR M ((FnOk.raw FO hb .nil).imp fun vs H Q E q => by rw [List.append_nil]; exact q) hr hg hm hx h.pa (hdb := hdb) (he := star1 hst) (hpl := hpl), go_makeE u hf h.go hn he hW hw⟩
end
end Td

set_option Elab.async false
set_option linter.all false
set_option maxRecDepth 100000
set_option maxHeartbeats 0
namespace Hd
open PySem PySem.Spec PyProof.Rows L2 He Td
def tp (i : Nat) : Stmt := PySem.Challenge.pw_tapedetours_k07_sums_and_longest_waits.main.body.getD i (.Pass ⟨0, 0, 0, 0⟩)
def ms (i j : Nat) : Stmt := (clsB (tp i)).getD j (.Pass ⟨0, 0, 0, 0⟩)
def d_TapeError_DinitD : Df := ⟨fun K => ma K (ga K "TapeError") "__init__", "__init__", "TapeError.__init__", defArgs (ms 1 0), defBody (ms 1 0), defScope (ms 1 0)⟩
def d_lowest : Df := ⟨fun K => ga K "lowest", "lowest", "lowest", defArgs (tp 9), defBody (tp 9), defScope (tp 9)⟩
def d_is_fraction : Df := ⟨fun K => ga K "is_fraction", "is_fraction", "is_fraction", defArgs (tp 10), defBody (tp 10), defScope (tp 10)⟩
def d_is_less : Df := ⟨fun K => ga K "is_less", "is_less", "is_less", defArgs (tp 11), defBody (tp 11), defScope (tp 11)⟩
def d_worth : Df := ⟨fun K => ga K "worth", "worth", "worth", defArgs (tp 12), defBody (tp 12), defScope (tp 12)⟩
def d_asked_files : Df := ⟨fun K => ga K "asked_files", "asked_files", "asked_files", defArgs (tp 14), defBody (tp 14), defScope (tp 14)⟩
def d_are_asks : Df := ⟨fun K => ga K "are_asks", "are_asks", "are_asks", defArgs (tp 15), defBody (tp 15), defScope (tp 15)⟩
def d_is_row : Df := ⟨fun K => ga K "is_row", "is_row", "is_row", defArgs (tp 16), defBody (tp 16), defScope (tp 16)⟩
def d_is_cost : Df := ⟨fun K => ga K "is_cost", "is_cost", "is_cost", defArgs (tp 17), defBody (tp 17), defScope (tp 17)⟩
def d_check_asks : Df := ⟨fun K => ga K "check_asks", "check_asks", "check_asks", defArgs (tp 18), defBody (tp 18), defScope (tp 18)⟩
def d_check_row : Df := ⟨fun K => ga K "check_row", "check_row", "check_row", defArgs (tp 19), defBody (tp 19), defScope (tp 19)⟩
def d_check_cost : Df := ⟨fun K => ga K "check_cost", "check_cost", "check_cost", defArgs (tp 20), defBody (tp 20), defScope (tp 20)⟩
def d_fresh_runs : Df := ⟨fun K => ga K "fresh_runs", "fresh_runs", "fresh_runs", defArgs (tp 22), defBody (tp 22), defScope (tp 22)⟩
def d_way : Df := ⟨fun K => ga K "way", "way", "way", defArgs (tp 23), defBody (tp 23), defScope (tp 23)⟩
def d_waits : Df := ⟨fun K => ga K "waits", "waits", "waits", defArgs (tp 24), defBody (tp 24), defScope (tp 24)⟩
def d_total : Df := ⟨fun K => ga K "total", "total", "total", defArgs (tp 25), defBody (tp 25), defScope (tp 25)⟩
def d_longest : Df := ⟨fun K => ga K "longest", "longest", "longest", defArgs (tp 26), defBody (tp 26), defScope (tp 26)⟩
def d_Tape_DinitD : Df := ⟨fun K => ma K (ga K "Tape") "__init__", "__init__", "Tape.__init__", defArgs (ms 28 1), defBody (ms 28 1), defScope (ms 28 1)⟩
def d_Tape_length : Df := ⟨fun K => pgA K (ga K "Tape") "length", "length", "Tape.length", defArgs (ms 28 2), defBody (ms 28 2), defScope (ms 28 2)⟩
def d_Tape_files : Df := ⟨fun K => pgA K (ga K "Tape") "files", "files", "Tape.files", defArgs (ms 28 3), defBody (ms 28 3), defScope (ms 28 3)⟩
def d_Tape_DlenD : Df := ⟨fun K => ma K (ga K "Tape") "__len__", "__len__", "Tape.__len__", defArgs (ms 28 4), defBody (ms 28 4), defScope (ms 28 4)⟩
def d_Tape_DeqD : Df := ⟨fun K => ma K (ga K "Tape") "__eq__", "__eq__", "Tape.__eq__", defArgs (ms 28 5), defBody (ms 28 5), defScope (ms 28 5)⟩
def d_Tape_DiterD : Df := ⟨fun K => ma K (ga K "Tape") "__iter__", "__iter__", "Tape.__iter__", defArgs (ms 28 6), defBody (ms 28 6), defScope (ms 28 6)⟩
def d_Tape_DgetitemD : Df := ⟨fun K => ma K (ga K "Tape") "__getitem__", "__getitem__", "Tape.__getitem__", defArgs (ms 28 7), defBody (ms 28 7), defScope (ms 28 7)⟩
def d_Tape_without : Df := ⟨fun K => ma K (ga K "Tape") "without", "without", "Tape.without", defArgs (ms 28 8), defBody (ms 28 8), defScope (ms 28 8)⟩
def d_Tape_turned : Df := ⟨fun K => ma K (ga K "Tape") "turned", "turned", "Tape.turned", defArgs (ms 28 9), defBody (ms 28 9), defScope (ms 28 9)⟩
def d__law_td_sack : Df := ⟨fun K => ga K "_law_td_sack", "_law_td_sack", "_law_td_sack", defArgs (tp 30), defBody (tp 30), defScope (tp 30)⟩
def d__law_td_pick : Df := ⟨fun K => ga K "_law_td_pick", "_law_td_pick", "_law_td_pick", defArgs (tp 31), defBody (tp 31), defScope (tp 31)⟩
def d__law_td_ratio : Df := ⟨fun K => ga K "_law_td_ratio", "_law_td_ratio", "_law_td_ratio", defArgs (tp 32), defBody (tp 32), defScope (tp 32)⟩
def d__law_td_shape : Df := ⟨fun K => ga K "_law_td_shape", "_law_td_shape", "_law_td_shape", defArgs (tp 33), defBody (tp 33), defScope (tp 33)⟩
def d__law_td_wide_shape : Df := ⟨fun K => ga K "_law_td_wide_shape", "_law_td_wide_shape", "_law_td_wide_shape", defArgs (tp 34), defBody (tp 34), defScope (tp 34)⟩
def d__law_td_counts : Df := ⟨fun K => ga K "_law_td_counts", "_law_td_counts", "_law_td_counts", defArgs (tp 35), defBody (tp 35), defScope (tp 35)⟩
def d__law_td_asked : Df := ⟨fun K => ga K "_law_td_asked", "_law_td_asked", "_law_td_asked", defArgs (tp 36), defBody (tp 36), defScope (tp 36)⟩
def d__law_td_bends : Df := ⟨fun K => ga K "_law_td_bends", "_law_td_bends", "_law_td_bends", defArgs (tp 37), defBody (tp 37), defScope (tp 37)⟩
def d__law_td_led : Df := ⟨fun K => ga K "_law_td_led", "_law_td_led", "_law_td_led", defArgs (tp 38), defBody (tp 38), defScope (tp 38)⟩
def d__law_td_sum : Df := ⟨fun K => ga K "_law_td_sum", "_law_td_sum", "_law_td_sum", defArgs (tp 39), defBody (tp 39), defScope (tp 39)⟩
def d__law_td_comes : Df := ⟨fun K => ga K "_law_td_comes", "_law_td_comes", "_law_td_comes", defArgs (tp 40), defBody (tp 40), defScope (tp 40)⟩
def d__law_td_under : Df := ⟨fun K => ga K "_law_td_under", "_law_td_under", "_law_td_under", defArgs (tp 41), defBody (tp 41), defScope (tp 41)⟩
def d__law_td_price : Df := ⟨fun K => ga K "_law_td_price", "_law_td_price", "_law_td_price", defArgs (tp 42), defBody (tp 42), defScope (tp 42)⟩
def d__law_td_tape : Df := ⟨fun K => ga K "_law_td_tape", "_law_td_tape", "_law_td_tape", defArgs (tp 43), defBody (tp 43), defScope (tp 43)⟩
def d__law_td_road : Df := ⟨fun K => ga K "_law_td_road", "_law_td_road", "_law_td_road", defArgs (tp 44), defBody (tp 44), defScope (tp 44)⟩
def d__law_td_any_shape : Df := ⟨fun K => ga K "_law_td_any_shape", "_law_td_any_shape", "_law_td_any_shape", defArgs (tp 45), defBody (tp 45), defScope (tp 45)⟩
def d__law_td_right : Df := ⟨fun K => ga K "_law_td_right", "_law_td_right", "_law_td_right", defArgs (tp 46), defBody (tp 46), defScope (tp 46)⟩
def d_law : Df := ⟨fun K => ga K "law", "law", "law", defArgs (tp 47), defBody (tp 47), defScope (tp 47)⟩
def fs : List Df := [d_TapeError_DinitD, d_lowest, d_is_fraction, d_is_less, d_worth, d_asked_files, d_are_asks, d_is_row, d_is_cost, d_check_asks, d_check_row, d_check_cost, d_fresh_runs, d_way, d_waits, d_total, d_longest, d_Tape_DinitD, d_Tape_length, d_Tape_files, d_Tape_DlenD, d_Tape_DeqD, d_Tape_DiterD, d_Tape_DgetitemD, d_Tape_without, d_Tape_turned, d__law_td_sack, d__law_td_pick, d__law_td_ratio, d__law_td_shape, d__law_td_wide_shape, d__law_td_counts, d__law_td_asked, d__law_td_bends, d__law_td_led, d__law_td_sum, d__law_td_comes, d__law_td_under, d__law_td_price, d__law_td_tape, d__law_td_road, d__law_td_any_shape, d__law_td_right, d_law]
def gl0 : List Str := ["lowest", "is_fraction", "is_less", "worth", "asked_files", "are_asks", "is_row", "is_cost", "check_asks", "check_row", "check_cost", "fresh_runs", "way", "waits", "total", "longest", "_law_td_sack", "_law_td_pick", "_law_td_ratio", "_law_td_shape"]
def gl1 : List Str := ["_law_td_wide_shape", "_law_td_counts", "_law_td_asked", "_law_td_bends", "_law_td_led", "_law_td_sum", "_law_td_comes", "_law_td_under", "_law_td_price", "_law_td_tape", "_law_td_road", "_law_td_any_shape", "_law_td_right", "law", "TapeError", "InvalidTape", "InvalidFile", "InvalidAsks", "InvalidRow", "InvalidCost"]
def gl2 : List Str := ["UnknownFile", "Tape"]
def glos : List Str := gl0 ++ gl1 ++ gl2
def frees : List Str := ["TypeError", "abs", "all", "enumerate", "int", "isinstance", "len", "list", "max", "min", "range", "repr", "tuple", "zip"]
def exs (K : PySem.W.Frag) : Bool := glos.all (gaB K) && (frees.all (frB K) && (slcB K (ga K "Tape") && (slotB K (ga K "Tape") "extent" 0 && (slotB K (ga K "Tape") "kept" 1 && (prpB K (ga K "Tape") "length" && (prpB K (ga K "Tape") "files" && (mthB K (ga K "Tape") "__len__" && (mthB K (ga K "Tape") "__getitem__" && (mthB K (ga K "Tape") "__eq__" && (mthB K (ga K "Tape") "turned" && (mthB K (ga K "Tape") "without" && ((Fa.mkr "Tape").ok K && (isiB K (ga K "Tape"))))))))))))))
abbrev R : PySem.W.OpenRow := PySem.W.OpenLaw.row PySem.Challenge.rw_tapedetours_k07_sums_and_longest_waits
abbrev hk : PySem.W.Hook := hookTd 5 exs fs
def ob (s : PySem.W.SharedT) : AlTd := obsTdG 5 exs fs (HandSHeadRun.getT s)
theorem ob_eq (s : PySem.W.SharedT) : ob s = hk.obs s.abs := obsTdG_eq (HandSHeadRun.getT_eq s)
def lo0 : List Str := ["__name__", "TapeError", "InvalidTape", "InvalidFile", "InvalidAsks", "InvalidRow", "InvalidCost", "UnknownFile", "lowest", "is_fraction", "is_less", "worth", "asked_files", "are_asks", "is_row", "is_cost", "check_asks", "check_row", "check_cost", "fresh_runs"]
def lo1 : List Str := ["way", "waits", "total", "longest", "Tape", "_law_td_sack", "_law_td_pick", "_law_td_ratio", "_law_td_shape", "_law_td_wide_shape", "_law_td_counts", "_law_td_asked", "_law_td_bends", "_law_td_led", "_law_td_sum", "_law_td_comes", "_law_td_under", "_law_td_price", "_law_td_tape", "_law_td_road"]
def lo2 : List Str := ["_law_td_any_shape", "_law_td_right"]
def loose : List Str := lo0 ++ lo1 ++ lo2
theorem run (w : World) : HandSHeadRun.RunEq R (PySem.W.view R.prog [47]) hk ob 20000 loose w := by
  intro os
  kernel_rfl
end Hd

set_option Elab.async false
set_option linter.all false
set_option maxRecDepth 100000
set_option maxHeartbeats 4000000
namespace Tk
open PySem PySem.Spec PyProof.Rows L2 He Td
def o_Tape_DlenD (u : (Int × List (Int × Int))) : SM Unit (Fl Empty Empty Int) := (bnd (bnd (bnd (ret u) fun a1 => ret a1.2) fun a2 => ret ((a2).length : Int)) fun a3 => ret (.rt a3))
def m_Tape_DlenD (u : (Int × List (Int × Int))) : SM Unit Int := runB (o_Tape_DlenD u)
def o_Tape_DinitD (u : (Int × (List (Int × Int)))) : SM TS0 (Fl Unit Empty Unit) := (bnd (bnd (ret u.1) fun a4 => bnd (ret 1) fun a5 => ret (decide (a4 < a5))) fun k6 => if k6 then esc stk else (bnd (ret 0) fun v_edge7 => (bnd (ret u.2) fun xs => lpM (forM_ xs (fun (l8 : Int) x9 => (bnd (bnd (bnd (ret l8) fun a10 => bnd (ret x9.1) fun a11 => if decide (a10 ≤ a11) then bnd (ret x9.2) fun a12 => if decide (a11 < a12) then bnd (ret u.1) fun a13 => ret (decide (a12 ≤ a13)) else ret false else ret false) fun k14 => ret (!k14)) fun k15 => if k15 then esc stk else (bnd (ret x9.2) fun v_edge16 => (ret (.nx v_edge16))))) v_edge7) fun l8 => (bnd (ret u.1) fun a17 => bnd (setExt a17) fun _ => (bnd (bnd (ret u.2) fun a18 => ret a18) fun a19 => bnd (setKept a19) fun _ => (ret (.nx ())))))))
def m_Tape_DinitD (u : (Int × (List (Int × Int)))) : SM TS0 Unit := runP (o_Tape_DinitD u)
def o_Tape_DeqD (u : ((Int × List (Int × Int)) × (Int × List (Int × Int)))) : SM Unit (Fl Empty Empty Bool) := (bnd (bnd (bnd (ret u.2) fun a20 => ret true) fun a32 => if a32 then (bnd (bnd (bnd (ret u.1) fun a25 => ret a25.1) fun a23 => bnd (bnd (ret u.2) fun a26 => ret a26.1) fun a24 => ret (decide (a23 = a24))) fun a31 => if a31 then (bnd (bnd (ret u.1) fun a27 => ret a27.2) fun a29 => bnd (bnd (ret u.2) fun a28 => ret a28.2) fun a30 => eqD ((dTL (dP PyData.int PyData.int)) a29) ((dTL (dP PyData.int PyData.int)) a30)) else ret false) else ret false) fun a33 => ret (.rt a33))
def m_Tape_DeqD (u : ((Int × List (Int × Int)) × (Int × List (Int × Int)))) : SM Unit Bool := runB (o_Tape_DeqD u)
def o_Tape_DgetitemD (u : ((Int × List (Int × Int)) × Int)) : SM Unit (Fl Empty Empty (Int × Int)) := (bnd (bnd (bnd (ret 0) fun a36 => bnd (ret u.2) fun a37 => if decide (a36 ≤ a37) then bnd (bnd (bnd (ret u.1) fun a34 => ret a34.2) fun a35 => ret ((a35).length : Int)) fun a38 => ret (decide (a37 < a38)) else ret false) fun k39 => ret (!k39)) fun k40 => if k40 then esc stk else (bnd (bnd (bnd (ret u.1) fun a41 => ret a41.2) fun a42 => bnd (ret u.2) fun a43 => ixM a42 a43) fun a44 => ret (.rt a44)))
def m_Tape_DgetitemD (u : ((Int × List (Int × Int)) × Int)) : SM Unit (Int × Int) := runB (o_Tape_DgetitemD u)
def o__law_td_sack (u : ((List Int) × Int)) : SM Unit (Fl Empty Empty (List Int)) := (bnd (bnd (bnd (ret u.2) fun a47 => bnd (bnd (ret u.1) fun a46 => ret ((a46).length : Int)) fun a48 => ret (decide (a47 < a48))) fun k51 => if k51 then (bnd (ret u.1) fun a49 => bnd (ret u.2) fun a50 => ixM a49 a50) else (ret 0)) fun v_law_cell45 => (bnd (bnd (bnd (bnd (ret 0) fun a114 => bnd (bnd (bnd (ret v_law_cell45) fun a108 => ret (if a108 < 0 then -a108 else a108)) fun a112 => bnd (bnd (ret 10) fun a110 => bnd (ret 18) fun a111 => powM a110 a111) fun a113 => ret (a112 - a113)) fun a115 => ret (if a115 > a114 then a115 else a114)) fun a104 => bnd (bnd (bnd (bnd (bnd (bnd (bnd (ret v_law_cell45) fun a86 => bnd (ret 52361) fun a87 => mulM a86 a87) fun a90 => bnd (bnd (ret u.2) fun a88 => bnd (ret 9176429) fun a89 => mulM a88 a89) fun a91 => ret (a90 + a91)) fun a92 => bnd (ret 7919) fun a93 => ret (a92 + a93)) fun a94 => ret a94) fun a102 => bnd (bnd (bnd (ret 10) fun a98 => bnd (ret 36) fun a99 => powM a98 a99) fun a100 => bnd (ret 67) fun a101 => ret (a100 + a101)) fun a103 => modM a102 a103) fun a54 => bnd (bnd (ret 0) fun a52 => bnd (ret []) fun l53 => ret (a52 :: l53)) fun l55 => ret (a54 :: l55)) fun l105 => ret (a104 :: l105)) fun l116 => bnd (lenG l116) fun _ => ret l116) fun a117 => ret (.rt a117)))
def m__law_td_sack (u : ((List Int) × Int)) : SM Unit (List Int) := runB (o__law_td_sack u)
def o_asked_files (u : (List Int)) : SM Unit (Fl Empty Empty (List Int)) := (bnd (bnd (bnd (ret u) fun a118 => ret (enum a118)) fun xs => lcM (fun x119 => lcIt (bnd (ret x119.2) fun a120 => bnd (ret 0) fun a121 => ret (decide (a121 < a120))) (ret x119.1)) [] xs) fun a122 => ret (.rt a122))
def m_asked_files (u : (List Int)) : SM Unit (List Int) := runB (o_asked_files u)
def o_fresh_runs (u : ((List Int) × (List (Int × Int)))) : SM Unit (Fl Empty Empty (List (List Int))) := (bnd (bnd (bnd (ret u.1) fun a123 => bnd (ret ()) fun a124 => ret (a123, a124)) fun q125 => lft (m_asked_files q125.1)) fun v_unread127 => (bnd (bnd (ret []) fun l126 => bnd (lenG l126) fun _ => ret l126) fun v_runs128 => (bnd (ret u.2) fun xs => lpM (forM_ xs (fun (l129 : ((List (List Int)) × (List Int))) x130 => (bnd (bnd (ret l129.2) fun xs => lcM (fun x131 => lcIt (bnd (ret x130.1) fun a132 => bnd (ret x131) fun a133 => if decide (a132 ≤ a133) then bnd (ret x130.2) fun a134 => ret (decide (a133 ≤ a134)) else ret false) (ret x131)) [] xs) fun a135 => bnd (pushM l129.1 a135) fun v_runs136 => (bnd (bnd (ret l129.2) fun xs => lcM (fun x138 => lcIt (bnd (bnd (ret x130.1) fun a139 => bnd (ret x138) fun a140 => if decide (a139 ≤ a140) then bnd (ret x130.2) fun a141 => ret (decide (a140 ≤ a141)) else ret false) fun k142 => ret (!k142)) (ret x138)) [] xs) fun v_unread137 => (ret (.nx (v_runs136, v_unread137)))))) (v_runs128, v_unread127)) fun l129 => (bnd (bnd (bnd (ret ()) fun a145 => bnd (bnd (ret l129.2) fun a143 => bnd (ret []) fun l144 => ret (a143 :: l144)) fun l146 => ret (l129.1 ++ l146)) fun l147 => bnd (lenG l147) fun _ => ret l147) fun a148 => ret (.rt a148)))))
def m_fresh_runs (u : ((List Int) × (List (Int × Int)))) : SM Unit (List (List Int)) := runB (o_fresh_runs u)
def o_are_asks (u : (Int × (List Int))) : SM Unit (Fl Empty Empty Bool) := (bnd (bnd (bnd (bnd (ret u.2) fun a152 => ret ((a152).length : Int)) fun a150 => bnd (ret u.1) fun a151 => ret (decide (a150 = a151))) fun a157 => if a157 then (bnd (bnd (ret u.2) fun xs => lcM (fun x153 => lcIt (ret true) (bnd (ret x153) fun a154 => bnd (ret 0) fun a155 => ret (decide (a155 ≤ a154)))) [] xs) fun a156 => ret ((a156).all id)) else ret false) fun a158 => ret (.rt a158))
def m_are_asks (u : (Int × (List Int))) : SM Unit Bool := runB (o_are_asks u)
def o_check_asks (u : ((Int × List (Int × Int)) × (List Int))) : SM Unit (Fl Unit Empty Unit) := (bnd (bnd (bnd (bnd (bnd (ret u.1) fun a169 => bnd (nxc (lft (m_Tape_DlenD a169))) fun a170 => bnd (grd (0 ≤ a170 ∧ a170 < 2 ^ 63)) fun _ => ret a170) fun a173 => bnd (bnd (ret u.2) fun a171 => bnd (ret ()) fun a172 => ret (a171, a172)) fun a174 => ret (a173, a174)) fun q175 => lft (m_are_asks (q175.1, q175.2.1))) fun k176 => ret (!k176)) fun k177 => if k177 then esc stk else (ret (.nx ())))
def m_check_asks (u : ((Int × List (Int × Int)) × (List Int))) : SM Unit Unit := runP (o_check_asks u)
def o_is_row (u : ((List Int) × (List (Int × Int)))) : SM Unit (Fl Empty Empty Bool) := (bnd (bnd (ret u.1) fun a179 => ret ((a179).length : Int)) fun v_edge178 => (bnd (bnd (bnd (ret u.1) fun a181 => bnd (ret ()) fun a182 => ret (a181, a182)) fun q183 => lft (m_asked_files q183.1)) fun v_asked180 => (bnd (ret u.2) fun xs => lpM (forM_ xs (fun (l184 : Int) x185 => (bnd (bnd (bnd (bnd (ret v_asked180) fun a186 => ret (!(a186).isEmpty)) fun k187 => ret (!k187)) fun k199 => if k199 then ret true else (bnd (bnd (bnd (bnd (ret v_asked180) fun a188 => bnd (ret 0) fun a189 => ixM a188 a189) fun a191 => bnd (ret x185.1) fun a192 => if decide (a191 < a192) then bnd (ret x185.2) fun a193 => if decide (a192 ≤ a193) then bnd (bnd (ret u.1) fun a190 => ret ((a190).length : Int)) fun a194 => ret (decide (a193 < a194)) else ret false else ret false) fun k195 => ret (!k195)) fun k198 => if k198 then ret true else (bnd (ret x185.1) fun a196 => bnd (ret l184) fun a197 => ret (decide (a197 ≤ a196))))) fun k200 => if k200 then esc (bnd (ret false) fun a201 => ret (.rt a201)) else (bnd (bnd (bnd (bnd (ret u.1) fun a206 => bnd (ret x185.1) fun a207 => ixM a206 a207) fun a204 => bnd (ret 0) fun a205 => ret (decide (a204 = a205))) fun k214 => if k214 then ret true else (bnd (bnd (ret u.1) fun a212 => bnd (ret x185.2) fun a213 => ixM a212 a213) fun a210 => bnd (ret 0) fun a211 => ret (decide (a210 = a211)))) fun k215 => if k215 then esc (bnd (ret false) fun a216 => ret (.rt a216)) else (bnd (ret x185.1) fun v_edge217 => (ret (.nx v_edge217)))))) v_edge178) fun l184 => (bnd (ret true) fun a218 => ret (.rt a218)))))
def m_is_row (u : ((List Int) × (List (Int × Int)))) : SM Unit Bool := runB (o_is_row u)
def o_check_row (u : ((List Int) × (List (Int × Int)))) : SM Unit (Fl Unit Empty Unit) := (bnd (bnd (bnd (bnd (ret u.1) fun a227 => bnd (bnd (ret u.2) fun a225 => bnd (ret ()) fun a226 => ret (a225, a226)) fun a228 => ret (a227, a228)) fun q229 => lft (m_is_row (q229.1, q229.2.1))) fun k230 => ret (!k230)) fun k231 => if k231 then esc stk else (ret (.nx ())))
def m_check_row (u : ((List Int) × (List (Int × Int)))) : SM Unit Unit := runP (o_check_row u)
def o_Tape_length (u : (Int × List (Int × Int))) : SM Unit (Fl Empty Empty Int) := (bnd (bnd (ret u) fun a232 => ret a232.1) fun a233 => ret (.rt a233))
def m_Tape_length (u : (Int × List (Int × Int))) : SM Unit Int := runB (o_Tape_length u)
def o_way (u : ((Int × List (Int × Int)) × (List Int) × (List (Int × Int)))) : SM Unit (Fl Empty Empty (List Int)) := (bnd (bnd (bnd (ret u.1) fun a236 => bnd (bnd (ret u.2.1) fun a234 => bnd (ret ()) fun a235 => ret (a234, a235)) fun a237 => ret (a236, a237)) fun q238 => lft (m_check_asks (q238.1, q238.2.1))) fun _ => (bnd (bnd (bnd (ret u.2.1) fun a241 => bnd (bnd (ret u.2.2) fun a239 => bnd (ret ()) fun a240 => ret (a239, a240)) fun a242 => ret (a241, a242)) fun q243 => lft (m_check_row (q243.1, q243.2.1))) fun _ => (bnd (bnd (bnd (ret u.2.1) fun a245 => bnd (ret ()) fun a246 => ret (a245, a246)) fun q247 => lft (m_asked_files q247.1)) fun v_asked244 => (bnd (bnd (bnd (ret v_asked244) fun a248 => ret (!(a248).isEmpty)) fun k249 => ret (!k249)) fun k250 => if k250 then esc (bnd (bnd (bnd (bnd (ret u.1) fun a253 => nxc (lft (m_Tape_length a253))) fun a251 => bnd (ret []) fun l252 => ret (a251 :: l252)) fun l254 => bnd (lenG l254) fun _ => ret l254) fun a255 => ret (.rt a255)) else (bnd (bnd (ret []) fun l257 => bnd (lenG l257) fun _ => ret l257) fun v_stops256 => (bnd (ret u.2.2) fun xs => lpM (forM_ xs (fun (l258 : (List Int)) x259 => (bnd (bnd (bnd (bnd (bnd (ret u.1) fun a273 => bnd (ret x259.1) fun a274 => nxc (lft (m_Tape_DgetitemD (a273, a274)))) fun a275 => ret a275.1) fun a269 => bnd (bnd (bnd (bnd (ret u.1) fun a266 => bnd (ret x259.2) fun a267 => nxc (lft (m_Tape_DgetitemD (a266, a267)))) fun a268 => ret a268.2) fun a262 => bnd (ret []) fun l263 => ret (a262 :: l263)) fun l270 => ret (a269 :: l270)) fun l276 => bnd (lenG l276) fun _ => ret l276) fun a261 => bnd (catM l258 a261) fun v_stops260 => (ret (.nx v_stops260)))) v_stops256) fun l258 => (bnd (bnd (bnd (ret ()) fun a304 => bnd (bnd (bnd (bnd (ret u.1) fun a301 => bnd (bnd (ret v_asked244) fun a298 => bnd (ret 0) fun a299 => ixM a298 a299) fun a302 => nxc (lft (m_Tape_DgetitemD (a301, a302)))) fun a303 => ret a303.1) fun a295 => bnd (bnd (bnd (bnd (ret u.1) fun a292 => bnd (bnd (bnd (bnd (bnd (ret u.2.1) fun a282 => bnd (bnd (ret u.2.2) fun a280 => bnd (ret ()) fun a281 => ret (a280, a281)) fun a283 => ret (a282, a283)) fun q284 => lft (m_fresh_runs (q284.1, q284.2.1))) fun a285 => bnd (bnd (ret 1) fun a286 => ret (-a286)) fun a287 => ixM a285 a287) fun a288 => bnd (bnd (ret 1) fun a289 => ret (-a289)) fun a290 => ixM a288 a290) fun a293 => nxc (lft (m_Tape_DgetitemD (a292, a293)))) fun a294 => ret a294.2) fun a277 => bnd (ret []) fun l278 => ret (a277 :: l278)) fun l296 => ret (a295 :: l296)) fun l305 => ret (l258 ++ l305)) fun l306 => bnd (lenG l306) fun _ => ret l306) fun a307 => ret (.rt a307))))))))
def m_way (u : ((Int × List (Int × Int)) × (List Int) × (List (Int × Int)))) : SM Unit (List Int) := runB (o_way u)
def o_waits (u : ((Int × List (Int × Int)) × (List Int) × (List (Int × Int)))) : SM Unit (Fl Empty Empty (List (Option (Int × Int)))) := (bnd (bnd (bnd (ret u.1) fun a313 => bnd (bnd (ret u.2.1) fun a311 => bnd (bnd (ret u.2.2) fun a309 => bnd (ret ()) fun a310 => ret (a309, a310)) fun a312 => ret (a311, a312)) fun a314 => ret (a313, a314)) fun q315 => lft (m_way (q315.1, q315.2.1, q315.2.2.1))) fun v_stops308 => (bnd (bnd (ret u.2.1) fun xs => lcM (fun x317 => lcIt (ret true) (ret none)) [] xs) fun v_found316 => (bnd (ret 0) fun v_steps319 => (bnd (bnd (ret u.1) fun a318 => nxc (lft (m_Tape_length a318))) fun v_place320 => (bnd (bnd (bnd (ret u.2.1) fun a324 => bnd (bnd (ret u.2.2) fun a322 => bnd (ret ()) fun a323 => ret (a322, a323)) fun a325 => ret (a324, a325)) fun q326 => lft (m_fresh_runs (q326.1, q326.2.1))) fun v_runs321 => (bnd (bnd (ret v_stops308) fun a328 => ret (enum a328)) fun xs => lpM (forM_ xs (fun (l327 : ((List (Option (Int × Int))) × Int × Int)) x329 => (bnd (bnd (bnd (ret x329.1) fun a334 => bnd (ret 2) fun a335 => modM a334 a335) fun a332 => bnd (ret 1) fun a333 => ret (decide (a332 = a333))) fun k336 => thn_ (if k336 then (bnd (bnd (ret v_runs321) fun a367 => bnd (bnd (ret x329.1) fun a368 => bnd (ret 2) fun a369 => divM a368 a369) fun a370 => ixM a367 a370) fun xs => lpM (forM_ xs (fun (l366 : (List (Option (Int × Int)))) x371 => (bnd (bnd (bnd (bnd (bnd (ret l327.2.2) fun a384 => bnd (bnd (bnd (ret u.1) fun a381 => bnd (ret x371) fun a382 => nxc (lft (m_Tape_DgetitemD (a381, a382)))) fun a383 => ret a383.2) fun a385 => ret (a384 + a385)) fun a386 => bnd (ret l327.2.1) fun a387 => ret (a386 - a387)) fun a388 => bnd (ret x329.1) fun a389 => ret (a388, a389)) fun a390 => ret (some a390)) fun a391 => bnd (ret x371) fun a392 => bnd (setM l366 a392 a391) fun v_found393 => (ret (.nx v_found393)))) l327.1) fun l366 => (ret (.nx l366))) else (ret (.nx l327.1))) fun n365 => (bnd (bnd (bnd (ret x329.2) fun a396 => bnd (ret l327.2.1) fun a397 => ret (a396 - a397)) fun a398 => ret (if a398 < 0 then -a398 else a398)) fun a395 => bnd (ret (l327.2.2 + a395)) fun v_steps394 => (bnd (ret x329.2) fun v_place400 => (ret (.nx (n365, v_place400, v_steps394))))))) (v_found316, v_place320, v_steps319)) fun l327 => (bnd (ret l327.1) fun a401 => ret (.rt a401))))))))
def m_waits (u : ((Int × List (Int × Int)) × (List Int) × (List (Int × Int)))) : SM Unit (List (Option (Int × Int))) := runB (o_waits u)
def o_total (u : ((Int × List (Int × Int)) × (List Int) × (List (Int × Int)))) : SM Unit (Fl Empty Empty (Int × Int)) := (bnd (ret 0) fun v_steps402 => (bnd (bnd (ret u.2.1) fun a411 => bnd (bnd (bnd (ret u.1) fun a408 => bnd (bnd (ret u.2.1) fun a406 => bnd (bnd (ret u.2.2) fun a404 => bnd (ret ()) fun a405 => ret (a404, a405)) fun a407 => ret (a406, a407)) fun a409 => ret (a408, a409)) fun q410 => lft (m_waits (q410.1, q410.2.1, q410.2.2.1))) fun a412 => ret (a411.zip a412)) fun xs => lpM (forM_ xs (fun (l403 : (Int × Int)) x413 => (bnd (bnd (ret x413.2) fun a414 => ret (a414).isSome) fun k415 => thn_ (if k415 then (bnd (bnd (ret x413.1) fun a433 => bnd (bnd (bnd (ret x413.2) fun a432 => optM a432) fun a431 => ret a431.1) fun a434 => mulM a433 a434) fun a430 => bnd (ret (l403.1 + a430)) fun v_steps429 => (bnd (bnd (ret x413.1) fun a439 => bnd (bnd (bnd (ret x413.2) fun a438 => optM a438) fun a437 => ret a437.2) fun a440 => mulM a439 a440) fun a436 => bnd (ret (l403.2 + a436)) fun v_turns435 => (ret (.nx (v_steps429, v_turns435))))) else (ret (.nx (l403.1, l403.2)))) fun n428 => (ret (.nx (n428.1, n428.2))))) (v_steps402, v_steps402)) fun l403 => (bnd (bnd (ret l403.1) fun a441 => bnd (ret l403.2) fun a442 => ret (a441, a442)) fun a443 => ret (.rt a443))))
def m_total (u : ((Int × List (Int × Int)) × (List Int) × (List (Int × Int)))) : SM Unit (Int × Int) := runB (o_total u)
def o_is_less (u : ((Int × Int) × (Int × Int))) : SM Unit (Fl Empty Empty Bool) := (bnd (bnd (bnd (bnd (ret u.1) fun a445 => ret a445.1) fun a447 => bnd (bnd (ret u.2) fun a446 => ret a446.2) fun a448 => mulM a447 a448) fun a454 => bnd (bnd (bnd (ret u.2) fun a450 => ret a450.1) fun a452 => bnd (bnd (ret u.1) fun a451 => ret a451.2) fun a453 => mulM a452 a453) fun a455 => ret (decide (a454 < a455))) fun a456 => ret (.rt a456))
def m_is_less (u : ((Int × Int) × (Int × Int))) : SM Unit Bool := runB (o_is_less u)
def o_lowest (u : (Int × Int)) : SM Unit (Fl Empty Empty (Int × Int)) := (bnd (bnd (ret u.1) fun a457 => ret (if a457 < 0 then -a457 else a457)) fun v_one461 => (bnd (bnd (ret u.2) fun a459 => ret (if a459 < 0 then -a459 else a459)) fun v_other462 => (lpM (whileM_ (v_other462.natAbs + 1) (fun (l463 : (Int × Int)) => (bnd (ret l463.2) fun a464 => ret (a464 != 0))) (fun l463 => (bnd (ret l463.2) fun v_one473 => (bnd (bnd (bnd (ret l463.1) fun a467 => ret a467) fun a471 => bnd (bnd (ret l463.2) fun a469 => ret a469) fun a472 => modM a471 a472) fun v_other474 => (ret (.nx (v_one473, v_other474)))))) (v_one461, v_other462)) fun l463 => (bnd (bnd (bnd (ret u.2) fun a476 => bnd (ret 0) fun a477 => ret (decide (a477 < a476))) fun k479 => if k479 then (ret 1) else (bnd (ret 1) fun a478 => ret (-a478))) fun v_sign475 => (bnd (bnd (bnd (bnd (ret v_sign475) fun a482 => bnd (ret u.1) fun a483 => mulM a482 a483) fun a484 => bnd (ret l463.1) fun a485 => divM a484 a485) fun a492 => bnd (bnd (bnd (ret v_sign475) fun a488 => bnd (ret u.2) fun a489 => mulM a488 a489) fun a490 => bnd (ret l463.1) fun a491 => divM a490 a491) fun a493 => ret (a492, a493)) fun a494 => ret (.rt a494))))))
def m_lowest (u : (Int × Int)) : SM Unit (Int × Int) := runB (o_lowest u)
def o_worth (u : ((Int × Int) × (Int × Int))) : SM Unit (Fl Empty Empty (Int × Int)) := (bnd (ret u.1) fun w495 => (bnd (ret u.2) fun w496 => (bnd (bnd (bnd (bnd (bnd (ret w495.1) fun a499 => bnd (ret w496.2) fun a500 => mulM a499 a500) fun a503 => bnd (bnd (ret w495.2) fun a501 => bnd (ret w496.1) fun a502 => mulM a501 a502) fun a504 => ret (a503 + a504)) fun a507 => bnd (bnd (ret w496.2) fun a505 => bnd (ret ()) fun a506 => ret (a505, a506)) fun a508 => ret (a507, a508)) fun q509 => lft (m_lowest (q509.1, q509.2.1))) fun a510 => ret (.rt a510))))
def m_worth (u : ((Int × Int) × (Int × Int))) : SM Unit (Int × Int) := runB (o_worth u)
def o_is_fraction (u : (Int × Int)) : SM Unit (Fl Empty Empty Bool) := (bnd (ret u) fun w511 => (bnd (bnd (bnd (ret w511.2) fun a512 => bnd (ret 1) fun a513 => ret (decide (a513 ≤ a512))) fun a523 => if a523 then (bnd (bnd (bnd (ret w511.1) fun a516 => bnd (bnd (ret w511.2) fun a514 => bnd (ret ()) fun a515 => ret (a514, a515)) fun a517 => ret (a516, a517)) fun q518 => lft (m_lowest (q518.1, q518.2.1))) fun a521 => bnd (bnd (ret w511.1) fun a519 => bnd (ret w511.2) fun a520 => ret (a519, a520)) fun a522 => eqD ((dP PyData.int PyData.int) a521) ((dP PyData.int PyData.int) a522)) else ret false) fun a524 => ret (.rt a524)))
def m_is_fraction (u : (Int × Int)) : SM Unit Bool := runB (o_is_fraction u)
def o_is_cost (u : (Int × Int)) : SM Unit (Fl Empty Empty Bool) := (bnd (bnd (bnd (bnd (ret u) fun a525 => bnd (ret ()) fun a526 => ret (a525, a526)) fun q527 => lft (m_is_fraction q527.1)) fun a531 => if a531 then (bnd (bnd (ret u) fun a528 => ret a528.1) fun a529 => bnd (ret 0) fun a530 => ret (decide (a530 ≤ a529))) else ret false) fun a532 => ret (.rt a532))
def m_is_cost (u : (Int × Int)) : SM Unit Bool := runB (o_is_cost u)
def o_check_cost (u : (Int × Int)) : SM Unit (Fl Unit Empty Unit) := (bnd (bnd (bnd (bnd (ret u) fun a537 => bnd (ret ()) fun a538 => ret (a537, a538)) fun q539 => lft (m_is_cost q539.1)) fun k540 => ret (!k540)) fun k541 => if k541 then esc stk else (ret (.nx ())))
def m_check_cost (u : (Int × Int)) : SM Unit Unit := runP (o_check_cost u)
def o_longest (u : ((Int × List (Int × Int)) × (List Int) × (List (Int × Int)) × (Int × Int))) : SM Unit (Fl Empty Empty (Int × Int)) := (bnd (bnd (bnd (ret u.1) fun a547 => bnd (bnd (ret u.2.1) fun a545 => bnd (bnd (ret u.2.2.1) fun a543 => bnd (ret ()) fun a544 => ret (a543, a544)) fun a546 => ret (a545, a546)) fun a548 => ret (a547, a548)) fun q549 => lft (m_waits (q549.1, q549.2.1, q549.2.2.1))) fun v_told542 => (bnd (bnd (bnd (ret u.2.2.2) fun a550 => bnd (ret ()) fun a551 => ret (a550, a551)) fun q552 => lft (m_check_cost q552.1)) fun _ => (bnd (bnd (ret 0) fun a554 => bnd (ret 1) fun a555 => ret (a554, a555)) fun v_most553 => (bnd (ret v_told542) fun xs => lpM (forM_ xs (fun (l556 : (Int × Int)) x557 => (bnd (bnd (bnd (ret x557) fun a558 => ret (a558).isSome) fun k582 => if k582 then (bnd (bnd (ret l556) fun a579 => bnd (bnd (bnd (bnd (bnd (ret x557) fun a571 => optM a571) fun a574 => bnd (bnd (ret u.2.2.2) fun a572 => bnd (ret ()) fun a573 => ret (a572, a573)) fun a575 => ret (a574, a575)) fun q576 => lft (m_worth (q576.1, q576.2.1))) fun a577 => bnd (ret ()) fun a578 => ret (a577, a578)) fun a580 => ret (a579, a580)) fun q581 => lft (m_is_less (q581.1, q581.2.1))) else ret false) fun k583 => thn_ (if k583 then (bnd (bnd (bnd (bnd (ret x557) fun a593 => optM a593) fun a596 => bnd (bnd (ret u.2.2.2) fun a594 => bnd (ret ()) fun a595 => ret (a594, a595)) fun a597 => ret (a596, a597)) fun q598 => lft (m_worth (q598.1, q598.2.1))) fun v_most592 => (ret (.nx v_most592))) else (ret (.nx l556))) fun n591 => (ret (.nx n591)))) v_most553) fun l556 => (bnd (ret l556) fun a599 => ret (.rt a599))))))
def m_longest (u : ((Int × List (Int × Int)) × (List Int) × (List (Int × Int)) × (Int × Int))) : SM Unit (Int × Int) := runB (o_longest u)
def o__law_td_pick (u : Int) : SM (List Int) (Fl Empty Empty Int) := (bnd (bnd (bnd (ret 0) fun a600 => stIx a600) fun a601 => bnd (ret 1) fun a602 => ret (decide (a602 < a601))) fun k603 => if k603 then esc (bnd (bnd (bnd (bnd (ret 0) fun a608 => stIx a608) fun a609 => ret a609) fun a611 => bnd (ret u) fun a612 => modM a611 a612) fun v_law_drawn604 => (bnd (bnd (bnd (ret 0) fun a614 => stIx a614) fun a615 => bnd (ret u) fun a616 => divWM a615 a616) fun a617 => bnd (ret 0) fun a618 => bnd (stSet a618 a617) fun _ => (bnd (ret v_law_drawn604) fun a619 => ret (.rt a619)))) else (bnd (bnd (bnd (ret 2) fun a621 => stIx a621) fun a622 => bnd (ret 1) fun a623 => ret (a622 + a623)) fun a624 => bnd (ret 2) fun a625 => bnd (stSet a625 a624) fun _ => (bnd (bnd (bnd (bnd (bnd (bnd (ret 1) fun a657 => stIx a657) fun a661 => bnd (bnd (ret 1300190417) fun a659 => bnd (bnd (ret 2) fun a658 => stIx a658) fun a660 => mulWM a659 a660) fun a662 => ret (a661 + a662)) fun a663 => ret a663) fun a665 => bnd (ret 3) fun a666 => powM a665 a666) fun a673 => bnd (bnd (bnd (ret 10) fun a669 => bnd (ret 40) fun a670 => powM a669 a670) fun a671 => bnd (ret 121) fun a672 => ret (a671 + a672)) fun a674 => modM a673 a674) fun v_law_stirred626 => (bnd (bnd (bnd (bnd (bnd (ret v_law_stirred626) fun a702 => bnd (bnd (ret 15485863) fun a700 => bnd (bnd (ret 2) fun a699 => stIx a699) fun a701 => mulWM a700 a701) fun a703 => ret (a702 + a703)) fun a704 => ret a704) fun a706 => bnd (ret 2) fun a707 => powM a706 a707) fun a714 => bnd (bnd (bnd (ret 10) fun a710 => bnd (ret 36) fun a711 => powM a710 a711) fun a712 => bnd (ret 67) fun a713 => ret (a712 + a713)) fun a715 => modM a714 a715) fun v_law_stirred675 => (bnd (bnd (bnd (bnd (ret v_law_stirred675) fun a720 => bnd (ret 4096) fun a721 => divWM a720 a721) fun a722 => ret a722) fun a724 => bnd (ret u) fun a725 => modM a724 a725) fun a726 => ret (.rt a726))))))
def m__law_td_pick (u : Int) : SM (List Int) Int := runB (o__law_td_pick u)
def o__law_td_counts (u : (Int × Int × Int)) : SM (List Int) (Fl Empty Empty (List Int)) := (bnd (bnd (ret []) fun l728 => bnd (lenG l728) fun _ => ret l728) fun v_law_found727 => (bnd (bnd (ret u.1) fun a731 => bnd (rngG a731) fun _ => ret (upto 0 a731.toNat)) fun xs => lpM (forM_ xs (fun (l729 : (List Int)) x732 => (bnd (bnd (bnd (bnd (ret 0) fun a744 => bnd (bnd (ret 1) fun a742 => bnd (bnd (bnd (ret 1) fun a740 => bnd (bnd (bnd (ret ()) fun _ => bnd (bnd (ret u.2.1) fun a736 => bnd (ret ()) fun a737 => ret (a736, a737)) fun a739 => ret ((), a739)) fun q738 => m__law_td_pick q738.2.1) fun a741 => ret (a740 + a741)) fun a734 => bnd (ret []) fun l735 => ret (a734 :: l735)) fun l743 => ret (a742 :: l743)) fun l745 => ret (a744 :: l745)) fun l746 => bnd (lenG l746) fun _ => ret l746) fun a747 => bnd (bnd (bnd (ret ()) fun _ => bnd (bnd (ret 3) fun a748 => bnd (ret ()) fun a749 => ret (a748, a749)) fun a751 => ret ((), a751)) fun q750 => m__law_td_pick q750.2.1) fun a752 => ixM a747 a752) fun v_law_drawn733 => (bnd (bnd (bnd (bnd (bnd (ret l729) fun xs => lcM (fun x754 => lcIt (bnd (ret x754) fun a755 => bnd (ret 0) fun a756 => ret (decide (a756 < a755))) (ret x754)) [] xs) fun a757 => ret ((a757).length : Int)) fun a758 => bnd (ret u.2.2) fun a759 => ret (decide (a758 < a759))) fun k760 => if k760 then (ret v_law_drawn733) else (ret 0)) fun a761 => bnd (pushM l729 a761) fun v_law_found762 => (ret (.nx v_law_found762))))) v_law_found727) fun l729 => (bnd (ret l729) fun a763 => ret (.rt a763))))
def m__law_td_counts (u : (Int × Int × Int)) : SM (List Int) (List Int) := runB (o__law_td_counts u)
def o__law_td_asked (u : (List Int)) : SM Unit (Fl Empty Empty (List Int)) := (bnd (bnd (bnd (ret u) fun a764 => ret (enum a764)) fun xs => lcM (fun x765 => lcIt (bnd (ret x765.2) fun a766 => bnd (ret 0) fun a767 => ret (decide (a767 < a766))) (ret x765.1)) [] xs) fun a768 => ret (.rt a768))
def m__law_td_asked (u : (List Int)) : SM Unit (List Int) := runB (o__law_td_asked u)
def o__law_td_bends (u : (List Int)) : SM (List Int) (Fl Empty Empty (List (Int × Int))) := (bnd (bnd (bnd (ret u) fun a769 => bnd (ret ()) fun a770 => ret (a769, a770)) fun q771 => lft (m__law_td_asked q771.1)) fun v_law_asked773 => (bnd (bnd (ret []) fun l772 => bnd (lenG l772) fun _ => ret l772) fun v_law_found774 => (bnd (bnd (ret 1) fun a779 => bnd (bnd (bnd (ret ()) fun _ => bnd (bnd (ret 3) fun a775 => bnd (ret ()) fun a776 => ret (a775, a776)) fun a778 => ret ((), a778)) fun q777 => m__law_td_pick q777.2.1) fun a780 => ret (a779 + a780)) fun v_law_often785 => (bnd (bnd (bnd (ret ()) fun _ => bnd (bnd (ret 3) fun a781 => bnd (ret ()) fun a782 => ret (a781, a782)) fun a784 => ret ((), a784)) fun q783 => m__law_td_pick q783.2.1) fun v_law_far786 => (bnd (bnd (bnd (bnd (ret v_law_asked773) fun a789 => ret ((a789).length : Int)) fun a790 => bnd (ret 1) fun a791 => ret (a790 - a791)) fun a792 => bnd (ret 0) fun a793 => bnd (rngG a792) fun _ => bnd (rngG a793) fun _ => ret (dnto a792 (a792 - a793).toNat)) fun xs => lpM (forM_ xs (fun (l787 : (List (Int × Int))) x794 => (bnd (bnd (bnd (bnd (ret ()) fun _ => bnd (bnd (ret 3) fun a795 => bnd (ret ()) fun a796 => ret (a795, a796)) fun a798 => ret ((), a798)) fun q797 => m__law_td_pick q797.2.1) fun a799 => bnd (ret v_law_often785) fun a800 => ret (decide (a799 < a800))) fun k801 => thn_ (if k801 then (bnd (bnd (bnd (ret ()) fun _ => bnd (bnd (bnd (bnd (ret v_law_asked773) fun a843 => ret ((a843).length : Int)) fun a844 => bnd (ret x794) fun a845 => ret (a844 - a845)) fun a846 => bnd (ret ()) fun a847 => ret (a846, a847)) fun a849 => ret ((), a849)) fun q848 => m__law_td_pick q848.2.1) fun v_law_more841 => (bnd (bnd (bnd (ret v_law_asked773) fun a850 => bnd (ret x794) fun a851 => ixM a850 a851) fun a875 => bnd (bnd (ret v_law_asked773) fun a852 => bnd (bnd (ret x794) fun a872 => bnd (bnd (bnd (bnd (ret v_law_more841) fun a867 => bnd (bnd (ret 0) fun a865 => bnd (bnd (bnd (bnd (bnd (ret v_law_asked773) fun a860 => ret ((a860).length : Int)) fun a861 => bnd (ret 1) fun a862 => ret (a861 - a862)) fun a863 => bnd (ret x794) fun a864 => ret (a863 - a864)) fun a853 => bnd (ret []) fun l854 => ret (a853 :: l854)) fun l866 => ret (a865 :: l866)) fun l868 => ret (a867 :: l868)) fun l869 => bnd (lenG l869) fun _ => ret l869) fun a870 => bnd (ret v_law_far786) fun a871 => ixM a870 a871) fun a873 => ret (a872 + a873)) fun a874 => ixM a852 a874) fun a876 => ret (a875, a876)) fun a877 => bnd (pushM l787 a877) fun v_law_found878 => (ret (.nx v_law_found878)))) else (ret (.nx l787))) fun n840 => (ret (.nx n840)))) v_law_found774) fun l787 => (bnd (ret l787) fun a879 => ret (.rt a879)))))))
def m__law_td_bends (u : (List Int)) : SM (List Int) (List (Int × Int)) := runB (o__law_td_bends u)
def o__law_td_led (u : ((Int × (List (Int × Int))) × (List Int) × (List (Int × Int)))) : SM Unit (Fl Empty Empty (List (Option (Int × Int)))) := (bnd (bnd (ret u.2.1) fun xs => lcM (fun x880 => lcIt (ret true) (ret none)) [] xs) fun v_law_found882 => (bnd (ret 0) fun v_law_steps883 => (bnd (bnd (ret u.1) fun a881 => ret a881.1) fun v_law_spot884 => (bnd (bnd (bnd (ret u.2.1) fun a886 => bnd (ret ()) fun a887 => ret (a886, a887)) fun q888 => lft (m__law_td_asked q888.1)) fun v_law_asked885 => (bnd (bnd (ret v_law_asked885) fun a890 => bnd (bnd (ret []) fun l889 => bnd (lenG l889) fun _ => ret l889) fun a891 => eqD ((dL PyData.int) a890) ((dL PyData.int) a891)) fun k892 => if k892 then esc (bnd (ret v_law_found882) fun a893 => ret (.rt a893)) else (bnd (bnd (bnd (ret u.2.2) fun a905 => bnd (bnd (bnd (bnd (bnd (ret v_law_asked885) fun a897 => bnd (ret 0) fun a898 => ixM a897 a898) fun a902 => bnd (bnd (ret v_law_asked885) fun a899 => bnd (bnd (ret 1) fun a900 => ret (-a900)) fun a901 => ixM a899 a901) fun a903 => ret (a902, a903)) fun a895 => bnd (ret []) fun l896 => ret (a895 :: l896)) fun l904 => bnd (lenG l904) fun _ => ret l904) fun a906 => catM a905 a906) fun a907 => ret (enum a907)) fun xs => lpM (forM_ xs (fun (l894 : ((List (Option (Int × Int))) × Int × Int)) x908 => (bnd (bnd (bnd (bnd (ret u.1) fun a910 => ret a910.2) fun a911 => bnd (ret x908.2.1) fun a912 => ixM a911 a912) fun a913 => ret a913.1) fun v_law_begin909 => (bnd (bnd (bnd (ret l894.2.2) fun a917 => bnd (ret l894.2.1) fun a918 => ret (a917 + a918)) fun a919 => bnd (ret v_law_begin909) fun a920 => ret (a919 - a920)) fun v_law_steps914 => (bnd (ret v_law_asked885) fun xs => lpM (forM_ xs (fun (l921 : (List (Option (Int × Int)))) x922 => (bnd (bnd (bnd (ret x908.2.1) fun a923 => bnd (ret x922) fun a924 => if decide (a923 ≤ a924) then bnd (ret x908.2.2) fun a925 => ret (decide (a924 ≤ a925)) else ret false) fun k929 => if k929 then (bnd (bnd (ret ()) fun a926 => bnd (ret x922) fun a927 => ixM l921 a927) fun a928 => ret (a928).isNone) else ret false) fun k930 => thn_ (if k930 then (bnd (bnd (bnd (bnd (bnd (ret v_law_steps914) fun a968 => bnd (bnd (bnd (bnd (ret u.1) fun a964 => ret a964.2) fun a965 => bnd (ret x922) fun a966 => ixM a965 a966) fun a967 => ret a967.2) fun a969 => ret (a968 + a969)) fun a970 => bnd (ret v_law_begin909) fun a971 => ret (a970 - a971)) fun a978 => bnd (bnd (bnd (ret 2) fun a974 => bnd (ret x908.1) fun a975 => mulM a974 a975) fun a976 => bnd (ret 1) fun a977 => ret (a976 + a977)) fun a979 => ret (a978, a979)) fun a980 => ret (some a980)) fun a981 => bnd (ret x922) fun a982 => bnd (setM l921 a982 a981) fun v_law_found983 => (ret (.nx v_law_found983))) else (ret (.nx l921))) fun n957 => (ret (.nx n957)))) l894.1) fun l921 => (bnd (bnd (bnd (bnd (ret u.1) fun a985 => ret a985.2) fun a986 => bnd (ret x908.2.2) fun a987 => ixM a986 a987) fun a988 => ret a988.2) fun v_law_spot984 => (bnd (bnd (bnd (ret v_law_steps914) fun a992 => bnd (ret v_law_spot984) fun a993 => ret (a992 + a993)) fun a994 => bnd (ret v_law_begin909) fun a995 => ret (a994 - a995)) fun v_law_steps989 => (ret (.nx (l921, v_law_spot984, v_law_steps989))))))))) (v_law_found882, v_law_spot884, v_law_steps883)) fun l894 => (bnd (ret l894.1) fun a996 => ret (.rt a996))))))))
def m__law_td_led (u : ((Int × (List (Int × Int))) × (List Int) × (List (Int × Int)))) : SM Unit (List (Option (Int × Int))) := runB (o__law_td_led u)
def o__law_td_sum (u : ((List Int) × (List (Option (Int × Int))))) : SM Unit (Fl Empty Empty (Int × Int)) := (bnd (bnd (ret 0) fun a997 => bnd (ret 0) fun a998 => ret (a997, a998)) fun w999 => (bnd (bnd (ret u.1) fun a1001 => bnd (ret u.2) fun a1002 => ret (a1001.zip a1002)) fun xs => lpM (forM_ xs (fun (l1000 : (Int × Int)) x1003 => (bnd (bnd (ret x1003.1) fun a1004 => bnd (ret 0) fun a1005 => ret (decide (a1005 < a1004))) fun k1006 => thn_ (if k1006 then (bnd (bnd (ret l1000.1) fun a1026 => bnd (bnd (ret x1003.1) fun a1024 => bnd (bnd (bnd (ret x1003.2) fun a1023 => optM a1023) fun a1022 => ret a1022.1) fun a1025 => mulM a1024 a1025) fun a1027 => ret (a1026 + a1027)) fun v_law_steps1034 => (bnd (bnd (ret l1000.2) fun a1032 => bnd (bnd (ret x1003.1) fun a1030 => bnd (bnd (bnd (ret x1003.2) fun a1029 => optM a1029) fun a1028 => ret a1028.2) fun a1031 => mulM a1030 a1031) fun a1033 => ret (a1032 + a1033)) fun v_law_turns1035 => (ret (.nx (v_law_steps1034, v_law_turns1035))))) else (ret (.nx (l1000.1, l1000.2)))) fun n1021 => (ret (.nx (n1021.1, n1021.2))))) (w999.1, w999.2)) fun l1000 => (bnd (bnd (ret l1000.1) fun a1036 => bnd (ret l1000.2) fun a1037 => ret (a1036, a1037)) fun a1038 => ret (.rt a1038))))
def m__law_td_sum (u : ((List Int) × (List (Option (Int × Int))))) : SM Unit (Int × Int) := runB (o__law_td_sum u)
def o__law_td_ratio (u : (Int × Int)) : SM Unit (Fl Empty Empty (Int × Int)) := (bnd (bnd (ret u.1) fun a1039 => ret (if a1039 < 0 then -a1039 else a1039)) fun v_law_one1043 => (bnd (bnd (ret u.2) fun a1041 => ret (if a1041 < 0 then -a1041 else a1041)) fun v_law_other1044 => (bnd (bnd (ret 500) fun a1047 => bnd (rngG a1047) fun _ => ret (upto 0 a1047.toNat)) fun xs => lpM (forM_ xs (fun (l1045 : (Int × Int)) x1048 => (bnd (bnd (ret l1045.2) fun a1049 => bnd (ret 0) fun a1050 => ret (decide (a1049 = a1050))) fun k1051 => if k1051 then esc (ret (.bk (l1045.1, l1045.2))) else (bnd (ret l1045.2) fun v_law_one1060 => (bnd (bnd (bnd (ret l1045.1) fun a1054 => ret a1054) fun a1058 => bnd (bnd (ret l1045.2) fun a1056 => ret a1056) fun a1059 => modM a1058 a1059) fun v_law_other1061 => (ret (.nx (v_law_one1060, v_law_other1061))))))) (v_law_one1043, v_law_other1044)) fun l1045 => (bnd (bnd (bnd (ret u.2) fun a1063 => bnd (ret 0) fun a1064 => ret (decide (a1064 < a1063))) fun k1066 => if k1066 then (ret 1) else (bnd (ret 1) fun a1065 => ret (-a1065))) fun v_law_sign1062 => (bnd (bnd (bnd (bnd (ret v_law_sign1062) fun a1069 => bnd (ret u.1) fun a1070 => mulM a1069 a1070) fun a1071 => bnd (ret l1045.1) fun a1072 => divM a1071 a1072) fun a1079 => bnd (bnd (bnd (ret v_law_sign1062) fun a1075 => bnd (ret u.2) fun a1076 => mulM a1075 a1076) fun a1077 => bnd (ret l1045.1) fun a1078 => divM a1077 a1078) fun a1080 => ret (a1079, a1080)) fun a1081 => ret (.rt a1081))))))
def m__law_td_ratio (u : (Int × Int)) : SM Unit (Int × Int) := runB (o__law_td_ratio u)
def o__law_td_comes (u : ((Int × Int) × (Int × Int))) : SM Unit (Fl Empty Empty (Int × Int)) := (bnd (bnd (bnd (bnd (bnd (bnd (ret u.1) fun a1088 => ret a1088.1) fun a1090 => bnd (bnd (ret u.2) fun a1089 => ret a1089.2) fun a1091 => mulM a1090 a1091) fun a1097 => bnd (bnd (bnd (ret u.1) fun a1093 => ret a1093.2) fun a1095 => bnd (bnd (ret u.2) fun a1094 => ret a1094.1) fun a1096 => mulM a1095 a1096) fun a1098 => ret (a1097 + a1098)) fun a1102 => bnd (bnd (bnd (ret u.2) fun a1099 => ret a1099.2) fun a1100 => bnd (ret ()) fun a1101 => ret (a1100, a1101)) fun a1103 => ret (a1102, a1103)) fun q1104 => lft (m__law_td_ratio (q1104.1, q1104.2.1))) fun a1105 => ret (.rt a1105))
def m__law_td_comes (u : ((Int × Int) × (Int × Int))) : SM Unit (Int × Int) := runB (o__law_td_comes u)
def o__law_td_under (u : ((Int × Int) × (Int × Int))) : SM Unit (Fl Empty Empty Bool) := (bnd (bnd (bnd (bnd (ret u.1) fun a1107 => ret a1107.1) fun a1109 => bnd (bnd (ret u.2) fun a1108 => ret a1108.2) fun a1110 => mulM a1109 a1110) fun a1116 => bnd (bnd (bnd (ret u.2) fun a1112 => ret a1112.1) fun a1114 => bnd (bnd (ret u.1) fun a1113 => ret a1113.2) fun a1115 => mulM a1114 a1115) fun a1117 => ret (decide (a1116 < a1117))) fun a1118 => ret (.rt a1118))
def m__law_td_under (u : ((Int × Int) × (Int × Int))) : SM Unit Bool := runB (o__law_td_under u)
def o__law_td_price (u : Unit) : SM (List Int) (Fl Empty Empty (Int × Int)) := (bnd (bnd (bnd (ret ()) fun _ => bnd (bnd (bnd (bnd (bnd (ret 1) fun a1124 => bnd (bnd (ret 6) fun a1122 => bnd (bnd (ret 101) fun a1120 => bnd (ret []) fun l1121 => ret (a1120 :: l1121)) fun l1123 => ret (a1122 :: l1123)) fun l1125 => ret (a1124 :: l1125)) fun l1126 => bnd (lenG l1126) fun _ => ret l1126) fun a1127 => bnd (bnd (bnd (ret ()) fun _ => bnd (bnd (ret 3) fun a1128 => bnd (ret ()) fun a1129 => ret (a1128, a1129)) fun a1131 => ret ((), a1131)) fun q1130 => m__law_td_pick q1130.2.1) fun a1132 => ixM a1127 a1132) fun a1133 => bnd (ret ()) fun a1134 => ret (a1133, a1134)) fun a1136 => ret ((), a1136)) fun q1135 => m__law_td_pick q1135.2.1) fun v_law_above1119 => (bnd (bnd (bnd (ret v_law_above1119) fun a1158 => bnd (bnd (bnd (ret 1) fun a1154 => bnd (bnd (bnd (ret ()) fun _ => bnd (bnd (bnd (bnd (bnd (ret 1) fun a1141 => bnd (bnd (ret 5) fun a1139 => bnd (bnd (ret 100) fun a1137 => bnd (ret []) fun l1138 => ret (a1137 :: l1138)) fun l1140 => ret (a1139 :: l1140)) fun l1142 => ret (a1141 :: l1142)) fun l1143 => bnd (lenG l1143) fun _ => ret l1143) fun a1144 => bnd (bnd (bnd (ret ()) fun _ => bnd (bnd (ret 3) fun a1145 => bnd (ret ()) fun a1146 => ret (a1145, a1146)) fun a1148 => ret ((), a1148)) fun q1147 => m__law_td_pick q1147.2.1) fun a1149 => ixM a1144 a1149) fun a1150 => bnd (ret ()) fun a1151 => ret (a1150, a1151)) fun a1153 => ret ((), a1153)) fun q1152 => m__law_td_pick q1152.2.1) fun a1155 => ret (a1154 + a1155)) fun a1156 => bnd (ret ()) fun a1157 => ret (a1156, a1157)) fun a1159 => ret (a1158, a1159)) fun q1160 => lft (m__law_td_ratio (q1160.1, q1160.2.1))) fun a1161 => ret (.rt a1161)))
def m__law_td_price (u : Unit) : SM (List Int) (Int × Int) := runB (o__law_td_price u)
def o_Tape_without (u : ((Int × List (Int × Int)) × Int)) : SM Unit (Fl Empty Empty (Int × List (Int × Int))) := (bnd (bnd (bnd (ret 0) fun a1164 => bnd (ret u.2) fun a1165 => if decide (a1164 ≤ a1165) then bnd (bnd (bnd (ret u.1) fun a1162 => ret a1162.2) fun a1163 => ret ((a1163).length : Int)) fun a1166 => ret (decide (a1165 < a1166)) else ret false) fun k1167 => ret (!k1167)) fun k1168 => if k1168 then esc stk else (bnd (bnd (bnd (bnd (ret u.1) fun a1191 => ret a1191.1) fun a1216 => bnd (bnd (bnd (bnd (bnd (bnd (ret u.1) fun a1208 => ret a1208.2) fun a1209 => bnd (ret none) fun a1211 => bnd (bnd (ret u.2) fun a1210 => ret (some a1210)) fun a1212 => ret (cutL a1209 a1211 a1212)) fun a1206 => bnd (bnd (bnd (bnd (ret u.1) fun a1199 => ret a1199.2) fun a1200 => bnd (bnd (bnd (ret u.2) fun a1201 => bnd (ret 1) fun a1202 => ret (a1201 + a1202)) fun a1203 => ret (some a1203)) fun a1204 => bnd (ret none) fun a1205 => ret (cutL a1200 a1204 a1205)) fun a1197 => bnd (ret []) fun l1198 => ret (a1197 ++ l1198)) fun l1207 => ret (a1206 ++ l1207)) fun l1213 => bnd (lenG l1213) fun _ => ret l1213) fun a1214 => bnd (ret ()) fun a1215 => ret (a1214, a1215)) fun a1217 => ret (a1216, a1217)) fun q1218 => bnd (subM (m_Tape_DinitD (q1218.1, q1218.2.1)) TS0.new) fun r1219 => tapeM r1219.2) fun a1220 => ret (.rt a1220)))
def m_Tape_without (u : ((Int × List (Int × Int)) × Int)) : SM Unit (Int × List (Int × Int)) := runB (o_Tape_without u)
def o_Tape_turned (u : (Int × List (Int × Int))) : SM Unit (Fl Empty Empty (Int × List (Int × Int))) := (bnd (bnd (bnd (bnd (ret u) fun a1222 => ret a1222.2) fun a1223 => ret (a1223).reverse) fun xs => lcM (fun x1224 => lcIt (ret true) (bnd (bnd (bnd (ret u) fun a1226 => ret a1226.1) fun a1227 => bnd (ret x1224.2) fun a1228 => ret (a1227 - a1228)) fun a1233 => bnd (bnd (bnd (ret u) fun a1230 => ret a1230.1) fun a1231 => bnd (ret x1224.1) fun a1232 => ret (a1231 - a1232)) fun a1234 => ret (a1233, a1234))) [] xs) fun v_seen1221 => (bnd (bnd (bnd (bnd (ret u) fun a1235 => ret a1235.1) fun a1238 => bnd (bnd (ret v_seen1221) fun a1236 => bnd (ret ()) fun a1237 => ret (a1236, a1237)) fun a1239 => ret (a1238, a1239)) fun q1240 => bnd (subM (m_Tape_DinitD (q1240.1, q1240.2.1)) TS0.new) fun r1241 => tapeM r1241.2) fun a1242 => ret (.rt a1242)))
def m_Tape_turned (u : (Int × List (Int × Int))) : SM Unit (Int × List (Int × Int)) := runB (o_Tape_turned u)
def o__law_td_tape (u : (Int × (List (Int × Int)))) : SM Unit (Fl Empty Empty (Int × List (Int × Int))) := (bnd (bnd (bnd (ret u) fun a1244 => ret a1244.2) fun a1245 => ret a1245) fun v_law_given1243 => (bnd (bnd (bnd (bnd (ret u) fun a1247 => ret a1247.1) fun a1248 => bnd (bnd (ret ()) fun ca1248 => bnd (ret ()) fun da1248 => ret (ca1248, da1248)) fun a1249 => ret (a1248, a1249)) fun q1250 => bnd (subM (m_Tape_DinitD (q1250.1, v_law_given1243)) TS0.new) fun r1251 => tapeM r1251.2) fun v_law_made1246 => (bnd (bnd (ret 0) fun a1252 => bnd (ret 1) fun a1253 => ret (a1252, a1253)) fun a1254 => bnd (pushM v_law_given1243 a1254) fun v_law_given1255 => (bnd (ret v_law_made1246) fun a1256 => ret (.rt a1256)))))
def m__law_td_tape (u : (Int × (List (Int × Int)))) : SM Unit (Int × List (Int × Int)) := runB (o__law_td_tape u)
def o__law_td_road (u : (Int × (List (Int × Int)))) : SM (List Int) (Fl Empty Empty (Int × List (Int × Int))) := (bnd (bnd (bnd (ret ()) fun _ => bnd (bnd (ret 3) fun a1257 => bnd (ret ()) fun a1258 => ret (a1257, a1258)) fun a1260 => ret ((), a1260)) fun q1259 => m__law_td_pick q1259.2.1) fun v_law_mode1263 => (bnd (bnd (bnd (ret u) fun a1261 => ret a1261.2) fun a1262 => ret ((a1262).length : Int)) fun v_law_many1264 => (bnd (bnd (ret v_law_mode1263) fun a1265 => bnd (ret 1) fun a1266 => ret (decide (a1265 = a1266))) fun k1267 => if k1267 then esc (bnd (bnd (bnd (bnd (bnd (ret u) fun a1281 => ret a1281.1) fun a1297 => bnd (bnd (bnd (bnd (bnd (ret u) fun a1282 => ret a1282.2) fun a1283 => ret (a1283).reverse) fun xs => lcM (fun x1284 => lcIt (ret true) (bnd (bnd (bnd (ret u) fun a1286 => ret a1286.1) fun a1287 => bnd (ret x1284.2) fun a1288 => ret (a1287 - a1288)) fun a1293 => bnd (bnd (bnd (ret u) fun a1290 => ret a1290.1) fun a1291 => bnd (ret x1284.1) fun a1292 => ret (a1291 - a1292)) fun a1294 => ret (a1293, a1294))) [] xs) fun a1295 => bnd (ret ()) fun a1296 => ret (a1295, a1296)) fun a1298 => ret (a1297, a1298)) fun q1299 => bnd (subM (m_Tape_DinitD (q1299.1, q1299.2.1)) TS0.new) fun r1300 => tapeM r1300.2) fun a1301 => lft (m_Tape_turned a1301)) fun a1302 => ret (.rt a1302)) else (bnd (bnd (bnd (bnd (ret 0) fun a1304 => bnd (ret []) fun l1305 => ret (a1304 :: l1305)) fun l1306 => bnd (lenG l1306) fun _ => ret l1306) fun a1309 => bnd (bnd (bnd (ret u) fun a1307 => ret a1307.2) fun xs => lcM (fun x1308 => lcIt (ret true) (ret x1308.2)) [] xs) fun a1310 => catM a1309 a1310) fun v_law_lows1303 => (bnd (bnd (bnd (bnd (ret u) fun a1312 => ret a1312.2) fun xs => lcM (fun x1313 => lcIt (ret true) (ret x1313.1)) [] xs) fun a1318 => bnd (bnd (bnd (bnd (ret u) fun a1316 => ret a1316.1) fun a1314 => bnd (ret []) fun l1315 => ret (a1314 :: l1315)) fun l1317 => bnd (lenG l1317) fun _ => ret l1317) fun a1319 => catM a1318 a1319) fun v_law_highs1311 => (bnd (bnd (bnd (bnd (ret v_law_many1264) fun a1321 => bnd (ret 1) fun a1322 => ret (a1321 + a1322)) fun a1324 => bnd (rngG a1324) fun _ => ret (upto 0 a1324.toNat)) fun xs => lcM (fun x1325 => lcIt (bnd (bnd (ret v_law_lows1303) fun a1326 => bnd (ret x1325) fun a1327 => ixM a1326 a1327) fun a1330 => bnd (bnd (ret v_law_highs1311) fun a1328 => bnd (ret x1325) fun a1329 => ixM a1328 a1329) fun a1331 => ret (decide (a1330 < a1331))) (ret x1325)) [] xs) fun v_law_gaps1320 => (bnd (bnd (bnd (ret v_law_mode1263) fun a1332 => bnd (ret 0) fun a1333 => ret (decide (a1332 = a1333))) fun k1340 => if k1340 then ret true else (bnd (bnd (ret v_law_gaps1320) fun a1335 => bnd (bnd (ret []) fun l1334 => bnd (lenG l1334) fun _ => ret l1334) fun a1336 => eqD ((dL PyData.int) a1335) ((dL PyData.int) a1336)) fun k1339 => if k1339 then ret true else (bnd (ret v_law_many1264) fun a1337 => bnd (ret 59) fun a1338 => ret (decide (a1338 < a1337))))) fun k1341 => if k1341 then esc (bnd (bnd (bnd (ret u) fun a1342 => bnd (ret ()) fun a1343 => ret (a1342, a1343)) fun q1344 => lft (m__law_td_tape q1344.1)) fun a1345 => ret (.rt a1345)) else (bnd (bnd (ret v_law_gaps1320) fun a1347 => bnd (bnd (bnd (ret ()) fun _ => bnd (bnd (bnd (ret v_law_gaps1320) fun a1348 => ret ((a1348).length : Int)) fun a1349 => bnd (ret ()) fun a1350 => ret (a1349, a1350)) fun a1352 => ret ((), a1352)) fun q1351 => m__law_td_pick q1351.2.1) fun a1353 => ixM a1347 a1353) fun v_law_rank1346 => (bnd (bnd (bnd (bnd (ret u) fun a1378 => ret a1378.1) fun a1404 => bnd (bnd (bnd (bnd (bnd (bnd (ret u) fun a1379 => ret a1379.2) fun a1380 => bnd (ret none) fun a1382 => bnd (bnd (ret v_law_rank1346) fun a1381 => ret (some a1381)) fun a1383 => ret (cutL a1380 a1382 a1383)) fun a1393 => bnd (bnd (bnd (bnd (bnd (ret v_law_lows1303) fun a1386 => bnd (ret v_law_rank1346) fun a1387 => ixM a1386 a1387) fun a1390 => bnd (bnd (ret v_law_highs1311) fun a1388 => bnd (ret v_law_rank1346) fun a1389 => ixM a1388 a1389) fun a1391 => ret (a1390, a1391)) fun a1384 => bnd (ret []) fun l1385 => ret (a1384 :: l1385)) fun l1392 => bnd (lenG l1392) fun _ => ret l1392) fun a1394 => catM a1393 a1394) fun a1400 => bnd (bnd (bnd (ret u) fun a1395 => ret a1395.2) fun a1396 => bnd (bnd (ret v_law_rank1346) fun a1397 => ret (some a1397)) fun a1398 => bnd (ret none) fun a1399 => ret (cutL a1396 a1398 a1399)) fun a1401 => catM a1400 a1401) fun a1402 => bnd (ret ()) fun a1403 => ret (a1402, a1403)) fun a1405 => ret (a1404, a1405)) fun q1406 => bnd (subM (m_Tape_DinitD (q1406.1, q1406.2.1)) TS0.new) fun r1407 => tapeM r1407.2) fun v_law_elder1354 => (bnd (bnd (bnd (ret v_law_elder1354) fun a1418 => bnd (bnd (bnd (bnd (bnd (ret v_law_many1264) fun a1408 => bnd (ret 1) fun a1409 => ret (a1408 + a1409)) fun a1411 => bnd (rngG a1411) fun _ => ret (upto 0 a1411.toNat)) fun xs => lcM (fun x1412 => lcIt (ret true) (ret 1)) [] xs) fun a1416 => bnd (bnd (bnd (ret []) fun l1413 => bnd (lenG l1413) fun _ => ret l1413) fun a1414 => bnd (ret ()) fun a1415 => ret (a1414, a1415)) fun a1417 => ret (a1416, a1417)) fun a1419 => ret (a1418, a1419)) fun q1420 => lft (m_waits (q1420.1, q1420.2.1, q1420.2.2.1))) fun _ => (bnd (bnd (ret v_law_elder1354) fun a1421 => bnd (ret v_law_rank1346) fun a1422 => lft (m_Tape_without (a1421, a1422))) fun a1423 => ret (.rt a1423))))))))))))
def m__law_td_road (u : (Int × (List (Int × Int)))) : SM (List Int) (Int × List (Int × Int)) := runB (o__law_td_road u)
def o__law_td_shape (u : Int) : SM (List Int) (Fl Empty Empty (Int × (List (Int × Int)))) := (bnd (bnd (bnd (ret ()) fun _ => bnd (bnd (bnd (ret u) fun a1425 => bnd (ret 1) fun a1426 => ret (a1425 + a1426)) fun a1427 => bnd (ret ()) fun a1428 => ret (a1427, a1428)) fun a1430 => ret ((), a1430)) fun q1429 => m__law_td_pick q1429.2.1) fun v_law_many1424 => (bnd (bnd (ret 54) fun a1434 => bnd (bnd (ret 1) fun a1432 => bnd (ret v_law_many1424) fun a1433 => ret (if a1433 > a1432 then a1433 else a1432)) fun a1435 => divM a1434 a1435) fun v_law_top1431 => (bnd (bnd (bnd (ret ()) fun _ => bnd (bnd (ret 3) fun a1436 => bnd (ret ()) fun a1437 => ret (a1436, a1437)) fun a1439 => ret ((), a1439)) fun q1438 => m__law_td_pick q1438.2.1) fun v_law_spot1441 => (bnd (bnd (ret []) fun l1440 => bnd (lenG l1440) fun _ => ret l1440) fun v_law_found1442 => (bnd (bnd (ret v_law_many1424) fun a1445 => bnd (rngG a1445) fun _ => ret (upto 0 a1445.toNat)) fun xs => lpM (forM_ xs (fun (l1443 : ((List (Int × Int)) × Int)) x1446 => (bnd (bnd (ret 1) fun a1465 => bnd (bnd (bnd (ret ()) fun _ => bnd (bnd (bnd (bnd (bnd (ret 2) fun a1452 => bnd (bnd (bnd (ret v_law_top1431) fun a1450 => bnd (ret 2) fun a1451 => ret (a1450 - a1451)) fun a1448 => bnd (ret []) fun l1449 => ret (a1448 :: l1449)) fun l1453 => ret (a1452 :: l1453)) fun l1454 => bnd (lenG l1454) fun _ => ret l1454) fun a1455 => bnd (bnd (bnd (ret ()) fun _ => bnd (bnd (ret 2) fun a1456 => bnd (ret ()) fun a1457 => ret (a1456, a1457)) fun a1459 => ret ((), a1459)) fun q1458 => m__law_td_pick q1458.2.1) fun a1460 => ixM a1455 a1460) fun a1461 => bnd (ret ()) fun a1462 => ret (a1461, a1462)) fun a1464 => ret ((), a1464)) fun q1463 => m__law_td_pick q1463.2.1) fun a1466 => ret (a1465 + a1466)) fun v_law_size1447 => (bnd (bnd (ret l1443.2) fun a1469 => bnd (bnd (ret l1443.2) fun a1467 => bnd (ret v_law_size1447) fun a1468 => ret (a1467 + a1468)) fun a1470 => ret (a1469, a1470)) fun a1471 => bnd (pushM l1443.1 a1471) fun v_law_found1472 => (bnd (bnd (bnd (ret l1443.2) fun a1476 => bnd (ret v_law_size1447) fun a1477 => ret (a1476 + a1477)) fun a1493 => bnd (bnd (bnd (bnd (ret 0) fun a1484 => bnd (bnd (bnd (bnd (ret ()) fun _ => bnd (bnd (ret 3) fun a1480 => bnd (ret ()) fun a1481 => ret (a1480, a1481)) fun a1483 => ret ((), a1483)) fun q1482 => m__law_td_pick q1482.2.1) fun a1478 => bnd (ret []) fun l1479 => ret (a1478 :: l1479)) fun l1485 => ret (a1484 :: l1485)) fun l1486 => bnd (lenG l1486) fun _ => ret l1486) fun a1487 => bnd (bnd (bnd (ret ()) fun _ => bnd (bnd (ret 2) fun a1488 => bnd (ret ()) fun a1489 => ret (a1488, a1489)) fun a1491 => ret ((), a1491)) fun q1490 => m__law_td_pick q1490.2.1) fun a1492 => ixM a1487 a1492) fun a1494 => ret (a1493 + a1494)) fun v_law_spot1473 => (ret (.nx (v_law_found1472, v_law_spot1473))))))) (v_law_found1442, v_law_spot1441)) fun l1443 => (bnd (bnd (bnd (ret 1) fun a1501 => bnd (bnd (ret l1443.2) fun a1499 => bnd (bnd (bnd (ret ()) fun _ => bnd (bnd (ret 4) fun a1495 => bnd (ret ()) fun a1496 => ret (a1495, a1496)) fun a1498 => ret ((), a1498)) fun q1497 => m__law_td_pick q1497.2.1) fun a1500 => ret (a1499 + a1500)) fun a1502 => ret (if a1502 > a1501 then a1502 else a1501)) fun a1503 => bnd (ret l1443.1) fun a1504 => ret (a1503, a1504)) fun a1505 => ret (.rt a1505)))))))
def m__law_td_shape (u : Int) : SM (List Int) (Int × (List (Int × Int))) := runB (o__law_td_shape u)
def o__law_td_wide_shape (u : Unit) : SM (List Int) (Fl Empty Empty (Int × (List (Int × Int)))) := (bnd (bnd (bnd (ret ()) fun _ => bnd (bnd (ret 9000) fun a1506 => bnd (ret ()) fun a1507 => ret (a1506, a1507)) fun a1509 => ret ((), a1509)) fun q1508 => m__law_td_pick q1508.2.1) fun v_law_spot1511 => (bnd (bnd (ret []) fun l1510 => bnd (lenG l1510) fun _ => ret l1510) fun v_law_found1512 => (bnd (bnd (bnd (bnd (bnd (bnd (bnd (ret ()) fun _ => bnd (bnd (ret 61) fun a1522 => bnd (ret ()) fun a1523 => ret (a1522, a1523)) fun a1525 => ret ((), a1525)) fun q1524 => m__law_td_pick q1524.2.1) fun a1520 => bnd (bnd (ret 60) fun a1518 => bnd (ret []) fun l1519 => ret (a1518 :: l1519)) fun l1521 => ret (a1520 :: l1521)) fun l1526 => bnd (lenG l1526) fun _ => ret l1526) fun a1527 => bnd (bnd (bnd (ret ()) fun _ => bnd (bnd (ret 2) fun a1528 => bnd (ret ()) fun a1529 => ret (a1528, a1529)) fun a1531 => ret ((), a1531)) fun q1530 => m__law_td_pick q1530.2.1) fun a1532 => ixM a1527 a1532) fun a1534 => bnd (rngG a1534) fun _ => ret (upto 0 a1534.toNat)) fun xs => lpM (forM_ xs (fun (l1513 : ((List (Int × Int)) × Int)) x1535 => (bnd (bnd (ret 1) fun a1541 => bnd (bnd (bnd (ret ()) fun _ => bnd (bnd (ret 9000) fun a1537 => bnd (ret ()) fun a1538 => ret (a1537, a1538)) fun a1540 => ret ((), a1540)) fun q1539 => m__law_td_pick q1539.2.1) fun a1542 => ret (a1541 + a1542)) fun v_law_size1536 => (bnd (bnd (ret l1513.2) fun a1545 => bnd (bnd (ret l1513.2) fun a1543 => bnd (ret v_law_size1536) fun a1544 => ret (a1543 + a1544)) fun a1546 => ret (a1545, a1546)) fun a1547 => bnd (pushM l1513.1 a1547) fun v_law_found1548 => (bnd (bnd (bnd (ret l1513.2) fun a1552 => bnd (ret v_law_size1536) fun a1553 => ret (a1552 + a1553)) fun a1569 => bnd (bnd (bnd (bnd (ret 0) fun a1560 => bnd (bnd (bnd (bnd (ret ()) fun _ => bnd (bnd (ret 7000) fun a1556 => bnd (ret ()) fun a1557 => ret (a1556, a1557)) fun a1559 => ret ((), a1559)) fun q1558 => m__law_td_pick q1558.2.1) fun a1554 => bnd (ret []) fun l1555 => ret (a1554 :: l1555)) fun l1561 => ret (a1560 :: l1561)) fun l1562 => bnd (lenG l1562) fun _ => ret l1562) fun a1563 => bnd (bnd (bnd (ret ()) fun _ => bnd (bnd (ret 2) fun a1564 => bnd (ret ()) fun a1565 => ret (a1564, a1565)) fun a1567 => ret ((), a1567)) fun q1566 => m__law_td_pick q1566.2.1) fun a1568 => ixM a1563 a1568) fun a1570 => ret (a1569 + a1570)) fun v_law_spot1549 => (ret (.nx (v_law_found1548, v_law_spot1549))))))) (v_law_found1512, v_law_spot1511)) fun l1513 => (bnd (bnd (bnd (ret 1) fun a1577 => bnd (bnd (ret l1513.2) fun a1575 => bnd (bnd (bnd (ret ()) fun _ => bnd (bnd (ret 9000) fun a1571 => bnd (ret ()) fun a1572 => ret (a1571, a1572)) fun a1574 => ret ((), a1574)) fun q1573 => m__law_td_pick q1573.2.1) fun a1576 => ret (a1575 + a1576)) fun a1578 => ret (if a1578 > a1577 then a1578 else a1577)) fun a1579 => bnd (ret l1513.1) fun a1580 => ret (a1579, a1580)) fun a1581 => ret (.rt a1581)))))
def m__law_td_wide_shape (u : Unit) : SM (List Int) (Int × (List (Int × Int))) := runB (o__law_td_wide_shape u)
def o__law_td_any_shape (u : Unit) : SM (List Int) (Fl Empty Empty (Int × (List (Int × Int)))) := (bnd (bnd (bnd (bnd (ret ()) fun _ => bnd (bnd (ret 6) fun a1588 => bnd (ret ()) fun a1589 => ret (a1588, a1589)) fun a1591 => ret ((), a1591)) fun q1590 => m__law_td_pick q1590.2.1) fun a1586 => bnd (ret 0) fun a1587 => ret (decide (a1586 = a1587))) fun k1592 => if k1592 then esc (bnd (bnd (bnd (ret ()) fun _ => bnd (ret ()) fun a1594 => ret ((), a1594)) fun q1593 => m__law_td_wide_shape ()) fun a1595 => ret (.rt a1595)) else (bnd (bnd (bnd (ret ()) fun _ => bnd (bnd (ret 8) fun a1596 => bnd (ret ()) fun a1597 => ret (a1596, a1597)) fun a1599 => ret ((), a1599)) fun q1598 => m__law_td_shape q1598.2.1) fun a1600 => ret (.rt a1600)))
def m__law_td_any_shape (u : Unit) : SM (List Int) (Int × (List (Int × Int))) := runB (o__law_td_any_shape u)
def o__law_td_right (u : Unit) : SM (List Int) (Fl Empty Empty Bool) := (bnd (bnd (bnd (ret ()) fun _ => bnd (ret ()) fun a1603 => ret ((), a1603)) fun q1602 => m__law_td_any_shape ()) fun v_law_shape1601 => (bnd (bnd (bnd (ret ()) fun _ => bnd (bnd (ret v_law_shape1601) fun a1604 => bnd (ret ()) fun a1605 => ret (a1604, a1605)) fun a1607 => ret ((), a1607)) fun q1606 => m__law_td_road q1606.2.1) fun v_law_made1610 => (bnd (bnd (bnd (ret v_law_shape1601) fun a1608 => ret a1608.2) fun a1609 => ret ((a1609).length : Int)) fun v_law_many1611 => (bnd (bnd (bnd (ret ()) fun _ => bnd (bnd (ret v_law_many1611) fun a1634 => bnd (bnd (ret 20) fun a1632 => bnd (bnd (bnd (bnd (bnd (ret 60) fun a1621 => bnd (bnd (ret 60) fun a1619 => bnd (bnd (ret 1) fun a1617 => bnd (bnd (ret 2) fun a1615 => bnd (bnd (ret 0) fun a1613 => bnd (ret []) fun l1614 => ret (a1613 :: l1614)) fun l1616 => ret (a1615 :: l1616)) fun l1618 => ret (a1617 :: l1618)) fun l1620 => ret (a1619 :: l1620)) fun l1622 => ret (a1621 :: l1622)) fun l1623 => bnd (lenG l1623) fun _ => ret l1623) fun a1624 => bnd (bnd (bnd (ret ()) fun _ => bnd (bnd (ret 5) fun a1625 => bnd (ret ()) fun a1626 => ret (a1625, a1626)) fun a1628 => ret ((), a1628)) fun q1627 => m__law_td_pick q1627.2.1) fun a1629 => ixM a1624 a1629) fun a1630 => bnd (ret ()) fun a1631 => ret (a1630, a1631)) fun a1633 => ret (a1632, a1633)) fun a1635 => ret (a1634, a1635)) fun a1637 => ret ((), a1637)) fun q1636 => m__law_td_counts (q1636.2.1, q1636.2.2.1, q1636.2.2.2.1)) fun v_law_counts1612 => (bnd (bnd (bnd (ret ()) fun _ => bnd (bnd (ret v_law_counts1612) fun a1639 => bnd (ret ()) fun a1640 => ret (a1639, a1640)) fun a1642 => ret ((), a1642)) fun q1641 => m__law_td_bends q1641.2.1) fun v_law_bends1638 => (bnd (bnd (bnd (ret v_law_counts1612) fun a1643 => ret a1643) fun a1645 => bnd (bnd (ret v_law_bends1638) fun a1644 => ret a1644) fun a1646 => ret (a1645, a1646)) fun v_law_given1651 => (bnd (bnd (bnd (ret ()) fun _ => bnd (bnd (ret 2) fun a1647 => bnd (ret ()) fun a1648 => ret (a1647, a1648)) fun a1650 => ret ((), a1650)) fun q1649 => m__law_td_pick q1649.2.1) fun v_law_order1652 => (bnd (bnd (ret 4) fun a1657 => bnd (rngG a1657) fun _ => ret (upto 0 a1657.toNat)) fun xs => lpM (forM_ xs (fun (l1655 : ((List (Int × Int)) × ((List Int) × (List (Int × Int))))) x1658 => (bnd (bnd (bnd (ret ()) fun _ => bnd (ret ()) fun a1661 => ret ((), a1661)) fun q1660 => m__law_td_price ()) fun v_law_price1659 => (bnd (bnd (bnd (ret x1658) fun a1662 => bnd (ret 1) fun a1663 => ret (decide (a1663 < a1662))) fun k1667 => if k1667 then (bnd (ret l1655.1) fun a1665 => bnd (bnd (ret []) fun l1664 => bnd (lenG l1664) fun _ => ret l1664) fun a1666 => neD ((dL (dP PyData.int PyData.int)) a1665) ((dL (dP PyData.int PyData.int)) a1666)) else ret false) fun k1668 => thn_ (if k1668 then (bnd (bnd (bnd (ret ()) fun _ => bnd (bnd (bnd (ret l1655.1) fun a1693 => ret ((a1693).length : Int)) fun a1694 => bnd (ret ()) fun a1695 => ret (a1694, a1695)) fun a1697 => ret ((), a1697)) fun q1696 => m__law_td_pick q1696.2.1) fun v_law_spot1692 => (bnd (ret v_law_spot1692) fun a1698 => bnd (popL l1655.2.2 a1698) fun v_law_given1700 => (bnd (bnd (bnd (ret l1655.1) fun a1702 => bnd (ret none) fun a1704 => bnd (bnd (ret v_law_spot1692) fun a1703 => ret (some a1703)) fun a1705 => ret (cutL a1702 a1704 a1705)) fun a1712 => bnd (bnd (ret l1655.1) fun a1706 => bnd (bnd (bnd (ret v_law_spot1692) fun a1707 => bnd (ret 1) fun a1708 => ret (a1707 + a1708)) fun a1709 => ret (some a1709)) fun a1710 => bnd (ret none) fun a1711 => ret (cutL a1706 a1710 a1711)) fun a1713 => catM a1712 a1713) fun v_law_bends1701 => (ret (.nx (v_law_bends1701, (l1655.2.1, v_law_given1700))))))) else (ret (.nx (l1655.1, (l1655.2.1, l1655.2.2))))) fun n1691 => (bnd (bnd (bnd (bnd (bnd (ret ()) fun _ => bnd (bnd (ret 2) fun a1721 => bnd (ret ()) fun a1722 => ret (a1721, a1722)) fun a1724 => ret ((), a1724)) fun q1723 => m__law_td_pick q1723.2.1) fun a1719 => bnd (ret 0) fun a1720 => ret (decide (a1719 = a1720))) fun k1739 => if k1739 then (bnd (bnd (ret v_law_made1610) fun a1729 => bnd (bnd (ret ()) fun a1727 => bnd (bnd (ret ()) fun a1725 => bnd (ret ()) fun a1726 => ret (a1725, a1726)) fun a1728 => ret (a1727, a1728)) fun a1730 => ret (a1729, a1730)) fun q1731 => lft (m_waits (q1731.1, n1691.2.1, n1691.2.2))) else (bnd (bnd (ret v_law_shape1601) fun a1736 => bnd (bnd (ret v_law_counts1612) fun a1734 => bnd (bnd (ret n1691.1) fun a1732 => bnd (ret ()) fun a1733 => ret (a1732, a1733)) fun a1735 => ret (a1734, a1735)) fun a1737 => ret (a1736, a1737)) fun q1738 => lft (m__law_td_led (q1738.1, q1738.2.1, q1738.2.2.1)))) fun v_law_told1714 => (bnd (bnd (bnd (bnd (bnd (ret x1658) fun a1756 => bnd (ret v_law_order1652) fun a1757 => ret (a1756 + a1757)) fun a1758 => ret a1758) fun a1760 => bnd (ret 2) fun a1761 => modM a1760 a1761) fun a1750 => bnd (ret 0) fun a1751 => ret (decide (a1750 = a1751))) fun k1762 => thn_ (if k1762 then (bnd (bnd (bnd (bnd (ret ()) fun _ => bnd (bnd (ret 2) fun a1908 => bnd (ret ()) fun a1909 => ret (a1908, a1909)) fun a1911 => ret ((), a1911)) fun q1910 => m__law_td_pick q1910.2.1) fun a1906 => bnd (ret 0) fun a1907 => ret (decide (a1906 = a1907))) fun v_law_named1901 => (bnd (bnd (ret v_law_named1901) fun k1929 => if k1929 then (bnd (bnd (ret ()) fun a1918 => bnd (bnd (ret ()) fun a1916 => bnd (bnd (ret v_law_made1610) fun a1914 => bnd (ret ()) fun a1915 => ret (a1914, a1915)) fun a1917 => ret (a1916, a1917)) fun a1919 => ret (a1918, a1919)) fun q1921 => lft (m_total (q1921.2.2.1, n1691.2.1, n1691.2.2))) else (bnd (bnd (ret v_law_made1610) fun a1926 => bnd (bnd (ret ()) fun a1924 => bnd (bnd (ret ()) fun a1922 => bnd (ret ()) fun a1923 => ret (a1922, a1923)) fun a1925 => ret (a1924, a1925)) fun a1927 => ret (a1926, a1927)) fun q1928 => lft (m_total (q1928.1, n1691.2.1, n1691.2.2)))) fun v_law_answer1912 => (bnd (bnd (bnd (ret v_law_counts1612) fun a1933 => bnd (bnd (ret v_law_told1714) fun a1931 => bnd (ret ()) fun a1932 => ret (a1931, a1932)) fun a1934 => ret (a1933, a1934)) fun q1935 => lft (m__law_td_sum (q1935.1, q1935.2.1))) fun v_law_owed1930 => (ret (.nx (v_law_answer1912, v_law_named1901, v_law_owed1930)))))) else (bnd (bnd (bnd (bnd (ret ()) fun _ => bnd (bnd (ret 2) fun a1943 => bnd (ret ()) fun a1944 => ret (a1943, a1944)) fun a1946 => ret ((), a1946)) fun q1945 => m__law_td_pick q1945.2.1) fun a1941 => bnd (ret 0) fun a1942 => ret (decide (a1941 = a1942))) fun v_law_named1936 => (bnd (ret v_law_named1936) fun k1948 => thn_ (if k1948 then (bnd (bnd (bnd (ret v_law_made1610) fun a1972 => bnd (ret ()) fun a1973 => ret (a1972, a1973)) fun q1980 => bnd (bnd (ret ()) fun a1978 => bnd (bnd (ret v_law_price1659) fun a1976 => bnd (bnd (ret ()) fun a1974 => bnd (ret ()) fun a1975 => ret (a1974, a1975)) fun a1977 => ret (a1976, a1977)) fun a1979 => ret (a1978, a1979)) fun q1981 => lft (m_longest (q1980.1, n1691.2.1, n1691.2.2, q1981.2.1))) fun v_law_answer1971 => (ret (.nx v_law_answer1971))) else (bnd (bnd (bnd (ret v_law_made1610) fun a1989 => bnd (bnd (ret ()) fun a1987 => bnd (bnd (ret ()) fun a1985 => bnd (bnd (ret v_law_price1659) fun a1983 => bnd (ret ()) fun a1984 => ret (a1983, a1984)) fun a1986 => ret (a1985, a1986)) fun a1988 => ret (a1987, a1988)) fun a1990 => ret (a1989, a1990)) fun q1991 => lft (m_longest (q1991.1, n1691.2.1, n1691.2.2, q1991.2.2.2.1))) fun v_law_answer1982 => (ret (.nx v_law_answer1982)))) fun n1970 => (bnd (bnd (ret 0) fun a1993 => bnd (ret 1) fun a1994 => ret (a1993, a1994)) fun v_law_owed1992 => (bnd (ret v_law_told1714) fun xs => lpM (forM_ xs (fun (l1995 : (Int × Int)) x1996 => (bnd (bnd (bnd (ret x1996) fun a1997 => ret (a1997).isSome) fun k2021 => if k2021 then (bnd (bnd (ret l1995) fun a2018 => bnd (bnd (bnd (bnd (bnd (ret x1996) fun a2010 => optM a2010) fun a2013 => bnd (bnd (ret v_law_price1659) fun a2011 => bnd (ret ()) fun a2012 => ret (a2011, a2012)) fun a2014 => ret (a2013, a2014)) fun q2015 => lft (m__law_td_comes (q2015.1, q2015.2.1))) fun a2016 => bnd (ret ()) fun a2017 => ret (a2016, a2017)) fun a2019 => ret (a2018, a2019)) fun q2020 => lft (m__law_td_under (q2020.1, q2020.2.1))) else ret false) fun k2022 => thn_ (if k2022 then (bnd (bnd (bnd (bnd (ret x1996) fun a2032 => optM a2032) fun a2035 => bnd (bnd (ret v_law_price1659) fun a2033 => bnd (ret ()) fun a2034 => ret (a2033, a2034)) fun a2036 => ret (a2035, a2036)) fun q2037 => lft (m__law_td_comes (q2037.1, q2037.2.1))) fun v_law_owed2031 => (ret (.nx v_law_owed2031))) else (ret (.nx l1995))) fun n2030 => (ret (.nx n2030)))) v_law_owed1992) fun l1995 => (ret (.nx (n1970, v_law_named1936, l1995)))))))) fun n1900 => (bnd (bnd (bnd (bnd (ret n1900.1) fun a2042 => reprM ((dP PyData.int PyData.int) a2042)) fun a2040 => bnd (bnd (ret n1900.2.2) fun a2043 => reprM ((dP PyData.int PyData.int) a2043)) fun a2041 => ret (!decide (a2040 = a2041))) fun k2048 => if k2048 then ret true else (bnd (ret ()) fun a2046 => bnd (bnd (ret v_law_counts1612) fun a2044 => bnd (ret n1691.1) fun a2045 => ret (a2044, a2045)) fun a2047 => neD ((dP (dL PyData.int) (dL (dP PyData.int PyData.int))) (n1691.2.1, n1691.2.2)) ((dP (dL PyData.int) (dL (dP PyData.int PyData.int))) a2047))) fun k2049 => if k2049 then esc (bnd (ret false) fun a2050 => ret (.rt a2050)) else (ret (.nx (n1691.1, (n1691.2.1, n1691.2.2)))))))))) (v_law_bends1638, (v_law_given1651.1, v_law_given1651.2))) fun l1655 => (bnd (bnd (ret v_law_made1610) fun a2060 => bnd (bnd (bnd (bnd (ret v_law_shape1601) fun a2063 => ret a2063.1) fun a2067 => bnd (bnd (bnd (ret v_law_shape1601) fun a2064 => ret a2064.2) fun a2065 => bnd (ret ()) fun a2066 => ret (a2065, a2066)) fun a2068 => ret (a2067, a2068)) fun q2069 => bnd (subM (m_Tape_DinitD (q2069.1, q2069.2.1)) TS0.new) fun r2070 => tapeM r2070.2) fun a2061 => nxc (lft (m_Tape_DeqD (a2060, a2061)))) fun a2071 => ret (.rt a2071))))))))))
def m__law_td_right (u : Unit) : SM (List Int) Bool := runB (o__law_td_right u)
def o_law (u : (List Int)) : SM Unit (Fl Empty Empty Bool) := (bnd (bnd (bnd (ret 1) fun a2076 => bnd (bnd (ret 6) fun a2074 => bnd (bnd (ret u) fun a2073 => ret ((a2073).length : Int)) fun a2075 => ret (if a2075 < a2074 then a2075 else a2074)) fun a2077 => ret (if a2077 > a2076 then a2077 else a2076)) fun a2079 => bnd (rngG a2079) fun _ => ret (upto 0 a2079.toNat)) fun xs => lpM (forM_ xs (fun (l2072 : Unit) x2080 => (bnd (bnd (bnd (bnd (bnd (bnd (ret u) fun a2094 => bnd (bnd (ret x2080) fun a2092 => bnd (ret ()) fun a2093 => ret (a2092, a2093)) fun a2095 => ret (a2094, a2095)) fun q2096 => lft (m__law_td_sack (q2096.1, q2096.2.1))) fun a2097 => bnd (ret ()) fun a2098 => ret (a2097, a2098)) fun q2091 => bnd (subM (m__law_td_right ()) q2091.1) fun r2099 => ret r2099.1) fun k2100 => ret (!k2100)) fun k2101 => if k2101 then esc (bnd (ret false) fun a2102 => ret (.rt a2102)) else (ret (.nx ())))) ()) fun l2072 => (bnd (ret true) fun a2103 => ret (.rt a2103)))
def m_law (u : (List Int)) : SM Unit Bool := runB (o_law u)
end Tk

set_option Elab.async false
set_option linter.all false
set_option maxRecDepth 100000
set_option maxHeartbeats 4000000
namespace Tk
open PySem PySem.Spec PyProof.Rows L2 He Td
section
variable {P : Program} {w : World} {K : PySem.W.Frag} {mg : Str → Option Value} {base : Heap} {fd : FuncData}
theorem sc_Tape_DlenD : FnScope ["self"] ["self"] (defScope (Hd.ms 28 4)) := ⟨rfl, rfl, rfl, by decide +kernel, rfl, by decide +kernel, by decide +kernel⟩
theorem ok_Tape_DlenD (f_len : mg "len" = none) (t_cls : TapeCls K) (FD : FunD K "__len__" "Tape.__len__" (defArgs (Hd.ms 28 4)) (defBody (Hd.ms 28 4)) (defScope (Hd.ms 28 4)) [] [] (He.ma K (tapeC K) "__len__") fd) : FnOk P w K mg base (L2.CX P w) 1 (He.ma K (tapeC K) "__len__") fd ["self"] (SpP K 1 (fun u : (Int × List (Int × Int)) => [.is (sh rTape) u]) rInt m_Tape_DlenD) :=
  fn_pure (k := 0) FD sc_Tape_DlenD o_Tape_DlenD (fun _ => rfl) fun u cdv A outer s H E hr F hio hW => ⟨_, (bx_nf (fun s => [.is (sh rTape) u]) (fun _ => rfl) (bx_ret (ex_lenT (eo_t (ex_kept t_cls (eo_t (ex_var 0 cp_sh fun _ => rfl)) fun _ _ => .ts)) (fun _ _ => .t) rfl f_len) (wio hio fun _ => (.un .nil))))⟩
theorem sc_Tape_DinitD : FnScope ["self", "length", "files", "begin", "edge", "end"] ["self", "length", "files"] (defScope (Hd.ms 28 1)) := ⟨rfl, rfl, rfl, by decide +kernel, rfl, by decide +kernel, by decide +kernel⟩
theorem ok_Tape_DinitD (f_tuple : mg "tuple" = none) (t_cls : TapeCls K) (FD : FunD K "__init__" "Tape.__init__" (defArgs (Hd.ms 28 1)) (defBody (Hd.ms 28 1)) (defScope (Hd.ms 28 1)) [] [] (He.ma K (tapeC K) "__init__") fd) : FnOk P w K mg base (L2.CX P w) 1 (He.ma K (tapeC K) "__init__") fd ["self", "length", "files"] (SpI K 3 rSelf (fun u : (Int × (List (Int × Int))) => [.is rInt u.1, .is (sh (rList (rPair rInt rInt))) u.2]) rNon m_Tape_DinitD) :=
  fn_ioP (k := 0) FD sc_Tape_DinitD o_Tape_DinitD (fun _ => rfl) fun u v0 cdv A outer s H E hr F hio hW => ⟨_, (bx_nf (fun s => [.pn v0 rSelf s, .is rInt u.1, .is (sh (rList (rPair rInt rInt))) u.2, .un, .un, .un]) (fun _ => rfl) (bx_ifr (GE_ := fun e _ => e.elim) (et_cmp op_lt (vo_B0 fun i j => decide (i < j)) (fun _ _ => stl_ret _) (ex_var 1 cp_int fun _ => rfl) ex_int rfl) (bx_nf (fun s => [.pn v0 rSelf s, .is rInt u.1, .is (sh (rList (rPair rInt rInt))) u.2, .un, .un, .un]) (fun _ => rfl) bx_no) (bx_nf (fun s => [.pn v0 rSelf s, .is rInt u.1, .is (sh (rList (rPair rInt rInt))) u.2, .un, .un, .un]) (fun _ => rfl) (bx_asg 4 sc_Tape_DinitD.nd ex_int (fun v_edge7 => (bx_nf (fun s => [.pn v0 rSelf s, .is rInt u.1, .is (sh (rList (rPair rInt rInt))) u.2, .un, .is rInt v_edge7, .un]) (fun _ => rfl) (bx_for (Gt := fun (l8 : Int) s (x9 : (Int × Int)) => [.pn v0 rSelf s, .is rInt u.1, .is (sh (rList (rPair rInt rInt))) u.2, .is rInt x9.1, .is rInt l8, .is rInt x9.2]) (passes_of rfl) rfl (fun (l8 : Int) s => [.pn v0 rSelf s, .is rInt u.1, .is (sh (rList (rPair rInt rInt))) u.2, .un, .is rInt l8, .un]) v_edge7 (ei_sh (ex_var 2 cp_sh fun _ => rfl) (cp_pair cp_int cp_int)) (fun _ => (.eq (.eq (.eq (.eq (.eq (.eq .nil))))))) (fun _ _ => trivial) (fun l8 _ => (eg_pair rfl (eg_name (i := 3) rfl sc_Tape_DinitD.nd) (fun _ => (eg_name (i := 5) rfl sc_Tape_DinitD.nd)) inferInstance)) (fun l8 x9 => (bx_nf (fun s => [.pn v0 rSelf s, .is rInt u.1, .is (sh (rList (rPair rInt rInt))) u.2, .is rInt x9.1, .is rInt l8, .is rInt x9.2]) (fun _ => rfl) (bx_ifr (GE_ := fun e _ => e.elim) (et_not (et_chain3 ci_le ci_lt ci_le (ex_var 4 cp_int fun _ => rfl) (ex_var 3 cp_int fun _ => rfl) (ex_var 5 cp_int fun _ => rfl) (ex_var 1 cp_int fun _ => rfl))) (bx_nf (fun s => [.pn v0 rSelf s, .is rInt u.1, .is (sh (rList (rPair rInt rInt))) u.2, .is rInt x9.1, .is rInt l8, .is rInt x9.2]) (fun _ => rfl) bx_no) (bx_nf (fun s => [.pn v0 rSelf s, .is rInt u.1, .is (sh (rList (rPair rInt rInt))) u.2, .is rInt x9.1, .is rInt l8, .is rInt x9.2]) (fun _ => rfl) (bx_asg 4 sc_Tape_DinitD.nd (ex_var 5 cp_int fun _ => rfl) (fun v_edge16 => (bx_end v_edge16 fun _ => (.eq (.eq (.eq (.un (.eq (.un .nil)))))))) inferInstance (fun _ => rfl)))))) (fun l8 => (bx_nf (fun s => [.pn v0 rSelf s, .is rInt u.1, .is (sh (rList (rPair rInt rInt))) u.2, .un, .is rInt l8, .un]) (fun _ => rfl) (bx_ext t_cls (ex_var 1 cp_int fun _ => rfl) (fun _ => rfl) (fun _ _ => rfl) (bx_nf (fun s => [.pn v0 rSelf s, .is rInt u.1, .is (sh (rList (rPair rInt rInt))) u.2, .un, .is rInt l8, .un]) (fun _ => rfl) (bx_kept t_cls (ex_tuple (eo_t (ex_var 2 cp_sh fun _ => rfl)) (cp_pair cp_int cp_int) (fun _ _ => .ts) rfl f_tuple) (fun _ => rfl) (fun _ _ => rfl) (bx_end () fun _ => (.eq (.un (.un (.eq (.un (.eq .nil)))))))))))) inferInstance inferInstance))) inferInstance (fun _ => rfl)))))⟩
theorem sc_Tape_DeqD : FnScope ["self", "other"] ["self", "other"] (defScope (Hd.ms 28 5)) := ⟨rfl, rfl, rfl, by decide +kernel, rfl, by decide +kernel, by decide +kernel⟩
theorem ok_Tape_DeqD (f_isinstance : mg "isinstance" = none) (t_cls : TapeCls K) (t_isi : SlX.SIsi K (tapeC K)) (g_Tape : mg "Tape" = some (.ref (tapeC K))) (FD : FunD K "__eq__" "Tape.__eq__" (defArgs (Hd.ms 28 5)) (defBody (Hd.ms 28 5)) (defScope (Hd.ms 28 5)) [] [] (He.ma K (tapeC K) "__eq__") fd) : FnOk P w K mg base (L2.CX P w) 1 (He.ma K (tapeC K) "__eq__") fd ["self", "other"] (SpP K 2 (fun u : ((Int × List (Int × Int)) × (Int × List (Int × Int))) => [.is (sh rTape) u.1, .is (sh rTape) u.2]) rBool m_Tape_DeqD) :=
  fn_pure (k := 0) FD sc_Tape_DeqD o_Tape_DeqD (fun _ => rfl) fun u cdv A outer s H E hr F hio hW => ⟨_, (bx_nf (fun s => [.is (sh rTape) u.1, .is (sh rTape) u.2]) (fun _ => rfl) (bx_ret (ex_and (ex_isTape t_cls t_isi (eo_t (ex_var 1 cp_sh fun _ => rfl)) (fun _ _ => .t) rfl f_isinstance rfl g_Tape) (ex_and (ex_cmp op_eq vo_eqI (fun _ _ => stl_ret _) (ex_extent t_cls (eo_t (ex_var 0 cp_sh fun _ => rfl)) fun _ _ => .ts) (ex_extent t_cls (eo_t (ex_var 1 cp_sh fun _ => rfl)) fun _ _ => .ts) rfl) (ex_one (ex_eqD hr.units (eo_t (ex_kept t_cls (eo_t (ex_var 0 cp_sh fun _ => rfl)) fun _ _ => .ts)) (eo_t (ex_kept t_cls (eo_t (ex_var 1 cp_sh fun _ => rfl)) fun _ _ => .ts)) (fun _ _ => .mk (en_TL (en_P enc_int enc_int)) .t) (fun _ _ => .mk (en_TL (en_P enc_int enc_int)) .t))))) (wio hio fun _ => (.un (.un .nil)))))⟩
theorem sc_Tape_DgetitemD : FnScope ["self", "index"] ["self", "index"] (defScope (Hd.ms 28 7)) := ⟨rfl, rfl, rfl, by decide +kernel, rfl, by decide +kernel, by decide +kernel⟩
theorem ok_Tape_DgetitemD (f_len : mg "len" = none) (t_cls : TapeCls K) (FD : FunD K "__getitem__" "Tape.__getitem__" (defArgs (Hd.ms 28 7)) (defBody (Hd.ms 28 7)) (defScope (Hd.ms 28 7)) [] [] (He.ma K (tapeC K) "__getitem__") fd) : FnOk P w K mg base (L2.CX P w) 1 (He.ma K (tapeC K) "__getitem__") fd ["self", "index"] (SpP K 2 (fun u : ((Int × List (Int × Int)) × Int) => [.is (sh rTape) u.1, .is rInt u.2]) (rPair rInt rInt) m_Tape_DgetitemD) :=
  fn_pure (k := 0) FD sc_Tape_DgetitemD o_Tape_DgetitemD (fun _ => rfl) fun u cdv A outer s H E hr F hio hW => ⟨_, (bx_nf (fun s => [.is (sh rTape) u.1, .is rInt u.2]) (fun _ => rfl) (bx_ifr (GE_ := fun e _ => e.elim) (et_not (et_chain2 ci_le ci_lt ex_int (ex_var 1 cp_int fun _ => rfl) (ex_lenT (eo_t (ex_kept t_cls (eo_t (ex_var 0 cp_sh fun _ => rfl)) fun _ _ => .ts)) (fun _ _ => .t) rfl f_len))) (bx_nf (fun s => [.is (sh rTape) u.1, .is rInt u.2]) (fun _ => rfl) bx_no) (bx_nf (fun s => [.is (sh rTape) u.1, .is rInt u.2]) (fun _ => rfl) (bx_ret (ex_ixT (eo_t (ex_kept t_cls (eo_t (ex_var 0 cp_sh fun _ => rfl)) fun _ _ => .ts)) (ex_var 1 cp_int fun _ => rfl) (cp_pair cp_int cp_int) fun _ _ => .t) (wio hio fun _ => (.un (.un .nil)))))))⟩
theorem sc__law_td_sack : FnScope ["_law_script", "_law_rank", "_law_cell"] ["_law_script", "_law_rank"] (defScope (Hd.tp 30)) := ⟨rfl, rfl, rfl, by decide +kernel, rfl, by decide +kernel, by decide +kernel⟩
theorem ok__law_td_sack (f_abs : mg "abs" = none) (f_int : mg "int" = none) (f_len : mg "len" = none) (f_max : mg "max" = none) (FD : FunD K "_law_td_sack" "_law_td_sack" (defArgs (Hd.tp 30)) (defBody (Hd.tp 30)) (defScope (Hd.tp 30)) [] [] (ga K "_law_td_sack") fd) : FnOk P w K mg base (L2.CX P w) 1 (ga K "_law_td_sack") fd ["_law_script", "_law_rank"] (SpP K 2 (fun u : ((List Int) × Int) => [.is rScr u.1, .is rInt u.2]) (rList rInt) m__law_td_sack) :=
  fn_pure (k := 0) FD sc__law_td_sack o__law_td_sack (fun _ => rfl) fun u cdv A outer s H E hr F hio hW => ⟨_, (bx_nf (fun s => [.is rScr u.1, .is rInt u.2, .un]) (fun _ => rfl) (bx_asg 2 sc__law_td_sack.nd (ex_if (et_cmp op_lt (vo_B0 fun i j => decide (i < j)) (fun _ _ => stl_ret _) (ex_var 1 cp_int fun _ => rfl) (ex_lenScr (eo_t (ex_var 0 cp_scr fun _ => rfl)) (fun _ _ => .t) rfl f_len) rfl) (ex_ixScr (eo_t (ex_var 0 cp_scr fun _ => rfl)) (ex_var 1 cp_int fun _ => rfl) fun _ _ => .t) ex_int) (fun v_law_cell45 => (bx_nf (fun s => [.is rScr u.1, .is rInt u.2, .is rInt v_law_cell45]) (fun _ => rfl) (bx_ret (ex_lst (r := rInt) (el_cons (ex_max2 ex_int (ex_bin op_sub (vo_I0 fun i j => i - j) (fun _ _ => stl_ret _) (ex_abs (ex_var 2 cp_int fun _ => rfl) rfl f_abs) (ex_bin op_powV vo_pow stl_pow ex_int ex_int)) rfl f_max) (el_cons (ex_bin op_modN vo_mod stl_mod (ex_intI (ex_bin op_add (vo_I0 fun i j => i + j) (fun _ _ => stl_ret _) (ex_bin op_add (vo_I0 fun i j => i + j) (fun _ _ => stl_ret _) (ex_bin op_mul vo_mul stl_mul (ex_var 2 cp_int fun _ => rfl) ex_int) (ex_bin op_mul vo_mul stl_mul (ex_var 1 cp_int fun _ => rfl) ex_int)) ex_int) rfl f_int) (ex_bin op_add (vo_I0 fun i j => i + j) (fun _ _ => stl_ret _) (ex_bin op_powV vo_pow stl_pow ex_int ex_int) ex_int)) (el_cons ex_int el_nil)))) (wio hio fun _ => (.un (.un (.un .nil))))))) inferInstance (fun _ => rfl)))⟩
theorem sc_asked_files : FnScope ["asks", "count", "index"] ["asks"] (defScope (Hd.tp 14)) := ⟨rfl, rfl, rfl, by decide +kernel, rfl, by decide +kernel, by decide +kernel⟩
theorem bk_asked_files_0 : BlkOk ["asks", "count", "index"] (defScope (Hd.tp 14)) { kind := .function, names := [(".0", .local), ("index", .local), ("count", .local)], isGenerator := false, isCoroutine := false, more := [] } [("index", 2), ("count", 1)] := blkOk_by (by decide +kernel)
theorem ok_asked_files (f_enumerate : mg "enumerate" = none) (FD : FunD K "asked_files" "asked_files" (defArgs (Hd.tp 14)) (defBody (Hd.tp 14)) (defScope (Hd.tp 14)) [] [] (ga K "asked_files") fd) : FnOk P w K mg base (L2.CX P w) 1 (ga K "asked_files") fd ["asks"] (SpP K 1 (fun u : (List Int) => [.is (sh (rList rInt)) u]) (rList rInt) m_asked_files) :=
  fn_pure (k := 0) FD sc_asked_files o_asked_files (fun _ => rfl) fun u cdv A outer s H E hr F hio hW => ⟨_, (bx_nf (fun s => [.is (sh (rList rInt)) u, .un, .un]) (fun _ => rfl) (bx_ret (ex_lcU (Gt := fun s (x119 : (Int × Int)) => [.is (sh (rList rInt)) u, .is rInt x119.2, .is rInt x119.1]) s rfl sc_asked_files.nd (ei_enum (ex_var 0 cp_sh fun _ => rfl) cp_int rfl f_enumerate) (fun _ => trivial) bk_asked_files_0 (fun _ => (.cons rfl (.cons rfl .nil))) (by exact fun _ h => h) (fun _ _ => (.eq (.un (.un .nil)))) (fun _ _ _ _ _ _ => (eg_pair rfl (eg_name (i := 2) rfl sc_asked_files.nd) (fun _ => (eg_name (i := 1) rfl sc_asked_files.nd)) inferInstance)) (fun _ _ _ _ _ x119 => (ets_one (et_cmp op_gt (vo_B0 fun i j => decide (j < i)) (fun _ _ => stl_ret _) (ex_var 1 cp_int fun _ => rfl) ex_int rfl))) (fun _ _ _ _ _ x119 => (ex_var 2 cp_int fun _ => rfl)) inferInstance inferInstance) (wio hio fun _ => (.un (.eq (.eq .nil))))))⟩
theorem sc_fresh_runs : FnScope ["asks", "row", "first", "index", "last", "runs", "unread"] ["asks", "row"] (defScope (Hd.tp 22)) := ⟨rfl, rfl, rfl, by decide +kernel, rfl, by decide +kernel, by decide +kernel⟩
theorem bk_fresh_runs_0 : BlkOk ["asks", "row", "first", "index", "last", "runs", "unread"] (defScope (Hd.tp 22)) { kind := .function, names := [(".0", .local), ("index", .local), ("first", .free), ("last", .free)], isGenerator := false, isCoroutine := false, more := [] } [("index", 3)] := blkOk_by (by decide +kernel)
theorem bk_fresh_runs_1 : BlkOk ["asks", "row", "first", "index", "last", "runs", "unread"] (defScope (Hd.tp 22)) { kind := .function, names := [(".0", .local), ("index", .local), ("first", .free), ("last", .free)], isGenerator := false, isCoroutine := false, more := [] } [("index", 3)] := blkOk_by (by decide +kernel)
theorem ok_fresh_runs  {d_asked_files : FuncData} (c_asked_files : FnOk P w K mg base (L2.CX P w) 1 (ga K "asked_files") d_asked_files ["asks"] (SpP K 1 (fun u : (List Int) => [.is (sh (rList rInt)) u]) (rList rInt) m_asked_files)) (g_asked_files : mg "asked_files" = some (.ref (ga K "asked_files"))) (k_asked_files : PySem.W.keepIn K (.ref (ga K "asked_files")) = true) (b_asked_files : Binds K d_asked_files ["asks"] []) (FD : FunD K "fresh_runs" "fresh_runs" (defArgs (Hd.tp 22)) (defBody (Hd.tp 22)) (defScope (Hd.tp 22)) [] [] (ga K "fresh_runs") fd) : FnOk P w K mg base (L2.CX P w) 2 (ga K "fresh_runs") fd ["asks", "row"] (SpP K 2 (fun u : ((List Int) × (List (Int × Int))) => [.is (sh (rList rInt)) u.1, .is (sh (rList (rPair rInt rInt))) u.2]) (rList (sh (rList rInt))) m_fresh_runs) :=
  fn_pure (k := 1) FD sc_fresh_runs o_fresh_runs (fun _ => rfl) fun u cdv A outer s H E hr F hio hW => ⟨_, (bx_nf (fun s => [.is (sh (rList rInt)) u.1, .is (sh (rList (rPair rInt rInt))) u.2, .un, .un, .un, .un, .un]) (fun _ => rfl) (bx_par 6 5 sc_fresh_runs.nd rfl (by decide) (ex_freeze (ex_call (E := E) (fun q125 => q125.1) c_asked_files (hr.mono (by decide)) rfl g_asked_files k_asked_files b_asked_files (by exact passes_call (takes_of rfl rfl rfl rfl) fun _ _ _ _ h => h) (ea_cons (eo_t (ex_var 0 cp_sh fun _ => rfl)) ea_nil) (fun _ => rfl) (.inl ⟨(clo_list clo_int), fun _ _ => (.cp cp_sh .t .nil)⟩) (hWE hW) (wio hio fun _ => (.un (.un (.eq (.eq (.eq (.eq (.eq .nil)))))))))) (ex_lst (r := (sh (rList rInt))) el_nil) (fun v_unread127 v_runs128 => (bx_nf (fun s => [.is (sh (rList rInt)) u.1, .is (sh (rList (rPair rInt rInt))) u.2, .un, .un, .un, .is (rList (sh (rList rInt))) v_runs128, .is (sh (rList rInt)) v_unread127]) (fun _ => rfl) (bx_for (Gt := fun (l129 : ((List (List Int)) × (List Int))) s (x130 : (Int × Int)) => [.is (sh (rList rInt)) u.1, .is (sh (rList (rPair rInt rInt))) u.2, .is rInt x130.1, .un, .is rInt x130.2, .is (rList (sh (rList rInt))) l129.1, .is (sh (rList rInt)) l129.2]) (passes_of rfl) rfl (fun (l129 : ((List (List Int)) × (List Int))) s => [.is (sh (rList rInt)) u.1, .is (sh (rList (rPair rInt rInt))) u.2, .un, .un, .un, .is (rList (sh (rList rInt))) l129.1, .is (sh (rList rInt)) l129.2]) (v_runs128, v_unread127) (ei_sh (ex_var 1 cp_sh fun _ => rfl) (cp_pair cp_int cp_int)) (fun _ => (.eq (.eq (.eq (.eq (.eq (.eq (.eq .nil)))))))) (fun _ _ => trivial) (fun l129 _ => (eg_pair rfl (eg_name (i := 2) rfl sc_fresh_runs.nd) (fun _ => (eg_name (i := 4) rfl sc_fresh_runs.nd)) inferInstance)) (fun l129 x130 => (bx_nf (fun s => [.is (sh (rList rInt)) u.1, .is (sh (rList (rPair rInt rInt))) u.2, .is rInt x130.1, .un, .is rInt x130.2, .is (rList (sh (rList rInt))) l129.1, .is (sh (rList rInt)) l129.2]) (fun _ => rfl) (bx_app 5 (ex_freeze (ex_lcU (Gt := fun s (x131 : Int) => [.is (sh (rList rInt)) u.1, .is (sh (rList (rPair rInt rInt))) u.2, .is rInt x130.1, .is rInt x131, .is rInt x130.2, .is (rList (sh (rList rInt))) l129.1, .is (sh (rList rInt)) l129.2]) s rfl sc_fresh_runs.nd (ei_sh (ex_var 6 cp_sh fun _ => rfl) cp_int) (fun _ => trivial) bk_fresh_runs_0 (fun _ => (.cons rfl .nil)) (by exact fun _ h => h) (fun _ _ => (.eq (.eq (.eq (.un (.eq (.eq (.eq .nil)))))))) (fun _ _ _ _ _ _ => (eg_name (i := 3) rfl sc_fresh_runs.nd)) (fun _ _ _ _ _ x131 => (ets_one (et_chain2 ci_le ci_le (ex_var 2 cp_int fun _ => rfl) (ex_var 3 cp_int fun _ => rfl) (ex_var 4 cp_int fun _ => rfl)))) (fun _ _ _ _ _ x131 => (ex_var 3 cp_int fun _ => rfl)) inferInstance inferInstance)) (fun _ => rfl) (fun _ => rfl) fun v_runs136 => (bx_nf (fun s => [.is (sh (rList rInt)) u.1, .is (sh (rList (rPair rInt rInt))) u.2, .is rInt x130.1, .un, .is rInt x130.2, .is (rList (sh (rList rInt))) v_runs136, .is (sh (rList rInt)) l129.2]) (fun _ => rfl) (bx_lcS (i := 6) (Gt := fun s (x138 : Int) => [.is (sh (rList rInt)) u.1, .is (sh (rList (rPair rInt rInt))) u.2, .is rInt x130.1, .is rInt x138, .is rInt x130.2, .is (rList (sh (rList rInt))) v_runs136, .is (sh (rList rInt)) l129.2]) s rfl sc_fresh_runs.nd (ei_sh (ex_var 6 cp_sh fun _ => rfl) cp_int) (fun _ => trivial) bk_fresh_runs_1 (fun _ => (.cons rfl .nil)) (by exact fun _ h => h) (fun _ _ => (.eq (.eq (.eq (.un (.eq (.eq (.eq .nil)))))))) (fun _ _ _ _ _ _ => (eg_name (i := 3) rfl sc_fresh_runs.nd)) (fun _ _ _ _ _ x138 => (ets_one (et_not (et_chain2 ci_le ci_le (ex_var 2 cp_int fun _ => rfl) (ex_var 3 cp_int fun _ => rfl) (ex_var 4 cp_int fun _ => rfl))))) (fun _ _ _ _ _ x138 => (ex_var 3 cp_int fun _ => rfl)) inferInstance inferInstance (fun v_unread137 => (bx_end (v_runs136, v_unread137) fun _ => (.eq (.eq (.un (.eq (.un (.eq (.eq .nil))))))))) (fun _ => rfl)))))) (fun l129 => (bx_nf (fun s => [.is (sh (rList rInt)) u.1, .is (sh (rList (rPair rInt rInt))) u.2, .un, .un, .un, .is (rList (sh (rList rInt))) l129.1, .is (sh (rList rInt)) l129.2]) (fun _ => rfl) (bx_ret (ex_lst (r := (sh (rList rInt))) (el_star (eo_own (U := Unit) (a := ()) 5 fun _ => rfl) cp_sh (fun _ _ => (.v rfl)) (el_cons (ex_var 6 cp_sh fun _ => rfl) el_nil))) (wio hio fun _ => (.un (.un (.eq (.eq (.eq (.un (.un .nil))))))))))) inferInstance inferInstance))) inferInstance inferInstance (fun _ => rfl) (fun _ => rfl)))⟩
theorem sc_are_asks : FnScope ["many", "asks", "count"] ["many", "asks"] (defScope (Hd.tp 15)) := ⟨rfl, rfl, rfl, by decide +kernel, rfl, by decide +kernel, by decide +kernel⟩
theorem bk_are_asks_0 : BlkOk ["many", "asks", "count"] (defScope (Hd.tp 15)) { kind := .function, names := [(".0", .local), ("count", .local)], isGenerator := false, isCoroutine := false, more := [] } [("count", 2)] := blkOk_by (by decide +kernel)
theorem ok_are_asks (f_all : mg "all" = none) (f_len : mg "len" = none) (FD : FunD K "are_asks" "are_asks" (defArgs (Hd.tp 15)) (defBody (Hd.tp 15)) (defScope (Hd.tp 15)) [] [] (ga K "are_asks") fd) : FnOk P w K mg base (L2.CX P w) 1 (ga K "are_asks") fd ["many", "asks"] (SpP K 2 (fun u : (Int × (List Int)) => [.is rInt u.1, .is (sh (rList rInt)) u.2]) rBool m_are_asks) :=
  fn_pure (k := 0) FD sc_are_asks o_are_asks (fun _ => rfl) fun u cdv A outer s H E hr F hio hW => ⟨_, (bx_nf (fun s => [.is rInt u.1, .is (sh (rList rInt)) u.2, .un]) (fun _ => rfl) (bx_ret (ex_and (ex_cmp op_eq vo_eqI (fun _ _ => stl_ret _) (ex_len (eo_t (ex_var 1 cp_sh fun _ => rfl)) (fun _ _ => .ts) rfl f_len) (ex_var 0 cp_int fun _ => rfl) rfl) (ex_one (ex_all (eo_t (ex_lcU (Gt := fun s (x153 : Int) => [.is rInt u.1, .is (sh (rList rInt)) u.2, .is rInt x153]) s rfl sc_are_asks.nd (ei_sh (ex_var 1 cp_sh fun _ => rfl) cp_int) (fun _ => trivial) bk_are_asks_0 (fun _ => (.cons rfl .nil)) (by exact fun _ h => h) (fun _ _ => (.eq (.eq (.un .nil)))) (fun _ _ _ _ _ _ => (eg_name (i := 2) rfl sc_are_asks.nd)) (fun _ _ _ _ _ x153 => ets_nil) (fun _ _ _ _ _ x153 => (ex_cmp op_ge (vo_B0 fun i j => decide (j ≤ i)) (fun _ _ => stl_ret _) (ex_var 2 cp_int fun _ => rfl) ex_int rfl)) inferInstance inferInstance)) (fun _ _ => .t) rfl rfl f_all))) (wio hio fun _ => (.un (.un (.eq .nil))))))⟩
theorem sc_check_asks : FnScope ["tape", "asks"] ["tape", "asks"] (defScope (Hd.tp 18)) := ⟨rfl, rfl, rfl, by decide +kernel, rfl, by decide +kernel, by decide +kernel⟩
theorem ok_check_asks (f_len : mg "len" = none) (t_len : Mth K "__len__") {d_Tape_DlenD : FuncData} (c_Tape_DlenD : FnOk P w K mg base (L2.CX P w) 1 (He.ma K (tapeC K) "__len__") d_Tape_DlenD ["self"] (SpP K 1 (fun u : (Int × List (Int × Int)) => [.is (sh rTape) u]) rInt m_Tape_DlenD)) (b_Tape_DlenD : Binds K d_Tape_DlenD ["self"] []) {d_are_asks : FuncData} (c_are_asks : FnOk P w K mg base (L2.CX P w) 1 (ga K "are_asks") d_are_asks ["many", "asks"] (SpP K 2 (fun u : (Int × (List Int)) => [.is rInt u.1, .is (sh (rList rInt)) u.2]) rBool m_are_asks)) (g_are_asks : mg "are_asks" = some (.ref (ga K "are_asks"))) (k_are_asks : PySem.W.keepIn K (.ref (ga K "are_asks")) = true) (b_are_asks : Binds K d_are_asks ["many", "asks"] []) (FD : FunD K "check_asks" "check_asks" (defArgs (Hd.tp 18)) (defBody (Hd.tp 18)) (defScope (Hd.tp 18)) [] [] (ga K "check_asks") fd) : FnOk P w K mg base (L2.CX P w) 3 (ga K "check_asks") fd ["tape", "asks"] (SpP K 2 (fun u : ((Int × List (Int × Int)) × (List Int)) => [.is (sh rTape) u.1, .is (sh (rList rInt)) u.2]) rNon m_check_asks) :=
  fn_proc (k := 2) FD sc_check_asks o_check_asks (fun _ => rfl) fun u cdv A outer s H E hr F hio hW => ⟨_, (bx_nf (fun s => [.is (sh rTape) u.1, .is (sh (rList rInt)) u.2]) (fun _ => rfl) (bx_ifr (GE_ := fun e _ => e.elim) (et_not (et_val (ex_call (E := E) (fun q175 => (q175.1, q175.2.1)) c_are_asks (hr.mono (by decide)) rfl g_are_asks k_are_asks b_are_asks (by exact passes_call (takes_of rfl rfl rfl rfl) fun _ _ _ _ h => h) (ea_cons (eo_t (ex_tlen t_len c_Tape_DlenD b_Tape_DlenD (hr.mono (by decide)) (eo_t (ex_var 0 cp_sh fun _ => rfl)) (fun _ _ => .t) rfl f_len)) (ea_cons (eo_t (ex_var 1 cp_sh fun _ => rfl)) ea_nil)) (fun _ => rfl) (.inl ⟨clo_bool, fun _ _ => (.cp cp_int .t (.cp cp_sh .t .nil))⟩) (hWE hW) (wio hio fun _ => (.un (.un .nil)))))) (bx_nf (fun s => [.is (sh rTape) u.1, .is (sh (rList rInt)) u.2]) (fun _ => rfl) bx_no) (bx_end () fun _ => (.un (.un .nil)))))⟩
theorem sc_is_row : FnScope ["asks", "row", "asked", "edge", "first", "last"] ["asks", "row"] (defScope (Hd.tp 16)) := ⟨rfl, rfl, rfl, by decide +kernel, rfl, by decide +kernel, by decide +kernel⟩
theorem ok_is_row (f_len : mg "len" = none) {d_asked_files : FuncData} (c_asked_files : FnOk P w K mg base (L2.CX P w) 1 (ga K "asked_files") d_asked_files ["asks"] (SpP K 1 (fun u : (List Int) => [.is (sh (rList rInt)) u]) (rList rInt) m_asked_files)) (g_asked_files : mg "asked_files" = some (.ref (ga K "asked_files"))) (k_asked_files : PySem.W.keepIn K (.ref (ga K "asked_files")) = true) (b_asked_files : Binds K d_asked_files ["asks"] []) (FD : FunD K "is_row" "is_row" (defArgs (Hd.tp 16)) (defBody (Hd.tp 16)) (defScope (Hd.tp 16)) [] [] (ga K "is_row") fd) : FnOk P w K mg base (L2.CX P w) 2 (ga K "is_row") fd ["asks", "row"] (SpP K 2 (fun u : ((List Int) × (List (Int × Int))) => [.is (sh (rList rInt)) u.1, .is (sh (rList (rPair rInt rInt))) u.2]) rBool m_is_row) :=
  fn_pure (k := 1) FD sc_is_row o_is_row (fun _ => rfl) fun u cdv A outer s H E hr F hio hW => ⟨_, (bx_nf (fun s => [.is (sh (rList rInt)) u.1, .is (sh (rList (rPair rInt rInt))) u.2, .un, .un, .un, .un]) (fun _ => rfl) (bx_asg 3 sc_is_row.nd (ex_len (eo_t (ex_var 0 cp_sh fun _ => rfl)) (fun _ _ => .ts) rfl f_len) (fun v_edge178 => (bx_nf (fun s => [.is (sh (rList rInt)) u.1, .is (sh (rList (rPair rInt rInt))) u.2, .un, .is rInt v_edge178, .un, .un]) (fun _ => rfl) (bx_asg 2 sc_is_row.nd (ex_freeze (ex_call (E := E) (fun q183 => q183.1) c_asked_files (hr.mono (by decide)) rfl g_asked_files k_asked_files b_asked_files (by exact passes_call (takes_of rfl rfl rfl rfl) fun _ _ _ _ h => h) (ea_cons (eo_t (ex_var 0 cp_sh fun _ => rfl)) ea_nil) (fun _ => rfl) (.inl ⟨(clo_list clo_int), fun _ _ => (.cp cp_sh .t .nil)⟩) (hWE hW) (wio hio fun _ => (.un (.un (.eq (.un (.eq (.eq .nil))))))))) (fun v_asked180 => (bx_nf (fun s => [.is (sh (rList rInt)) u.1, .is (sh (rList (rPair rInt rInt))) u.2, .is (sh (rList rInt)) v_asked180, .is rInt v_edge178, .un, .un]) (fun _ => rfl) (bx_for (Gt := fun (l184 : Int) s (x185 : (Int × Int)) => [.is (sh (rList rInt)) u.1, .is (sh (rList (rPair rInt rInt))) u.2, .is (sh (rList rInt)) v_asked180, .is rInt l184, .is rInt x185.1, .is rInt x185.2]) (passes_of rfl) rfl (fun (l184 : Int) s => [.is (sh (rList rInt)) u.1, .is (sh (rList (rPair rInt rInt))) u.2, .is (sh (rList rInt)) v_asked180, .is rInt l184, .un, .un]) v_edge178 (ei_sh (ex_var 1 cp_sh fun _ => rfl) (cp_pair cp_int cp_int)) (fun _ => (.eq (.eq (.eq (.eq (.eq (.eq .nil))))))) (fun _ _ => trivial) (fun l184 _ => (eg_pair rfl (eg_name (i := 4) rfl sc_is_row.nd) (fun _ => (eg_name (i := 5) rfl sc_is_row.nd)) inferInstance)) (fun l184 x185 => (bx_nf (fun s => [.is (sh (rList rInt)) u.1, .is (sh (rList (rPair rInt rInt))) u.2, .is (sh (rList rInt)) v_asked180, .is rInt l184, .is rInt x185.1, .is rInt x185.2]) (fun _ => rfl) (bx_ifr (GE_ := fun e _ => e.elim) (et_w (ew_or (et_not (et_truL (eo_t (ex_var 2 cp_sh fun _ => rfl)) fun _ _ => .ts)) (ew_or (et_not (et_chain3 ci_lt ci_le ci_lt (ex_ix (eo_t (ex_var 2 cp_sh fun _ => rfl)) ex_int cp_int fun _ _ => .ts) (ex_var 4 cp_int fun _ => rfl) (ex_var 5 cp_int fun _ => rfl) (ex_len (eo_t (ex_var 0 cp_sh fun _ => rfl)) (fun _ _ => .ts) rfl f_len))) (ew_or1 (et_cmp op_ge (vo_B0 fun i j => decide (j ≤ i)) (fun _ _ => stl_ret _) (ex_var 4 cp_int fun _ => rfl) (ex_var 3 cp_int fun _ => rfl) rfl))))) (bx_nf (fun s => [.is (sh (rList rInt)) u.1, .is (sh (rList (rPair rInt rInt))) u.2, .is (sh (rList rInt)) v_asked180, .is rInt l184, .is rInt x185.1, .is rInt x185.2]) (fun _ => rfl) (bx_ret ex_bool (wio hio fun _ => (.un (.un (.un (.un (.un (.un .nil))))))))) (bx_nf (fun s => [.is (sh (rList rInt)) u.1, .is (sh (rList (rPair rInt rInt))) u.2, .is (sh (rList rInt)) v_asked180, .is rInt l184, .is rInt x185.1, .is rInt x185.2]) (fun _ => rfl) (bx_ifr (GE_ := fun e _ => e.elim) (et_w (ew_or (et_cmp op_eq vo_eqI (fun _ _ => stl_ret _) (ex_ix (eo_t (ex_var 0 cp_sh fun _ => rfl)) (ex_var 4 cp_int fun _ => rfl) cp_int fun _ _ => .ts) ex_int rfl) (ew_or1 (et_cmp op_eq vo_eqI (fun _ _ => stl_ret _) (ex_ix (eo_t (ex_var 0 cp_sh fun _ => rfl)) (ex_var 5 cp_int fun _ => rfl) cp_int fun _ _ => .ts) ex_int rfl)))) (bx_nf (fun s => [.is (sh (rList rInt)) u.1, .is (sh (rList (rPair rInt rInt))) u.2, .is (sh (rList rInt)) v_asked180, .is rInt l184, .is rInt x185.1, .is rInt x185.2]) (fun _ => rfl) (bx_ret ex_bool (wio hio fun _ => (.un (.un (.un (.un (.un (.un .nil))))))))) (bx_nf (fun s => [.is (sh (rList rInt)) u.1, .is (sh (rList (rPair rInt rInt))) u.2, .is (sh (rList rInt)) v_asked180, .is rInt l184, .is rInt x185.1, .is rInt x185.2]) (fun _ => rfl) (bx_asg 3 sc_is_row.nd (ex_var 4 cp_int fun _ => rfl) (fun v_edge217 => (bx_end v_edge217 fun _ => (.eq (.eq (.eq (.eq (.un (.un .nil)))))))) inferInstance (fun _ => rfl)))))))) (fun l184 => (bx_nf (fun s => [.is (sh (rList rInt)) u.1, .is (sh (rList (rPair rInt rInt))) u.2, .is (sh (rList rInt)) v_asked180, .is rInt l184, .un, .un]) (fun _ => rfl) (bx_ret ex_bool (wio hio fun _ => (.un (.un (.un (.un (.eq (.eq .nil)))))))))) inferInstance inferInstance))) inferInstance (fun _ => rfl)))) inferInstance (fun _ => rfl)))⟩
theorem sc_check_row : FnScope ["asks", "row"] ["asks", "row"] (defScope (Hd.tp 19)) := ⟨rfl, rfl, rfl, by decide +kernel, rfl, by decide +kernel, by decide +kernel⟩
theorem ok_check_row  {d_is_row : FuncData} (c_is_row : FnOk P w K mg base (L2.CX P w) 2 (ga K "is_row") d_is_row ["asks", "row"] (SpP K 2 (fun u : ((List Int) × (List (Int × Int))) => [.is (sh (rList rInt)) u.1, .is (sh (rList (rPair rInt rInt))) u.2]) rBool m_is_row)) (g_is_row : mg "is_row" = some (.ref (ga K "is_row"))) (k_is_row : PySem.W.keepIn K (.ref (ga K "is_row")) = true) (b_is_row : Binds K d_is_row ["asks", "row"] []) (FD : FunD K "check_row" "check_row" (defArgs (Hd.tp 19)) (defBody (Hd.tp 19)) (defScope (Hd.tp 19)) [] [] (ga K "check_row") fd) : FnOk P w K mg base (L2.CX P w) 3 (ga K "check_row") fd ["asks", "row"] (SpP K 2 (fun u : ((List Int) × (List (Int × Int))) => [.is (sh (rList rInt)) u.1, .is (sh (rList (rPair rInt rInt))) u.2]) rNon m_check_row) :=
  fn_proc (k := 2) FD sc_check_row o_check_row (fun _ => rfl) fun u cdv A outer s H E hr F hio hW => ⟨_, (bx_nf (fun s => [.is (sh (rList rInt)) u.1, .is (sh (rList (rPair rInt rInt))) u.2]) (fun _ => rfl) (bx_ifr (GE_ := fun e _ => e.elim) (et_not (et_val (ex_call (E := E) (fun q229 => (q229.1, q229.2.1)) c_is_row (hr.mono (by decide)) rfl g_is_row k_is_row b_is_row (by exact passes_call (takes_of rfl rfl rfl rfl) fun _ _ _ _ h => h) (ea_cons (eo_t (ex_var 0 cp_sh fun _ => rfl)) (ea_cons (eo_t (ex_var 1 cp_sh fun _ => rfl)) ea_nil)) (fun _ => rfl) (.inl ⟨clo_bool, fun _ _ => (.cp cp_sh .t (.cp cp_sh .t .nil))⟩) (hWE hW) (wio hio fun _ => (.un (.un .nil)))))) (bx_nf (fun s => [.is (sh (rList rInt)) u.1, .is (sh (rList (rPair rInt rInt))) u.2]) (fun _ => rfl) bx_no) (bx_end () fun _ => (.un (.un .nil)))))⟩
theorem sc_Tape_length : FnScope ["self"] ["self"] (defScope (Hd.ms 28 2)) := ⟨rfl, rfl, rfl, by decide +kernel, rfl, by decide +kernel, by decide +kernel⟩
theorem ok_Tape_length  (t_cls : TapeCls K) (FD : FunD K "length" "Tape.length" (defArgs (Hd.ms 28 2)) (defBody (Hd.ms 28 2)) (defScope (Hd.ms 28 2)) [] [] (pgA K (tapeC K) "length") fd) : FnOk P w K mg base (L2.CX P w) 1 (pgA K (tapeC K) "length") fd ["self"] (SpP K 1 (fun u : (Int × List (Int × Int)) => [.is (sh rTape) u]) rInt m_Tape_length) :=
  fn_pure (k := 0) FD sc_Tape_length o_Tape_length (fun _ => rfl) fun u cdv A outer s H E hr F hio hW => ⟨_, (bx_nf (fun s => [.is (sh rTape) u]) (fun _ => rfl) (bx_ret (ex_extent t_cls (eo_t (ex_var 0 cp_sh fun _ => rfl)) fun _ _ => .ts) (wio hio fun _ => (.un .nil))))⟩
theorem sc_way : FnScope ["tape", "asks", "row", "asked", "first", "last", "stops"] ["tape", "asks", "row"] (defScope (Hd.tp 23)) := ⟨rfl, rfl, rfl, by decide +kernel, rfl, by decide +kernel, by decide +kernel⟩
theorem ok_way  (t_cls : TapeCls K) (t_length : Prp K (tapeC K) "length") (t_ix : Mth K "__getitem__") (h_ix : PySem.W.fnIn K (He.ma K (tapeC K) "__getitem__") = true) {d_Tape_DgetitemD : FuncData} (c_Tape_DgetitemD : FnOk P w K mg base (L2.CX P w) 1 (He.ma K (tapeC K) "__getitem__") d_Tape_DgetitemD ["self", "index"] (SpP K 2 (fun u : ((Int × List (Int × Int)) × Int) => [.is (sh rTape) u.1, .is rInt u.2]) (rPair rInt rInt) m_Tape_DgetitemD)) (b_Tape_DgetitemD : Binds K d_Tape_DgetitemD ["self", "index"] []) {d_Tape_length : FuncData} (c_Tape_length : FnOk P w K mg base (L2.CX P w) 1 (pgA K (tapeC K) "length") d_Tape_length ["self"] (SpP K 1 (fun u : (Int × List (Int × Int)) => [.is (sh rTape) u]) rInt m_Tape_length)) (b_Tape_length : Binds K d_Tape_length ["self"] []) {d_asked_files : FuncData} (c_asked_files : FnOk P w K mg base (L2.CX P w) 1 (ga K "asked_files") d_asked_files ["asks"] (SpP K 1 (fun u : (List Int) => [.is (sh (rList rInt)) u]) (rList rInt) m_asked_files)) (g_asked_files : mg "asked_files" = some (.ref (ga K "asked_files"))) (k_asked_files : PySem.W.keepIn K (.ref (ga K "asked_files")) = true) (b_asked_files : Binds K d_asked_files ["asks"] []) {d_check_asks : FuncData} (c_check_asks : FnOk P w K mg base (L2.CX P w) 3 (ga K "check_asks") d_check_asks ["tape", "asks"] (SpP K 2 (fun u : ((Int × List (Int × Int)) × (List Int)) => [.is (sh rTape) u.1, .is (sh (rList rInt)) u.2]) rNon m_check_asks)) (g_check_asks : mg "check_asks" = some (.ref (ga K "check_asks"))) (k_check_asks : PySem.W.keepIn K (.ref (ga K "check_asks")) = true) (b_check_asks : Binds K d_check_asks ["tape", "asks"] []) {d_check_row : FuncData} (c_check_row : FnOk P w K mg base (L2.CX P w) 3 (ga K "check_row") d_check_row ["asks", "row"] (SpP K 2 (fun u : ((List Int) × (List (Int × Int))) => [.is (sh (rList rInt)) u.1, .is (sh (rList (rPair rInt rInt))) u.2]) rNon m_check_row)) (g_check_row : mg "check_row" = some (.ref (ga K "check_row"))) (k_check_row : PySem.W.keepIn K (.ref (ga K "check_row")) = true) (b_check_row : Binds K d_check_row ["asks", "row"] []) {d_fresh_runs : FuncData} (c_fresh_runs : FnOk P w K mg base (L2.CX P w) 2 (ga K "fresh_runs") d_fresh_runs ["asks", "row"] (SpP K 2 (fun u : ((List Int) × (List (Int × Int))) => [.is (sh (rList rInt)) u.1, .is (sh (rList (rPair rInt rInt))) u.2]) (rList (sh (rList rInt))) m_fresh_runs)) (g_fresh_runs : mg "fresh_runs" = some (.ref (ga K "fresh_runs"))) (k_fresh_runs : PySem.W.keepIn K (.ref (ga K "fresh_runs")) = true) (b_fresh_runs : Binds K d_fresh_runs ["asks", "row"] []) (FD : FunD K "way" "way" (defArgs (Hd.tp 23)) (defBody (Hd.tp 23)) (defScope (Hd.tp 23)) [] [] (ga K "way") fd) : FnOk P w K mg base (L2.CX P w) 4 (ga K "way") fd ["tape", "asks", "row"] (SpP K 3 (fun u : ((Int × List (Int × Int)) × (List Int) × (List (Int × Int))) => [.is (sh rTape) u.1, .is (sh (rList rInt)) u.2.1, .is (sh (rList (rPair rInt rInt))) u.2.2]) (rList rInt) m_way) :=
  fn_pure (k := 3) FD sc_way o_way (fun _ => rfl) fun u cdv A outer s H E hr F hio hW => ⟨_, (bx_nf (fun s => [.is (sh rTape) u.1, .is (sh (rList rInt)) u.2.1, .is (sh (rList (rPair rInt rInt))) u.2.2, .un, .un, .un, .un]) (fun _ => rfl) (bx_expr (ex_call (E := E) (fun q238 => (q238.1, q238.2.1)) c_check_asks (hr.mono (by decide)) rfl g_check_asks k_check_asks b_check_asks (by exact passes_call (takes_of rfl rfl rfl rfl) fun _ _ _ _ h => h) (ea_cons (eo_t (ex_var 0 cp_sh fun _ => rfl)) (ea_cons (eo_t (ex_var 1 cp_sh fun _ => rfl)) ea_nil)) (fun _ => rfl) (.inl ⟨clo_non, fun _ _ => (.cp cp_sh .t (.cp cp_sh .t .nil))⟩) (hWE hW) (wio hio fun _ => (.un (.un (.un (.eq (.eq (.eq (.eq .nil))))))))) (bx_nf (fun s => [.is (sh rTape) u.1, .is (sh (rList rInt)) u.2.1, .is (sh (rList (rPair rInt rInt))) u.2.2, .un, .un, .un, .un]) (fun _ => rfl) (bx_expr (ex_call (E := E) (fun q243 => (q243.1, q243.2.1)) c_check_row (hr.mono (by decide)) rfl g_check_row k_check_row b_check_row (by exact passes_call (takes_of rfl rfl rfl rfl) fun _ _ _ _ h => h) (ea_cons (eo_t (ex_var 1 cp_sh fun _ => rfl)) (ea_cons (eo_t (ex_var 2 cp_sh fun _ => rfl)) ea_nil)) (fun _ => rfl) (.inl ⟨clo_non, fun _ _ => (.cp cp_sh .t (.cp cp_sh .t .nil))⟩) (hWE hW) (wio hio fun _ => (.un (.un (.un (.eq (.eq (.eq (.eq .nil))))))))) (bx_nf (fun s => [.is (sh rTape) u.1, .is (sh (rList rInt)) u.2.1, .is (sh (rList (rPair rInt rInt))) u.2.2, .un, .un, .un, .un]) (fun _ => rfl) (bx_asg 3 sc_way.nd (ex_freeze (ex_call (E := E) (fun q247 => q247.1) c_asked_files (hr.mono (by decide)) rfl g_asked_files k_asked_files b_asked_files (by exact passes_call (takes_of rfl rfl rfl rfl) fun _ _ _ _ h => h) (ea_cons (eo_t (ex_var 1 cp_sh fun _ => rfl)) ea_nil) (fun _ => rfl) (.inl ⟨(clo_list clo_int), fun _ _ => (.cp cp_sh .t .nil)⟩) (hWE hW) (wio hio fun _ => (.un (.un (.un (.eq (.eq (.eq (.eq .nil)))))))))) (fun v_asked244 => (bx_nf (fun s => [.is (sh rTape) u.1, .is (sh (rList rInt)) u.2.1, .is (sh (rList (rPair rInt rInt))) u.2.2, .is (sh (rList rInt)) v_asked244, .un, .un, .un]) (fun _ => rfl) (bx_ifr (GE_ := fun e _ => e.elim) (et_not (et_truL (eo_t (ex_var 3 cp_sh fun _ => rfl)) fun _ _ => .ts)) (bx_nf (fun s => [.is (sh rTape) u.1, .is (sh (rList rInt)) u.2.1, .is (sh (rList (rPair rInt rInt))) u.2.2, .is (sh (rList rInt)) v_asked244, .un, .un, .un]) (fun _ => rfl) (bx_ret (ex_lst (r := rInt) (el_cons (ex_prop t_cls t_length c_Tape_length b_Tape_length (hr.mono (by decide)) (eo_t (ex_var 0 cp_sh fun _ => rfl)) fun _ _ => .t) el_nil)) (wio hio fun _ => (.un (.un (.un (.un (.eq (.eq (.eq .nil)))))))))) (bx_nf (fun s => [.is (sh rTape) u.1, .is (sh (rList rInt)) u.2.1, .is (sh (rList (rPair rInt rInt))) u.2.2, .is (sh (rList rInt)) v_asked244, .un, .un, .un]) (fun _ => rfl) (bx_asg 6 sc_way.nd (ex_lst (r := rInt) el_nil) (fun v_stops256 => (bx_nf (fun s => [.is (sh rTape) u.1, .is (sh (rList rInt)) u.2.1, .is (sh (rList (rPair rInt rInt))) u.2.2, .is (sh (rList rInt)) v_asked244, .un, .un, .is (rList rInt) v_stops256]) (fun _ => rfl) (bx_for (Gt := fun (l258 : (List Int)) s (x259 : (Int × Int)) => [.is (sh rTape) u.1, .is (sh (rList rInt)) u.2.1, .is (sh (rList (rPair rInt rInt))) u.2.2, .is (sh (rList rInt)) v_asked244, .is rInt x259.1, .is rInt x259.2, .is (rList rInt) l258]) (passes_of rfl) rfl (fun (l258 : (List Int)) s => [.is (sh rTape) u.1, .is (sh (rList rInt)) u.2.1, .is (sh (rList (rPair rInt rInt))) u.2.2, .is (sh (rList rInt)) v_asked244, .un, .un, .is (rList rInt) l258]) v_stops256 (ei_sh (ex_var 2 cp_sh fun _ => rfl) (cp_pair cp_int cp_int)) (fun _ => (.eq (.eq (.eq (.eq (.eq (.eq (.eq .nil)))))))) (fun _ _ => trivial) (fun l258 _ => (eg_pair rfl (eg_name (i := 4) rfl sc_way.nd) (fun _ => (eg_name (i := 5) rfl sc_way.nd)) inferInstance)) (fun l258 x259 => (bx_nf (fun s => [.is (sh rTape) u.1, .is (sh (rList rInt)) u.2.1, .is (sh (rList (rPair rInt rInt))) u.2.2, .is (sh (rList rInt)) v_asked244, .is rInt x259.1, .is rInt x259.2, .is (rList rInt) l258]) (fun _ => rfl) (bx_augL 6 cp_int sc_way.nd (ex_lst (r := rInt) (el_cons (ex_plc (eo_t (ex_tix t_ix h_ix c_Tape_DgetitemD b_Tape_DgetitemD (hr.mono (by decide)) (eo_t (ex_var 0 cp_sh fun _ => rfl)) (ex_var 4 cp_int fun _ => rfl) fun _ _ => .t)) plc2_0 cp_int fun _ _ => .t) (el_cons (ex_plc (eo_t (ex_tix t_ix h_ix c_Tape_DgetitemD b_Tape_DgetitemD (hr.mono (by decide)) (eo_t (ex_var 0 cp_sh fun _ => rfl)) (ex_var 5 cp_int fun _ => rfl) fun _ _ => .t)) plc2_1 cp_int fun _ _ => .t) el_nil))) (fun _ => rfl) (fun _ => rfl) fun v_stops260 => (bx_end v_stops260 fun _ => (.eq (.eq (.eq (.eq (.un (.un (.eq .nil))))))))))) (fun l258 => (bx_nf (fun s => [.is (sh rTape) u.1, .is (sh (rList rInt)) u.2.1, .is (sh (rList (rPair rInt rInt))) u.2.2, .is (sh (rList rInt)) v_asked244, .un, .un, .is (rList rInt) l258]) (fun _ => rfl) (bx_ret (ex_lst (r := rInt) (el_star (eo_own (U := Unit) (a := ()) 6 fun _ => rfl) cp_int (fun _ _ => (.v rfl)) (el_cons (ex_plc (eo_t (ex_tix t_ix h_ix c_Tape_DgetitemD b_Tape_DgetitemD (hr.mono (by decide)) (eo_t (ex_var 0 cp_sh fun _ => rfl)) (ex_ix (eo_t (ex_var 3 cp_sh fun _ => rfl)) ex_int cp_int fun _ _ => .ts) fun _ _ => .t)) plc2_0 cp_int fun _ _ => .t) (el_cons (ex_plc (eo_t (ex_tix t_ix h_ix c_Tape_DgetitemD b_Tape_DgetitemD (hr.mono (by decide)) (eo_t (ex_var 0 cp_sh fun _ => rfl)) (ex_ix (eo_t (ex_ix (eo_t (ex_call (E := E) (fun q284 => (q284.1, q284.2.1)) c_fresh_runs (hr.mono (by decide)) rfl g_fresh_runs k_fresh_runs b_fresh_runs (by exact passes_call (takes_of rfl rfl rfl rfl) fun _ _ _ _ h => h) (ea_cons (eo_t (ex_var 1 cp_sh fun _ => rfl)) (ea_cons (eo_t (ex_var 2 cp_sh fun _ => rfl)) ea_nil)) (fun _ => rfl) (.inr fun _ _ => (.cp cp_sh (.tc cp_sh) (.cp cp_sh (.tc cp_sh) .nil))) (hWE hW) (wio hio fun _ => (.un (.un (.un (.un (.eq (.eq (.un .nil)))))))))) (ex_neg ex_int) cp_sh fun _ _ => .t)) (ex_neg ex_int) cp_int fun _ _ => .ts) fun _ _ => .t)) plc2_1 cp_int fun _ _ => .t) el_nil)))) (wio hio fun _ => (.un (.un (.un (.un (.eq (.eq (.un .nil))))))))))) inferInstance inferInstance))) inferInstance (fun _ => rfl)))))) inferInstance (fun _ => rfl)))))))⟩
theorem sc_waits : FnScope ["tape", "asks", "row", "count", "found", "index", "place", "runs", "steps", "stop", "stops", "turns"] ["tape", "asks", "row"] (defScope (Hd.tp 24)) := ⟨rfl, rfl, rfl, by decide +kernel, rfl, by decide +kernel, by decide +kernel⟩
theorem bk_waits_0 : BlkOk ["tape", "asks", "row", "count", "found", "index", "place", "runs", "steps", "stop", "stops", "turns"] (defScope (Hd.tp 24)) { kind := .function, names := [(".0", .local), ("count", .local)], isGenerator := false, isCoroutine := false, more := [] } [("count", 3)] := blkOk_by (by decide +kernel)
theorem ok_waits (f_abs : mg "abs" = none) (f_enumerate : mg "enumerate" = none) (t_cls : TapeCls K) (t_length : Prp K (tapeC K) "length") (t_ix : Mth K "__getitem__") (h_ix : PySem.W.fnIn K (He.ma K (tapeC K) "__getitem__") = true) {d_Tape_DgetitemD : FuncData} (c_Tape_DgetitemD : FnOk P w K mg base (L2.CX P w) 1 (He.ma K (tapeC K) "__getitem__") d_Tape_DgetitemD ["self", "index"] (SpP K 2 (fun u : ((Int × List (Int × Int)) × Int) => [.is (sh rTape) u.1, .is rInt u.2]) (rPair rInt rInt) m_Tape_DgetitemD)) (b_Tape_DgetitemD : Binds K d_Tape_DgetitemD ["self", "index"] []) {d_Tape_length : FuncData} (c_Tape_length : FnOk P w K mg base (L2.CX P w) 1 (pgA K (tapeC K) "length") d_Tape_length ["self"] (SpP K 1 (fun u : (Int × List (Int × Int)) => [.is (sh rTape) u]) rInt m_Tape_length)) (b_Tape_length : Binds K d_Tape_length ["self"] []) {d_fresh_runs : FuncData} (c_fresh_runs : FnOk P w K mg base (L2.CX P w) 2 (ga K "fresh_runs") d_fresh_runs ["asks", "row"] (SpP K 2 (fun u : ((List Int) × (List (Int × Int))) => [.is (sh (rList rInt)) u.1, .is (sh (rList (rPair rInt rInt))) u.2]) (rList (sh (rList rInt))) m_fresh_runs)) (g_fresh_runs : mg "fresh_runs" = some (.ref (ga K "fresh_runs"))) (k_fresh_runs : PySem.W.keepIn K (.ref (ga K "fresh_runs")) = true) (b_fresh_runs : Binds K d_fresh_runs ["asks", "row"] []) {d_way : FuncData} (c_way : FnOk P w K mg base (L2.CX P w) 4 (ga K "way") d_way ["tape", "asks", "row"] (SpP K 3 (fun u : ((Int × List (Int × Int)) × (List Int) × (List (Int × Int))) => [.is (sh rTape) u.1, .is (sh (rList rInt)) u.2.1, .is (sh (rList (rPair rInt rInt))) u.2.2]) (rList rInt) m_way)) (g_way : mg "way" = some (.ref (ga K "way"))) (k_way : PySem.W.keepIn K (.ref (ga K "way")) = true) (b_way : Binds K d_way ["tape", "asks", "row"] []) (FD : FunD K "waits" "waits" (defArgs (Hd.tp 24)) (defBody (Hd.tp 24)) (defScope (Hd.tp 24)) [] [] (ga K "waits") fd) : FnOk P w K mg base (L2.CX P w) 5 (ga K "waits") fd ["tape", "asks", "row"] (SpP K 3 (fun u : ((Int × List (Int × Int)) × (List Int) × (List (Int × Int))) => [.is (sh rTape) u.1, .is (sh (rList rInt)) u.2.1, .is (sh (rList (rPair rInt rInt))) u.2.2]) (rList (rOpt (rPair rInt rInt))) m_waits) :=
  fn_pure (k := 4) FD sc_waits o_waits (fun _ => rfl) fun u cdv A outer s H E hr F hio hW => ⟨_, (bx_nf (fun s => [.is (sh rTape) u.1, .is (sh (rList rInt)) u.2.1, .is (sh (rList (rPair rInt rInt))) u.2.2, .un, .un, .un, .un, .un, .un, .un, .un, .un]) (fun _ => rfl) (bx_asg 10 sc_waits.nd (ex_freeze (ex_call (E := E) (fun q315 => (q315.1, q315.2.1, q315.2.2.1)) c_way (hr.mono (by decide)) rfl g_way k_way b_way (by exact passes_call (takes_of rfl rfl rfl rfl) fun _ _ _ _ h => h) (ea_cons (eo_t (ex_var 0 cp_sh fun _ => rfl)) (ea_cons (eo_t (ex_var 1 cp_sh fun _ => rfl)) (ea_cons (eo_t (ex_var 2 cp_sh fun _ => rfl)) ea_nil))) (fun _ => rfl) (.inl ⟨(clo_list clo_int), fun _ _ => (.cp cp_sh .t (.cp cp_sh .t (.cp cp_sh .t .nil)))⟩) (hWE hW) (wio hio fun _ => (.un (.un (.un (.eq (.eq (.eq (.eq (.eq (.eq (.eq (.eq (.eq .nil))))))))))))))) (fun v_stops308 => (bx_nf (fun s => [.is (sh rTape) u.1, .is (sh (rList rInt)) u.2.1, .is (sh (rList (rPair rInt rInt))) u.2.2, .un, .un, .un, .un, .un, .un, .un, .is (sh (rList rInt)) v_stops308, .un]) (fun _ => rfl) (bx_lc (i := 4) (Gt := fun s (x317 : Int) => [.is (sh rTape) u.1, .is (sh (rList rInt)) u.2.1, .is (sh (rList (rPair rInt rInt))) u.2.2, .is rInt x317, .un, .un, .un, .un, .un, .un, .is (sh (rList rInt)) v_stops308, .un]) s rfl sc_waits.nd (ei_sh (ex_var 1 cp_sh fun _ => rfl) cp_int) (fun _ => trivial) bk_waits_0 (fun _ => (.cons rfl .nil)) (by exact fun _ h => h) (fun _ _ => (.eq (.eq (.eq (.un (.eq (.eq (.eq (.eq (.eq (.eq (.eq (.eq .nil))))))))))))) (fun _ _ _ _ _ _ => (eg_name (i := 3) rfl sc_waits.nd)) (fun _ _ _ _ _ x317 => ets_nil) (fun _ _ _ _ _ x317 => ex_noneO) inferInstance inferInstance (fun v_found316 => (bx_nf (fun s => [.is (sh rTape) u.1, .is (sh (rList rInt)) u.2.1, .is (sh (rList (rPair rInt rInt))) u.2.2, .un, .is (rList (rOpt (rPair rInt rInt))) v_found316, .un, .un, .un, .un, .un, .is (sh (rList rInt)) v_stops308, .un]) (fun _ => rfl) (bx_par 8 6 sc_waits.nd rfl (by decide) ex_int (ex_prop t_cls t_length c_Tape_length b_Tape_length (hr.mono (by decide)) (eo_t (ex_var 0 cp_sh fun _ => rfl)) fun _ _ => .t) (fun v_steps319 v_place320 => (bx_nf (fun s => [.is (sh rTape) u.1, .is (sh (rList rInt)) u.2.1, .is (sh (rList (rPair rInt rInt))) u.2.2, .un, .is (rList (rOpt (rPair rInt rInt))) v_found316, .un, .is rInt v_place320, .un, .is rInt v_steps319, .un, .is (sh (rList rInt)) v_stops308, .un]) (fun _ => rfl) (bx_asg 7 sc_waits.nd (ex_freeze (ex_call (E := E) (fun q326 => (q326.1, q326.2.1)) c_fresh_runs (hr.mono (by decide)) rfl g_fresh_runs k_fresh_runs b_fresh_runs (by exact passes_call (takes_of rfl rfl rfl rfl) fun _ _ _ _ h => h) (ea_cons (eo_t (ex_var 1 cp_sh fun _ => rfl)) (ea_cons (eo_t (ex_var 2 cp_sh fun _ => rfl)) ea_nil)) (fun _ => rfl) (.inr fun _ _ => (.cp cp_sh (.tc cp_sh) (.cp cp_sh (.tc cp_sh) .nil))) (hWE hW) (wio hio fun _ => (.un (.un (.un (.eq (.un (.eq (.un (.eq (.un (.eq (.un (.eq .nil))))))))))))))) (fun v_runs321 => (bx_nf (fun s => [.is (sh rTape) u.1, .is (sh (rList rInt)) u.2.1, .is (sh (rList (rPair rInt rInt))) u.2.2, .un, .is (rList (rOpt (rPair rInt rInt))) v_found316, .un, .is rInt v_place320, .is (sh (rList (sh (rList rInt)))) v_runs321, .is rInt v_steps319, .un, .is (sh (rList rInt)) v_stops308, .un]) (fun _ => rfl) (bx_for (Gt := fun (l327 : ((List (Option (Int × Int))) × Int × Int)) s (x329 : (Int × Int)) => [.is (sh rTape) u.1, .is (sh (rList rInt)) u.2.1, .is (sh (rList (rPair rInt rInt))) u.2.2, .un, .is (rList (rOpt (rPair rInt rInt))) l327.1, .un, .is rInt l327.2.1, .is (sh (rList (sh (rList rInt)))) v_runs321, .is rInt l327.2.2, .is rInt x329.2, .is (sh (rList rInt)) v_stops308, .is rInt x329.1]) (passes_of rfl) rfl (fun (l327 : ((List (Option (Int × Int))) × Int × Int)) s => [.is (sh rTape) u.1, .is (sh (rList rInt)) u.2.1, .is (sh (rList (rPair rInt rInt))) u.2.2, .un, .is (rList (rOpt (rPair rInt rInt))) l327.1, .un, .is rInt l327.2.1, .is (sh (rList (sh (rList rInt)))) v_runs321, .is rInt l327.2.2, .un, .is (sh (rList rInt)) v_stops308, .un]) (v_found316, v_place320, v_steps319) (ei_enum (ex_var 10 cp_sh fun _ => rfl) cp_int rfl f_enumerate) (fun _ => (.eq (.eq (.eq (.eq (.eq (.eq (.eq (.eq (.eq (.eq (.eq (.eq .nil))))))))))))) (fun _ _ => trivial) (fun l327 _ => (eg_pair rfl (eg_name (i := 11) rfl sc_waits.nd) (fun _ => (eg_name (i := 9) rfl sc_waits.nd)) inferInstance)) (fun l327 x329 => (bx_nf (fun s => [.is (sh rTape) u.1, .is (sh (rList rInt)) u.2.1, .is (sh (rList (rPair rInt rInt))) u.2.2, .un, .is (rList (rOpt (rPair rInt rInt))) l327.1, .un, .is rInt l327.2.1, .is (sh (rList (sh (rList rInt)))) v_runs321, .is rInt l327.2.2, .is rInt x329.2, .is (sh (rList rInt)) v_stops308, .is rInt x329.1]) (fun _ => rfl) (bx_if (GJ := fun (n365 : (List (Option (Int × Int)))) s => [.is (sh rTape) u.1, .is (sh (rList rInt)) u.2.1, .is (sh (rList (rPair rInt rInt))) u.2.2, .un, .is (rList (rOpt (rPair rInt rInt))) n365, .un, .is rInt l327.2.1, .is (sh (rList (sh (rList rInt)))) v_runs321, .is rInt l327.2.2, .is rInt x329.2, .is (sh (rList rInt)) v_stops308, .is rInt x329.1]) (et_cmp op_eq vo_eqI (fun _ _ => stl_ret _) (ex_bin op_modN vo_mod stl_mod (ex_var 11 cp_int fun _ => rfl) ex_int) ex_int rfl) (bx_nf (fun s => [.is (sh rTape) u.1, .is (sh (rList rInt)) u.2.1, .is (sh (rList (rPair rInt rInt))) u.2.2, .un, .is (rList (rOpt (rPair rInt rInt))) l327.1, .un, .is rInt l327.2.1, .is (sh (rList (sh (rList rInt)))) v_runs321, .is rInt l327.2.2, .is rInt x329.2, .is (sh (rList rInt)) v_stops308, .is rInt x329.1]) (fun _ => rfl) (bx_for (Gt := fun (l366 : (List (Option (Int × Int)))) s (x371 : Int) => [.is (sh rTape) u.1, .is (sh (rList rInt)) u.2.1, .is (sh (rList (rPair rInt rInt))) u.2.2, .un, .is (rList (rOpt (rPair rInt rInt))) l366, .is rInt x371, .is rInt l327.2.1, .is (sh (rList (sh (rList rInt)))) v_runs321, .is rInt l327.2.2, .is rInt x329.2, .is (sh (rList rInt)) v_stops308, .is rInt x329.1]) (passes_of rfl) rfl (fun (l366 : (List (Option (Int × Int)))) s => [.is (sh rTape) u.1, .is (sh (rList rInt)) u.2.1, .is (sh (rList (rPair rInt rInt))) u.2.2, .un, .is (rList (rOpt (rPair rInt rInt))) l366, .un, .is rInt l327.2.1, .is (sh (rList (sh (rList rInt)))) v_runs321, .is rInt l327.2.2, .is rInt x329.2, .is (sh (rList rInt)) v_stops308, .is rInt x329.1]) l327.1 (ei_sh (ex_ix (eo_t (ex_var 7 cp_sh fun _ => rfl)) (ex_bin op_fdivN vo_div stl_div (ex_var 11 cp_int fun _ => rfl) ex_int) cp_sh fun _ _ => .ts) cp_int) (fun _ => (.eq (.eq (.eq (.eq (.eq (.eq (.eq (.eq (.eq (.eq (.eq (.eq .nil))))))))))))) (fun _ _ => trivial) (fun l366 _ => (eg_name (i := 5) rfl sc_waits.nd)) (fun l366 x371 => (bx_nf (fun s => [.is (sh rTape) u.1, .is (sh (rList rInt)) u.2.1, .is (sh (rList (rPair rInt rInt))) u.2.2, .un, .is (rList (rOpt (rPair rInt rInt))) l366, .is rInt x371, .is rInt l327.2.1, .is (sh (rList (sh (rList rInt)))) v_runs321, .is rInt l327.2.2, .is rInt x329.2, .is (sh (rList rInt)) v_stops308, .is rInt x329.1]) (fun _ => rfl) (bx_setS 4 (cp_opt (cp_pair cp_int cp_int)) (ex_some (ex_tup2 (ex_bin op_sub (vo_I0 fun i j => i - j) (fun _ _ => stl_ret _) (ex_bin op_add (vo_I0 fun i j => i + j) (fun _ _ => stl_ret _) (ex_var 8 cp_int fun _ => rfl) (ex_plc (eo_t (ex_tix t_ix h_ix c_Tape_DgetitemD b_Tape_DgetitemD (hr.mono (by decide)) (eo_t (ex_var 0 cp_sh fun _ => rfl)) (ex_var 5 cp_int fun _ => rfl) fun _ _ => .t)) plc2_1 cp_int fun _ _ => .t)) (ex_var 6 cp_int fun _ => rfl)) (ex_var 11 cp_int fun _ => rfl))) (ex_var 5 cp_int fun _ => rfl) (fun _ => rfl) (fun _ => rfl) fun v_found393 => (bx_end v_found393 fun _ => (.eq (.eq (.eq (.eq (.eq (.un (.eq (.eq (.eq (.eq (.eq (.eq .nil)))))))))))))))) (fun l366 => (bx_end l366 fun _ => (.eq (.eq (.eq (.eq (.eq (.eq (.eq (.eq (.eq (.eq (.eq (.eq .nil)))))))))))))) inferInstance inferInstance)) (bx_end l327.1 fun _ => (.eq (.eq (.eq (.eq (.eq (.eq (.eq (.eq (.eq (.eq (.eq (.eq .nil))))))))))))) (fun n365 => (bx_nf (fun s => [.is (sh rTape) u.1, .is (sh (rList rInt)) u.2.1, .is (sh (rList (rPair rInt rInt))) u.2.2, .un, .is (rList (rOpt (rPair rInt rInt))) n365, .un, .is rInt l327.2.1, .is (sh (rList (sh (rList rInt)))) v_runs321, .is rInt l327.2.2, .is rInt x329.2, .is (sh (rList rInt)) v_stops308, .is rInt x329.1]) (fun _ => rfl) (bx_augI 8 ipi_add sc_waits.nd (ex_abs (ex_bin op_sub (vo_I0 fun i j => i - j) (fun _ _ => stl_ret _) (ex_var 9 cp_int fun _ => rfl) (ex_var 6 cp_int fun _ => rfl)) rfl f_abs) (fun _ => rfl) (fun v_steps394 => (bx_nf (fun s => [.is (sh rTape) u.1, .is (sh (rList rInt)) u.2.1, .is (sh (rList (rPair rInt rInt))) u.2.2, .un, .is (rList (rOpt (rPair rInt rInt))) n365, .un, .is rInt l327.2.1, .is (sh (rList (sh (rList rInt)))) v_runs321, .is rInt v_steps394, .is rInt x329.2, .is (sh (rList rInt)) v_stops308, .is rInt x329.1]) (fun _ => rfl) (bx_asg 6 sc_waits.nd (ex_var 9 cp_int fun _ => rfl) (fun v_place400 => (bx_end (n365, v_place400, v_steps394) fun _ => (.eq (.eq (.eq (.eq (.eq (.eq (.eq (.eq (.eq (.un (.eq (.un .nil)))))))))))))) inferInstance (fun _ => rfl)))) fun _ => rfl))) inferInstance))) (fun l327 => (bx_nf (fun s => [.is (sh rTape) u.1, .is (sh (rList rInt)) u.2.1, .is (sh (rList (rPair rInt rInt))) u.2.2, .un, .is (rList (rOpt (rPair rInt rInt))) l327.1, .un, .is rInt l327.2.1, .is (sh (rList (sh (rList rInt)))) v_runs321, .is rInt l327.2.2, .un, .is (sh (rList rInt)) v_stops308, .un]) (fun _ => rfl) (bx_ret (ex_mv 4 fun _ => rfl) (wio hio fun _ => (.un (.un (.un (.eq (.eq (.eq (.un (.un (.un (.eq (.un (.eq .nil)))))))))))))))) inferInstance inferInstance))) inferInstance (fun _ => rfl)))) inferInstance inferInstance (fun _ => rfl) (fun _ => rfl)))) (fun _ => rfl)))) inferInstance (fun _ => rfl)))⟩
theorem sc_total : FnScope ["tape", "asks", "row", "count", "steps", "turns", "wait"] ["tape", "asks", "row"] (defScope (Hd.tp 25)) := ⟨rfl, rfl, rfl, by decide +kernel, rfl, by decide +kernel, by decide +kernel⟩
theorem ok_total (f_zip : mg "zip" = none) {d_waits : FuncData} (c_waits : FnOk P w K mg base (L2.CX P w) 5 (ga K "waits") d_waits ["tape", "asks", "row"] (SpP K 3 (fun u : ((Int × List (Int × Int)) × (List Int) × (List (Int × Int))) => [.is (sh rTape) u.1, .is (sh (rList rInt)) u.2.1, .is (sh (rList (rPair rInt rInt))) u.2.2]) (rList (rOpt (rPair rInt rInt))) m_waits)) (g_waits : mg "waits" = some (.ref (ga K "waits"))) (k_waits : PySem.W.keepIn K (.ref (ga K "waits")) = true) (b_waits : Binds K d_waits ["tape", "asks", "row"] []) (FD : FunD K "total" "total" (defArgs (Hd.tp 25)) (defBody (Hd.tp 25)) (defScope (Hd.tp 25)) [] [] (ga K "total") fd) : FnOk P w K mg base (L2.CX P w) 6 (ga K "total") fd ["tape", "asks", "row"] (SpP K 3 (fun u : ((Int × List (Int × Int)) × (List Int) × (List (Int × Int))) => [.is (sh rTape) u.1, .is (sh (rList rInt)) u.2.1, .is (sh (rList (rPair rInt rInt))) u.2.2]) (rPair rInt rInt) m_total) :=
  fn_pure (k := 5) FD sc_total o_total (fun _ => rfl) fun u cdv A outer s H E hr F hio hW => ⟨_, (bx_nf (fun s => [.is (sh rTape) u.1, .is (sh (rList rInt)) u.2.1, .is (sh (rList (rPair rInt rInt))) u.2.2, .un, .un, .un, .un]) (fun _ => rfl) (bx_asg2 4 5 cp_int sc_total.nd (by decide) ex_int (fun v_steps402 => (bx_nf (fun s => [.is (sh rTape) u.1, .is (sh (rList rInt)) u.2.1, .is (sh (rList (rPair rInt rInt))) u.2.2, .un, .is rInt v_steps402, .is rInt v_steps402, .un]) (fun _ => rfl) (bx_for (Gt := fun (l403 : (Int × Int)) s (x413 : (Int × (Option (Int × Int)))) => [.is (sh rTape) u.1, .is (sh (rList rInt)) u.2.1, .is (sh (rList (rPair rInt rInt))) u.2.2, .is rInt x413.1, .is rInt l403.1, .is rInt l403.2, .is (rOpt (rPair rInt rInt)) x413.2]) (passes_of rfl) rfl (fun (l403 : (Int × Int)) s => [.is (sh rTape) u.1, .is (sh (rList rInt)) u.2.1, .is (sh (rList (rPair rInt rInt))) u.2.2, .un, .is rInt l403.1, .is rInt l403.2, .un]) (v_steps402, v_steps402) (ei_zipC (ex_var 1 cp_sh fun _ => rfl) (ex_freeze (ex_call (E := E) (fun q410 => (q410.1, q410.2.1, q410.2.2.1)) c_waits (hr.mono (by decide)) rfl g_waits k_waits b_waits (by exact passes_call (takes_of rfl rfl rfl rfl) fun _ _ _ _ h => h) (ea_cons (eo_t (ex_var 0 cp_sh fun _ => rfl)) (ea_cons (eo_t (ex_var 1 cp_sh fun _ => rfl)) (ea_cons (eo_t (ex_var 2 cp_sh fun _ => rfl)) ea_nil))) (fun _ => rfl) (.inl ⟨(clo_list (clo_opt (clo_pair clo_int clo_int))), fun _ _ => (.cp cp_sh .t (.cp cp_sh .t (.cp cp_sh .t .nil)))⟩) (hWE hW) (wio hio fun _ => (.un (.un (.un (.eq (.un (.un (.eq .nil)))))))))) cp_int (cp_opt (cp_pair cp_int cp_int)) rfl f_zip) (fun _ => (.eq (.eq (.eq (.eq (.eq (.eq (.eq .nil)))))))) (fun _ _ => trivial) (fun l403 _ => (eg_pair rfl (eg_name (i := 3) rfl sc_total.nd) (fun _ => (eg_name (i := 6) rfl sc_total.nd)) inferInstance)) (fun l403 x413 => (bx_nf (fun s => [.is (sh rTape) u.1, .is (sh (rList rInt)) u.2.1, .is (sh (rList (rPair rInt rInt))) u.2.2, .is rInt x413.1, .is rInt l403.1, .is rInt l403.2, .is (rOpt (rPair rInt rInt)) x413.2]) (fun _ => rfl) (bx_if (GJ := fun (n428 : (Int × Int)) s => [.is (sh rTape) u.1, .is (sh (rList rInt)) u.2.1, .is (sh (rList (rPair rInt rInt))) u.2.2, .is rInt x413.1, .is rInt n428.1, .is rInt n428.2, .is (rOpt (rPair rInt rInt)) x413.2]) (et_notN nn_pair (eo_t (ex_var 6 (cp_opt (cp_pair cp_int cp_int)) fun _ => rfl)) fun _ _ => .t) (bx_nf (fun s => [.is (sh rTape) u.1, .is (sh (rList rInt)) u.2.1, .is (sh (rList (rPair rInt rInt))) u.2.2, .is rInt x413.1, .is rInt l403.1, .is rInt l403.2, .is (rOpt (rPair rInt rInt)) x413.2]) (fun _ => rfl) (bx_augI 4 ipi_add sc_total.nd (ex_bin op_mul vo_mul stl_mul (ex_var 3 cp_int fun _ => rfl) (ex_plc (eo_t (ex_unopt (ex_var 6 (cp_opt (cp_pair cp_int cp_int)) fun _ => rfl))) plc2_0 cp_int fun _ _ => .t)) (fun _ => rfl) (fun v_steps429 => (bx_nf (fun s => [.is (sh rTape) u.1, .is (sh (rList rInt)) u.2.1, .is (sh (rList (rPair rInt rInt))) u.2.2, .is rInt x413.1, .is rInt v_steps429, .is rInt l403.2, .is (rOpt (rPair rInt rInt)) x413.2]) (fun _ => rfl) (bx_augI 5 ipi_add sc_total.nd (ex_bin op_mul vo_mul stl_mul (ex_var 3 cp_int fun _ => rfl) (ex_plc (eo_t (ex_unopt (ex_var 6 (cp_opt (cp_pair cp_int cp_int)) fun _ => rfl))) plc2_1 cp_int fun _ _ => .t)) (fun _ => rfl) (fun v_turns435 => (bx_end (v_steps429, v_turns435) fun _ => (.eq (.eq (.eq (.eq (.eq (.eq (.eq .nil))))))))) fun _ => rfl))) fun _ => rfl)) (bx_end (l403.1, l403.2) fun _ => (.eq (.eq (.eq (.eq (.eq (.eq (.eq .nil)))))))) (fun n428 => (bx_end (n428.1, n428.2) fun _ => (.eq (.eq (.eq (.un (.eq (.eq (.un .nil))))))))) inferInstance))) (fun l403 => (bx_nf (fun s => [.is (sh rTape) u.1, .is (sh (rList rInt)) u.2.1, .is (sh (rList (rPair rInt rInt))) u.2.2, .un, .is rInt l403.1, .is rInt l403.2, .un]) (fun _ => rfl) (bx_ret (ex_tup2 (ex_var 4 cp_int fun _ => rfl) (ex_var 5 cp_int fun _ => rfl)) (wio hio fun _ => (.un (.un (.un (.eq (.un (.un (.eq .nil))))))))))) inferInstance inferInstance))) inferInstance (fun _ => rfl) (fun _ => rfl)))⟩
theorem sc_is_less : FnScope ["one", "other"] ["one", "other"] (defScope (Hd.tp 11)) := ⟨rfl, rfl, rfl, by decide +kernel, rfl, by decide +kernel, by decide +kernel⟩
theorem ok_is_less  (FD : FunD K "is_less" "is_less" (defArgs (Hd.tp 11)) (defBody (Hd.tp 11)) (defScope (Hd.tp 11)) [] [] (ga K "is_less") fd) : FnOk P w K mg base (L2.CX P w) 1 (ga K "is_less") fd ["one", "other"] (SpP K 2 (fun u : ((Int × Int) × (Int × Int)) => [.is (rPair rInt rInt) u.1, .is (rPair rInt rInt) u.2]) rBool m_is_less) :=
  fn_pure (k := 0) FD sc_is_less o_is_less (fun _ => rfl) fun u cdv A outer s H E hr F hio hW => ⟨_, (bx_nf (fun s => [.is (rPair rInt rInt) u.1, .is (rPair rInt rInt) u.2]) (fun _ => rfl) (bx_ret (ex_cmp op_lt (vo_B0 fun i j => decide (i < j)) (fun _ _ => stl_ret _) (ex_bin op_mul vo_mul stl_mul (ex_plc (eo_t (ex_var 0 (cp_pair cp_int cp_int) fun _ => rfl)) plc2_0 cp_int fun _ _ => .t) (ex_plc (eo_t (ex_var 1 (cp_pair cp_int cp_int) fun _ => rfl)) plc2_1 cp_int fun _ _ => .t)) (ex_bin op_mul vo_mul stl_mul (ex_plc (eo_t (ex_var 1 (cp_pair cp_int cp_int) fun _ => rfl)) plc2_0 cp_int fun _ _ => .t) (ex_plc (eo_t (ex_var 0 (cp_pair cp_int cp_int) fun _ => rfl)) plc2_1 cp_int fun _ _ => .t)) rfl) (wio hio fun _ => (.un (.un .nil)))))⟩
theorem sc_lowest : FnScope ["above", "below", "one", "other", "sign"] ["above", "below"] (defScope (Hd.tp 9)) := ⟨rfl, rfl, rfl, by decide +kernel, rfl, by decide +kernel, by decide +kernel⟩
theorem ok_lowest (f_abs : mg "abs" = none) (f_int : mg "int" = none) (FD : FunD K "lowest" "lowest" (defArgs (Hd.tp 9)) (defBody (Hd.tp 9)) (defScope (Hd.tp 9)) [] [] (ga K "lowest") fd) : FnOk P w K mg base (L2.CX P w) 1 (ga K "lowest") fd ["above", "below"] (SpP K 2 (fun u : (Int × Int) => [.is rInt u.1, .is rInt u.2]) (rPair rInt rInt) m_lowest) :=
  fn_pure (k := 0) FD sc_lowest o_lowest (fun _ => rfl) fun u cdv A outer s H E hr F hio hW => ⟨_, (bx_nf (fun s => [.is rInt u.1, .is rInt u.2, .un, .un, .un]) (fun _ => rfl) (bx_par 2 3 sc_lowest.nd rfl (by decide) (ex_abs (ex_var 0 cp_int fun _ => rfl) rfl f_abs) (ex_abs (ex_var 1 cp_int fun _ => rfl) rfl f_abs) (fun v_one461 v_other462 => (bx_nf (fun s => [.is rInt u.1, .is rInt u.2, .is rInt v_one461, .is rInt v_other462, .un]) (fun _ => rfl) (bx_while (passes_of rfl) (fun (l463 : (Int × Int)) s => [.is rInt u.1, .is rInt u.2, .is rInt l463.1, .is rInt l463.2, .un]) (v_one461, v_other462) _ (fun _ => (.eq (.eq (.eq (.eq (.eq .nil)))))) (fun l463 => (et_truI (ex_var 3 cp_int fun _ => rfl))) (fun l463 => (bx_nf (fun s => [.is rInt u.1, .is rInt u.2, .is rInt l463.1, .is rInt l463.2, .un]) (fun _ => rfl) (bx_par 2 3 sc_lowest.nd rfl (by decide) (ex_var 3 cp_int fun _ => rfl) (ex_bin op_modN vo_mod stl_mod (ex_intI (ex_var 2 cp_int fun _ => rfl) rfl f_int) (ex_intI (ex_var 3 cp_int fun _ => rfl) rfl f_int)) (fun v_one473 v_other474 => (bx_end (v_one473, v_other474) fun _ => (.eq (.eq (.eq (.eq (.eq .nil))))))) inferInstance inferInstance (fun _ => rfl) (fun _ => rfl)))) (fun l463 => (bx_nf (fun s => [.is rInt u.1, .is rInt u.2, .is rInt l463.1, .is rInt l463.2, .un]) (fun _ => rfl) (bx_asg 4 sc_lowest.nd (ex_if (et_cmp op_gt (vo_B0 fun i j => decide (j < i)) (fun _ _ => stl_ret _) (ex_var 1 cp_int fun _ => rfl) ex_int rfl) ex_int (ex_neg ex_int)) (fun v_sign475 => (bx_nf (fun s => [.is rInt u.1, .is rInt u.2, .is rInt l463.1, .is rInt l463.2, .is rInt v_sign475]) (fun _ => rfl) (bx_ret (ex_tup2 (ex_bin op_fdivN vo_div stl_div (ex_bin op_mul vo_mul stl_mul (ex_var 4 cp_int fun _ => rfl) (ex_var 0 cp_int fun _ => rfl)) (ex_var 2 cp_int fun _ => rfl)) (ex_bin op_fdivN vo_div stl_div (ex_bin op_mul vo_mul stl_mul (ex_var 4 cp_int fun _ => rfl) (ex_var 1 cp_int fun _ => rfl)) (ex_var 2 cp_int fun _ => rfl))) (wio hio fun _ => (.un (.un (.un (.un (.un .nil))))))))) inferInstance (fun _ => rfl))))))) inferInstance inferInstance (fun _ => rfl) (fun _ => rfl)))⟩
theorem sc_worth : FnScope ["form", "cost", "above", "below", "steps", "turns"] ["form", "cost"] (defScope (Hd.tp 12)) := ⟨rfl, rfl, rfl, by decide +kernel, rfl, by decide +kernel, by decide +kernel⟩
theorem ok_worth  {d_lowest : FuncData} (c_lowest : FnOk P w K mg base (L2.CX P w) 1 (ga K "lowest") d_lowest ["above", "below"] (SpP K 2 (fun u : (Int × Int) => [.is rInt u.1, .is rInt u.2]) (rPair rInt rInt) m_lowest)) (g_lowest : mg "lowest" = some (.ref (ga K "lowest"))) (k_lowest : PySem.W.keepIn K (.ref (ga K "lowest")) = true) (b_lowest : Binds K d_lowest ["above", "below"] []) (FD : FunD K "worth" "worth" (defArgs (Hd.tp 12)) (defBody (Hd.tp 12)) (defScope (Hd.tp 12)) [] [] (ga K "worth") fd) : FnOk P w K mg base (L2.CX P w) 2 (ga K "worth") fd ["form", "cost"] (SpP K 2 (fun u : ((Int × Int) × (Int × Int)) => [.is (rPair rInt rInt) u.1, .is (rPair rInt rInt) u.2]) (rPair rInt rInt) m_worth) :=
  fn_pure (k := 1) FD sc_worth o_worth (fun _ => rfl) fun u cdv A outer s H E hr F hio hW => ⟨_, (bx_nf (fun s => [.is (rPair rInt rInt) u.1, .is (rPair rInt rInt) u.2, .un, .un, .un, .un]) (fun _ => rfl) (bx_tgt (Gt := fun s (w495 : (Int × Int)) => [.is (rPair rInt rInt) u.1, .is (rPair rInt rInt) u.2, .un, .un, .is rInt w495.1, .is rInt w495.2]) (ex_var 0 (cp_pair cp_int cp_int) fun _ => rfl) (fun _ => (eg_pair rfl (eg_name (i := 4) rfl sc_worth.nd) (fun _ => (eg_name (i := 5) rfl sc_worth.nd)) inferInstance)) (fun w495 => (bx_nf (fun s => [.is (rPair rInt rInt) u.1, .is (rPair rInt rInt) u.2, .un, .un, .is rInt w495.1, .is rInt w495.2]) (fun _ => rfl) (bx_tgt (Gt := fun s (w496 : (Int × Int)) => [.is (rPair rInt rInt) u.1, .is (rPair rInt rInt) u.2, .is rInt w496.1, .is rInt w496.2, .is rInt w495.1, .is rInt w495.2]) (ex_var 1 (cp_pair cp_int cp_int) fun _ => rfl) (fun _ => (eg_pair rfl (eg_name (i := 2) rfl sc_worth.nd) (fun _ => (eg_name (i := 3) rfl sc_worth.nd)) inferInstance)) (fun w496 => (bx_nf (fun s => [.is (rPair rInt rInt) u.1, .is (rPair rInt rInt) u.2, .is rInt w496.1, .is rInt w496.2, .is rInt w495.1, .is rInt w495.2]) (fun _ => rfl) (bx_ret (ex_call (E := E) (fun q509 => (q509.1, q509.2.1)) c_lowest (hr.mono (by decide)) rfl g_lowest k_lowest b_lowest (by exact passes_call (takes_of rfl rfl rfl rfl) fun _ _ _ _ h => h) (ea_cons (eo_t (ex_bin op_add (vo_I0 fun i j => i + j) (fun _ _ => stl_ret _) (ex_bin op_mul vo_mul stl_mul (ex_var 4 cp_int fun _ => rfl) (ex_var 3 cp_int fun _ => rfl)) (ex_bin op_mul vo_mul stl_mul (ex_var 5 cp_int fun _ => rfl) (ex_var 2 cp_int fun _ => rfl)))) (ea_cons (eo_t (ex_var 3 cp_int fun _ => rfl)) ea_nil)) (fun _ => rfl) (.inl ⟨(clo_pair clo_int clo_int), fun _ _ => (.cp cp_int .t (.cp cp_int .t .nil))⟩) (hWE hW) (wio hio fun _ => (.un (.un (.un (.un (.un (.un .nil)))))))) (wio hio fun _ => (.un (.un (.un (.un (.un (.un .nil)))))))))) inferInstance inferInstance))) inferInstance inferInstance))⟩
theorem sc_is_fraction : FnScope ["pair", "above", "below"] ["pair"] (defScope (Hd.tp 10)) := ⟨rfl, rfl, rfl, by decide +kernel, rfl, by decide +kernel, by decide +kernel⟩
theorem ok_is_fraction  {d_lowest : FuncData} (c_lowest : FnOk P w K mg base (L2.CX P w) 1 (ga K "lowest") d_lowest ["above", "below"] (SpP K 2 (fun u : (Int × Int) => [.is rInt u.1, .is rInt u.2]) (rPair rInt rInt) m_lowest)) (g_lowest : mg "lowest" = some (.ref (ga K "lowest"))) (k_lowest : PySem.W.keepIn K (.ref (ga K "lowest")) = true) (b_lowest : Binds K d_lowest ["above", "below"] []) (FD : FunD K "is_fraction" "is_fraction" (defArgs (Hd.tp 10)) (defBody (Hd.tp 10)) (defScope (Hd.tp 10)) [] [] (ga K "is_fraction") fd) : FnOk P w K mg base (L2.CX P w) 2 (ga K "is_fraction") fd ["pair"] (SpP K 1 (fun u : (Int × Int) => [.is (rPair rInt rInt) u]) rBool m_is_fraction) :=
  fn_pure (k := 1) FD sc_is_fraction o_is_fraction (fun _ => rfl) fun u cdv A outer s H E hr F hio hW => ⟨_, (bx_nf (fun s => [.is (rPair rInt rInt) u, .un, .un]) (fun _ => rfl) (bx_tgt (Gt := fun s (w511 : (Int × Int)) => [.is (rPair rInt rInt) u, .is rInt w511.1, .is rInt w511.2]) (ex_var 0 (cp_pair cp_int cp_int) fun _ => rfl) (fun _ => (eg_pair rfl (eg_name (i := 1) rfl sc_is_fraction.nd) (fun _ => (eg_name (i := 2) rfl sc_is_fraction.nd)) inferInstance)) (fun w511 => (bx_nf (fun s => [.is (rPair rInt rInt) u, .is rInt w511.1, .is rInt w511.2]) (fun _ => rfl) (bx_ret (ex_and (ex_cmp op_ge (vo_B0 fun i j => decide (j ≤ i)) (fun _ _ => stl_ret _) (ex_var 2 cp_int fun _ => rfl) ex_int rfl) (ex_one (ex_eqD hr.units (eo_t (ex_call (E := E) (fun q518 => (q518.1, q518.2.1)) c_lowest (hr.mono (by decide)) rfl g_lowest k_lowest b_lowest (by exact passes_call (takes_of rfl rfl rfl rfl) fun _ _ _ _ h => h) (ea_cons (eo_t (ex_var 1 cp_int fun _ => rfl)) (ea_cons (eo_t (ex_var 2 cp_int fun _ => rfl)) ea_nil)) (fun _ => rfl) (.inl ⟨(clo_pair clo_int clo_int), fun _ _ => (.cp cp_int .t (.cp cp_int .t .nil))⟩) (hWE hW) (wio hio fun _ => (.un (.un (.un .nil)))))) (eo_t (ex_tup2 (ex_var 1 cp_int fun _ => rfl) (ex_var 2 cp_int fun _ => rfl))) (fun _ _ => .mk (en_P enc_int enc_int) .t) (fun _ _ => .mk (en_P enc_int enc_int) .t)))) (wio hio fun _ => (.un (.un (.un .nil))))))) inferInstance inferInstance))⟩
theorem sc_is_cost : FnScope ["cost"] ["cost"] (defScope (Hd.tp 17)) := ⟨rfl, rfl, rfl, by decide +kernel, rfl, by decide +kernel, by decide +kernel⟩
theorem ok_is_cost  {d_is_fraction : FuncData} (c_is_fraction : FnOk P w K mg base (L2.CX P w) 2 (ga K "is_fraction") d_is_fraction ["pair"] (SpP K 1 (fun u : (Int × Int) => [.is (rPair rInt rInt) u]) rBool m_is_fraction)) (g_is_fraction : mg "is_fraction" = some (.ref (ga K "is_fraction"))) (k_is_fraction : PySem.W.keepIn K (.ref (ga K "is_fraction")) = true) (b_is_fraction : Binds K d_is_fraction ["pair"] []) (FD : FunD K "is_cost" "is_cost" (defArgs (Hd.tp 17)) (defBody (Hd.tp 17)) (defScope (Hd.tp 17)) [] [] (ga K "is_cost") fd) : FnOk P w K mg base (L2.CX P w) 3 (ga K "is_cost") fd ["cost"] (SpP K 1 (fun u : (Int × Int) => [.is (rPair rInt rInt) u]) rBool m_is_cost) :=
  fn_pure (k := 2) FD sc_is_cost o_is_cost (fun _ => rfl) fun u cdv A outer s H E hr F hio hW => ⟨_, (bx_nf (fun s => [.is (rPair rInt rInt) u]) (fun _ => rfl) (bx_ret (ex_and (ex_call (E := E) (fun q527 => q527.1) c_is_fraction (hr.mono (by decide)) rfl g_is_fraction k_is_fraction b_is_fraction (by exact passes_call (takes_of rfl rfl rfl rfl) fun _ _ _ _ h => h) (ea_cons (eo_t (ex_var 0 (cp_pair cp_int cp_int) fun _ => rfl)) ea_nil) (fun _ => rfl) (.inl ⟨clo_bool, fun _ _ => (.cp (cp_pair cp_int cp_int) .t .nil)⟩) (hWE hW) (wio hio fun _ => (.un .nil))) (ex_one (ex_cmp op_ge (vo_B0 fun i j => decide (j ≤ i)) (fun _ _ => stl_ret _) (ex_plc (eo_t (ex_var 0 (cp_pair cp_int cp_int) fun _ => rfl)) plc2_0 cp_int fun _ _ => .t) ex_int rfl))) (wio hio fun _ => (.un .nil))))⟩
theorem sc_check_cost : FnScope ["cost"] ["cost"] (defScope (Hd.tp 20)) := ⟨rfl, rfl, rfl, by decide +kernel, rfl, by decide +kernel, by decide +kernel⟩
theorem ok_check_cost  {d_is_cost : FuncData} (c_is_cost : FnOk P w K mg base (L2.CX P w) 3 (ga K "is_cost") d_is_cost ["cost"] (SpP K 1 (fun u : (Int × Int) => [.is (rPair rInt rInt) u]) rBool m_is_cost)) (g_is_cost : mg "is_cost" = some (.ref (ga K "is_cost"))) (k_is_cost : PySem.W.keepIn K (.ref (ga K "is_cost")) = true) (b_is_cost : Binds K d_is_cost ["cost"] []) (FD : FunD K "check_cost" "check_cost" (defArgs (Hd.tp 20)) (defBody (Hd.tp 20)) (defScope (Hd.tp 20)) [] [] (ga K "check_cost") fd) : FnOk P w K mg base (L2.CX P w) 4 (ga K "check_cost") fd ["cost"] (SpP K 1 (fun u : (Int × Int) => [.is (rPair rInt rInt) u]) rNon m_check_cost) :=
  fn_proc (k := 3) FD sc_check_cost o_check_cost (fun _ => rfl) fun u cdv A outer s H E hr F hio hW => ⟨_, (bx_nf (fun s => [.is (rPair rInt rInt) u]) (fun _ => rfl) (bx_ifr (GE_ := fun e _ => e.elim) (et_not (et_val (ex_call (E := E) (fun q539 => q539.1) c_is_cost (hr.mono (by decide)) rfl g_is_cost k_is_cost b_is_cost (by exact passes_call (takes_of rfl rfl rfl rfl) fun _ _ _ _ h => h) (ea_cons (eo_t (ex_var 0 (cp_pair cp_int cp_int) fun _ => rfl)) ea_nil) (fun _ => rfl) (.inl ⟨clo_bool, fun _ _ => (.cp (cp_pair cp_int cp_int) .t .nil)⟩) (hWE hW) (wio hio fun _ => (.un .nil))))) (bx_nf (fun s => [.is (rPair rInt rInt) u]) (fun _ => rfl) bx_no) (bx_end () fun _ => (.un .nil))))⟩
theorem sc_longest : FnScope ["tape", "asks", "row", "cost", "most", "told", "wait"] ["tape", "asks", "row", "cost"] (defScope (Hd.tp 26)) := ⟨rfl, rfl, rfl, by decide +kernel, rfl, by decide +kernel, by decide +kernel⟩
theorem ok_longest  {d_check_cost : FuncData} (c_check_cost : FnOk P w K mg base (L2.CX P w) 4 (ga K "check_cost") d_check_cost ["cost"] (SpP K 1 (fun u : (Int × Int) => [.is (rPair rInt rInt) u]) rNon m_check_cost)) (g_check_cost : mg "check_cost" = some (.ref (ga K "check_cost"))) (k_check_cost : PySem.W.keepIn K (.ref (ga K "check_cost")) = true) (b_check_cost : Binds K d_check_cost ["cost"] []) {d_is_less : FuncData} (c_is_less : FnOk P w K mg base (L2.CX P w) 1 (ga K "is_less") d_is_less ["one", "other"] (SpP K 2 (fun u : ((Int × Int) × (Int × Int)) => [.is (rPair rInt rInt) u.1, .is (rPair rInt rInt) u.2]) rBool m_is_less)) (g_is_less : mg "is_less" = some (.ref (ga K "is_less"))) (k_is_less : PySem.W.keepIn K (.ref (ga K "is_less")) = true) (b_is_less : Binds K d_is_less ["one", "other"] []) {d_waits : FuncData} (c_waits : FnOk P w K mg base (L2.CX P w) 5 (ga K "waits") d_waits ["tape", "asks", "row"] (SpP K 3 (fun u : ((Int × List (Int × Int)) × (List Int) × (List (Int × Int))) => [.is (sh rTape) u.1, .is (sh (rList rInt)) u.2.1, .is (sh (rList (rPair rInt rInt))) u.2.2]) (rList (rOpt (rPair rInt rInt))) m_waits)) (g_waits : mg "waits" = some (.ref (ga K "waits"))) (k_waits : PySem.W.keepIn K (.ref (ga K "waits")) = true) (b_waits : Binds K d_waits ["tape", "asks", "row"] []) {d_worth : FuncData} (c_worth : FnOk P w K mg base (L2.CX P w) 2 (ga K "worth") d_worth ["form", "cost"] (SpP K 2 (fun u : ((Int × Int) × (Int × Int)) => [.is (rPair rInt rInt) u.1, .is (rPair rInt rInt) u.2]) (rPair rInt rInt) m_worth)) (g_worth : mg "worth" = some (.ref (ga K "worth"))) (k_worth : PySem.W.keepIn K (.ref (ga K "worth")) = true) (b_worth : Binds K d_worth ["form", "cost"] []) (FD : FunD K "longest" "longest" (defArgs (Hd.tp 26)) (defBody (Hd.tp 26)) (defScope (Hd.tp 26)) [] [] (ga K "longest") fd) : FnOk P w K mg base (L2.CX P w) 6 (ga K "longest") fd ["tape", "asks", "row", "cost"] (SpP K 4 (fun u : ((Int × List (Int × Int)) × (List Int) × (List (Int × Int)) × (Int × Int)) => [.is (sh rTape) u.1, .is (sh (rList rInt)) u.2.1, .is (sh (rList (rPair rInt rInt))) u.2.2.1, .is (rPair rInt rInt) u.2.2.2]) (rPair rInt rInt) m_longest) :=
  fn_pure (k := 5) FD sc_longest o_longest (fun _ => rfl) fun u cdv A outer s H E hr F hio hW => ⟨_, (bx_nf (fun s => [.is (sh rTape) u.1, .is (sh (rList rInt)) u.2.1, .is (sh (rList (rPair rInt rInt))) u.2.2.1, .is (rPair rInt rInt) u.2.2.2, .un, .un, .un]) (fun _ => rfl) (bx_asg 5 sc_longest.nd (ex_freeze (ex_call (E := E) (fun q549 => (q549.1, q549.2.1, q549.2.2.1)) c_waits (hr.mono (by decide)) rfl g_waits k_waits b_waits (by exact passes_call (takes_of rfl rfl rfl rfl) fun _ _ _ _ h => h) (ea_cons (eo_t (ex_var 0 cp_sh fun _ => rfl)) (ea_cons (eo_t (ex_var 1 cp_sh fun _ => rfl)) (ea_cons (eo_t (ex_var 2 cp_sh fun _ => rfl)) ea_nil))) (fun _ => rfl) (.inl ⟨(clo_list (clo_opt (clo_pair clo_int clo_int))), fun _ _ => (.cp cp_sh .t (.cp cp_sh .t (.cp cp_sh .t .nil)))⟩) (hWE hW) (wio hio fun _ => (.un (.un (.un (.un (.eq (.eq (.eq .nil)))))))))) (fun v_told542 => (bx_nf (fun s => [.is (sh rTape) u.1, .is (sh (rList rInt)) u.2.1, .is (sh (rList (rPair rInt rInt))) u.2.2.1, .is (rPair rInt rInt) u.2.2.2, .un, .is (sh (rList (rOpt (rPair rInt rInt)))) v_told542, .un]) (fun _ => rfl) (bx_expr (ex_call (E := E) (fun q552 => q552.1) c_check_cost (hr.mono (by decide)) rfl g_check_cost k_check_cost b_check_cost (by exact passes_call (takes_of rfl rfl rfl rfl) fun _ _ _ _ h => h) (ea_cons (eo_t (ex_var 3 (cp_pair cp_int cp_int) fun _ => rfl)) ea_nil) (fun _ => rfl) (.inl ⟨clo_non, fun _ _ => (.cp (cp_pair cp_int cp_int) .t .nil)⟩) (hWE hW) (wio hio fun _ => (.un (.un (.un (.un (.eq (.un (.eq .nil))))))))) (bx_nf (fun s => [.is (sh rTape) u.1, .is (sh (rList rInt)) u.2.1, .is (sh (rList (rPair rInt rInt))) u.2.2.1, .is (rPair rInt rInt) u.2.2.2, .un, .is (sh (rList (rOpt (rPair rInt rInt)))) v_told542, .un]) (fun _ => rfl) (bx_asg 4 sc_longest.nd (ex_tup2 ex_int ex_int) (fun v_most553 => (bx_nf (fun s => [.is (sh rTape) u.1, .is (sh (rList rInt)) u.2.1, .is (sh (rList (rPair rInt rInt))) u.2.2.1, .is (rPair rInt rInt) u.2.2.2, .is (rPair rInt rInt) v_most553, .is (sh (rList (rOpt (rPair rInt rInt)))) v_told542, .un]) (fun _ => rfl) (bx_for (Gt := fun (l556 : (Int × Int)) s (x557 : (Option (Int × Int))) => [.is (sh rTape) u.1, .is (sh (rList rInt)) u.2.1, .is (sh (rList (rPair rInt rInt))) u.2.2.1, .is (rPair rInt rInt) u.2.2.2, .is (rPair rInt rInt) l556, .is (sh (rList (rOpt (rPair rInt rInt)))) v_told542, .is (rOpt (rPair rInt rInt)) x557]) (passes_of rfl) rfl (fun (l556 : (Int × Int)) s => [.is (sh rTape) u.1, .is (sh (rList rInt)) u.2.1, .is (sh (rList (rPair rInt rInt))) u.2.2.1, .is (rPair rInt rInt) u.2.2.2, .is (rPair rInt rInt) l556, .is (sh (rList (rOpt (rPair rInt rInt)))) v_told542, .un]) v_most553 (ei_sh (ex_var 5 cp_sh fun _ => rfl) (cp_opt (cp_pair cp_int cp_int))) (fun _ => (.eq (.eq (.eq (.eq (.eq (.eq (.eq .nil)))))))) (fun _ _ => trivial) (fun l556 _ => (eg_name (i := 6) rfl sc_longest.nd)) (fun l556 x557 => (bx_nf (fun s => [.is (sh rTape) u.1, .is (sh (rList rInt)) u.2.1, .is (sh (rList (rPair rInt rInt))) u.2.2.1, .is (rPair rInt rInt) u.2.2.2, .is (rPair rInt rInt) l556, .is (sh (rList (rOpt (rPair rInt rInt)))) v_told542, .is (rOpt (rPair rInt rInt)) x557]) (fun _ => rfl) (bx_if (GJ := fun (n591 : (Int × Int)) s => [.is (sh rTape) u.1, .is (sh (rList rInt)) u.2.1, .is (sh (rList (rPair rInt rInt))) u.2.2.1, .is (rPair rInt rInt) u.2.2.2, .is (rPair rInt rInt) n591, .is (sh (rList (rOpt (rPair rInt rInt)))) v_told542, .is (rOpt (rPair rInt rInt)) x557]) (et_w (ew_and (et_notN nn_pair (eo_t (ex_var 6 (cp_opt (cp_pair cp_int cp_int)) fun _ => rfl)) fun _ _ => .t) (ew_and1 (et_val (ex_call (E := E) (fun q581 => (q581.1, q581.2.1)) c_is_less (hr.mono (by decide)) rfl g_is_less k_is_less b_is_less (by exact passes_call (takes_of rfl rfl rfl rfl) fun _ _ _ _ h => h) (ea_cons (eo_t (ex_var 4 (cp_pair cp_int cp_int) fun _ => rfl)) (ea_cons (eo_t (ex_call (E := E) (fun q576 => (q576.1, q576.2.1)) c_worth (hr.mono (by decide)) rfl g_worth k_worth b_worth (by exact passes_call (takes_of rfl rfl rfl rfl) fun _ _ _ _ h => h) (ea_cons (eo_t (ex_unopt (ex_var 6 (cp_opt (cp_pair cp_int cp_int)) fun _ => rfl))) (ea_cons (eo_t (ex_var 3 (cp_pair cp_int cp_int) fun _ => rfl)) ea_nil)) (fun _ => rfl) (.inl ⟨(clo_pair clo_int clo_int), fun _ _ => (.cp (cp_pair cp_int cp_int) .t (.cp (cp_pair cp_int cp_int) .t .nil))⟩) (hWE hW) (wio hio fun _ => (.un (.un (.un (.un (.un (.un (.un .nil)))))))))) ea_nil)) (fun _ => rfl) (.inl ⟨clo_bool, fun _ _ => (.cp (cp_pair cp_int cp_int) .t (.cp (cp_pair cp_int cp_int) .t .nil))⟩) (hWE hW) (wio hio fun _ => (.un (.un (.un (.un (.un (.un (.un .nil))))))))))))) (bx_nf (fun s => [.is (sh rTape) u.1, .is (sh (rList rInt)) u.2.1, .is (sh (rList (rPair rInt rInt))) u.2.2.1, .is (rPair rInt rInt) u.2.2.2, .is (rPair rInt rInt) l556, .is (sh (rList (rOpt (rPair rInt rInt)))) v_told542, .is (rOpt (rPair rInt rInt)) x557]) (fun _ => rfl) (bx_asg 4 sc_longest.nd (ex_call (E := E) (fun q598 => (q598.1, q598.2.1)) c_worth (hr.mono (by decide)) rfl g_worth k_worth b_worth (by exact passes_call (takes_of rfl rfl rfl rfl) fun _ _ _ _ h => h) (ea_cons (eo_t (ex_unopt (ex_var 6 (cp_opt (cp_pair cp_int cp_int)) fun _ => rfl))) (ea_cons (eo_t (ex_var 3 (cp_pair cp_int cp_int) fun _ => rfl)) ea_nil)) (fun _ => rfl) (.inl ⟨(clo_pair clo_int clo_int), fun _ _ => (.cp (cp_pair cp_int cp_int) .t (.cp (cp_pair cp_int cp_int) .t .nil))⟩) (hWE hW) (wio hio fun _ => (.un (.un (.un (.un (.un (.un (.un .nil))))))))) (fun v_most592 => (bx_end v_most592 fun _ => (.eq (.eq (.eq (.eq (.eq (.eq (.eq .nil))))))))) inferInstance (fun _ => rfl))) (bx_end l556 fun _ => (.eq (.eq (.eq (.eq (.eq (.eq (.eq .nil)))))))) (fun n591 => (bx_end n591 fun _ => (.eq (.eq (.eq (.eq (.eq (.eq (.un .nil))))))))) inferInstance))) (fun l556 => (bx_nf (fun s => [.is (sh rTape) u.1, .is (sh (rList rInt)) u.2.1, .is (sh (rList (rPair rInt rInt))) u.2.2.1, .is (rPair rInt rInt) u.2.2.2, .is (rPair rInt rInt) l556, .is (sh (rList (rOpt (rPair rInt rInt)))) v_told542, .un]) (fun _ => rfl) (bx_ret (ex_var 4 (cp_pair cp_int cp_int) fun _ => rfl) (wio hio fun _ => (.un (.un (.un (.un (.un (.un (.eq .nil))))))))))) inferInstance inferInstance))) inferInstance (fun _ => rfl)))))) inferInstance (fun _ => rfl)))⟩
theorem sc__law_td_pick : FnScope ["_law_sack", "_law_many", "_law_drawn", "_law_stirred"] ["_law_sack", "_law_many"] (defScope (Hd.tp 31)) := ⟨rfl, rfl, rfl, by decide +kernel, rfl, by decide +kernel, by decide +kernel⟩
theorem ok__law_td_pick (f_int : mg "int" = none) (FD : FunD K "_law_td_pick" "_law_td_pick" (defArgs (Hd.tp 31)) (defBody (Hd.tp 31)) (defScope (Hd.tp 31)) [] [] (ga K "_law_td_pick") fd) : FnOk P w K mg base (L2.CX P w) 1 (ga K "_law_td_pick") fd ["_law_sack", "_law_many"] (SpI K 2 (rList rInt) (fun u : Int => [.is rInt u]) rInt m__law_td_pick) :=
  fn_io (k := 0) FD sc__law_td_pick o__law_td_pick (fun _ => rfl) fun u v0 cdv A outer s H E hr F hio hW => ⟨_, (bx_nf (fun s => [.pn v0 (rList rInt) s, .is rInt u, .un, .un]) (fun _ => rfl) (bx_ifr (GE_ := fun e _ => e.elim) (et_cmp op_gt (vo_B0 fun i j => decide (j < i)) (fun _ _ => stl_ret _) (ex_stix 0 ex_int cp_int (fun _ => rfl) (fun _ => rfl)) ex_int rfl) (bx_nf (fun s => [.pn v0 (rList rInt) s, .is rInt u, .un, .un]) (fun _ => rfl) (bx_asg 2 sc__law_td_pick.nd (ex_bin op_modN vo_mod stl_mod (ex_intI (ex_stix 0 ex_int cp_int (fun _ => rfl) (fun _ => rfl)) rfl f_int) (ex_var 1 cp_int fun _ => rfl)) (fun v_law_drawn604 => (bx_nf (fun s => [.pn v0 (rList rInt) s, .is rInt u, .is rInt v_law_drawn604, .un]) (fun _ => rfl) (bx_stset 0 cp_int (ex_bin op_fdivW vo_divW stl_divW (ex_stix 0 ex_int cp_int (fun _ => rfl) (fun _ => rfl)) (ex_var 1 cp_int fun _ => rfl)) ex_int (fun _ => rfl) (fun _ => rfl) (fun _ _ => rfl) (bx_nf (fun s => [.pn v0 (rList rInt) s, .is rInt u, .is rInt v_law_drawn604, .un]) (fun _ => rfl) (bx_ret (ex_var 2 cp_int fun _ => rfl) (wios hio fun _ => (.eq (.un (.un (.eq .nil)))))))))) inferInstance (fun _ => rfl))) (bx_nf (fun s => [.pn v0 (rList rInt) s, .is rInt u, .un, .un]) (fun _ => rfl) (bx_stset 0 cp_int (ex_bin op_add (vo_I0 fun i j => i + j) (fun _ _ => stl_ret _) (ex_stix 0 ex_int cp_int (fun _ => rfl) (fun _ => rfl)) ex_int) ex_int (fun _ => rfl) (fun _ => rfl) (fun _ _ => rfl) (bx_nf (fun s => [.pn v0 (rList rInt) s, .is rInt u, .un, .un]) (fun _ => rfl) (bx_asg 3 sc__law_td_pick.nd (ex_bin op_modN vo_mod stl_mod (ex_bin op_powV vo_pow stl_pow (ex_intI (ex_bin op_add (vo_I0 fun i j => i + j) (fun _ _ => stl_ret _) (ex_stix 0 ex_int cp_int (fun _ => rfl) (fun _ => rfl)) (ex_bin op_mulW vo_mulW stl_mulW ex_int (ex_stix 0 ex_int cp_int (fun _ => rfl) (fun _ => rfl)))) rfl f_int) ex_int) (ex_bin op_add (vo_I0 fun i j => i + j) (fun _ _ => stl_ret _) (ex_bin op_powV vo_pow stl_pow ex_int ex_int) ex_int)) (fun v_law_stirred626 => (bx_nf (fun s => [.pn v0 (rList rInt) s, .is rInt u, .un, .is rInt v_law_stirred626]) (fun _ => rfl) (bx_asg 3 sc__law_td_pick.nd (ex_bin op_modN vo_mod stl_mod (ex_bin op_powV vo_pow stl_pow (ex_intI (ex_bin op_add (vo_I0 fun i j => i + j) (fun _ _ => stl_ret _) (ex_var 3 cp_int fun _ => rfl) (ex_bin op_mulW vo_mulW stl_mulW ex_int (ex_stix 0 ex_int cp_int (fun _ => rfl) (fun _ => rfl)))) rfl f_int) ex_int) (ex_bin op_add (vo_I0 fun i j => i + j) (fun _ _ => stl_ret _) (ex_bin op_powV vo_pow stl_pow ex_int ex_int) ex_int)) (fun v_law_stirred675 => (bx_nf (fun s => [.pn v0 (rList rInt) s, .is rInt u, .un, .is rInt v_law_stirred675]) (fun _ => rfl) (bx_ret (ex_bin op_modN vo_mod stl_mod (ex_intI (ex_bin op_fdivW vo_divW stl_divW (ex_var 3 cp_int fun _ => rfl) ex_int) rfl f_int) (ex_var 1 cp_int fun _ => rfl)) (wios hio fun _ => (.eq (.un (.eq (.un .nil)))))))) inferInstance (fun _ => rfl)))) inferInstance (fun _ => rfl)))))))⟩
theorem sc__law_td_counts : FnScope ["_law_sack", "_law_many", "_law_top", "_law_most", "_law_count", "_law_drawn", "_law_found", "_law_turn"] ["_law_sack", "_law_many", "_law_top", "_law_most"] (defScope (Hd.tp 35)) := ⟨rfl, rfl, rfl, by decide +kernel, rfl, by decide +kernel, by decide +kernel⟩
theorem bk__law_td_counts_0 : BlkOk ["_law_sack", "_law_many", "_law_top", "_law_most", "_law_count", "_law_drawn", "_law_found", "_law_turn"] (defScope (Hd.tp 35)) { kind := .function, names := [(".0", .local), ("_law_count", .local)], isGenerator := false, isCoroutine := false, more := [] } [("_law_count", 4)] := blkOk_by (by decide +kernel)
theorem ok__law_td_counts (f_len : mg "len" = none) (f_range : mg "range" = none) {d__law_td_pick : FuncData} (c__law_td_pick : FnOk P w K mg base (L2.CX P w) 1 (ga K "_law_td_pick") d__law_td_pick ["_law_sack", "_law_many"] (SpI K 2 (rList rInt) (fun u : Int => [.is rInt u]) rInt m__law_td_pick)) (g__law_td_pick : mg "_law_td_pick" = some (.ref (ga K "_law_td_pick"))) (k__law_td_pick : PySem.W.keepIn K (.ref (ga K "_law_td_pick")) = true) (b__law_td_pick : Binds K d__law_td_pick ["_law_sack", "_law_many"] []) (FD : FunD K "_law_td_counts" "_law_td_counts" (defArgs (Hd.tp 35)) (defBody (Hd.tp 35)) (defScope (Hd.tp 35)) [] [] (ga K "_law_td_counts") fd) : FnOk P w K mg base (L2.CX P w) 2 (ga K "_law_td_counts") fd ["_law_sack", "_law_many", "_law_top", "_law_most"] (SpI K 4 (rList rInt) (fun u : (Int × Int × Int) => [.is rInt u.1, .is rInt u.2.1, .is rInt u.2.2]) (rList rInt) m__law_td_counts) :=
  fn_io (k := 1) FD sc__law_td_counts o__law_td_counts (fun _ => rfl) fun u v0 cdv A outer s H E hr F hio hW => ⟨_, (bx_nf (fun s => [.pn v0 (rList rInt) s, .is rInt u.1, .is rInt u.2.1, .is rInt u.2.2, .un, .un, .un, .un]) (fun _ => rfl) (bx_asg 6 sc__law_td_counts.nd (ex_lst (r := rInt) el_nil) (fun v_law_found727 => (bx_nf (fun s => [.pn v0 (rList rInt) s, .is rInt u.1, .is rInt u.2.1, .is rInt u.2.2, .un, .un, .is (rList rInt) v_law_found727, .un]) (fun _ => rfl) (bx_for (Gt := fun (l729 : (List Int)) s (x732 : Int) => [.pn v0 (rList rInt) s, .is rInt u.1, .is rInt u.2.1, .is rInt u.2.2, .un, .un, .is (rList rInt) l729, .is rInt x732]) (passes_of rfl) rfl (fun (l729 : (List Int)) s => [.pn v0 (rList rInt) s, .is rInt u.1, .is rInt u.2.1, .is rInt u.2.2, .un, .un, .is (rList rInt) l729, .un]) v_law_found727 (ei_rng1 (ex_var 1 cp_int fun _ => rfl) rfl f_range) (fun _ => (.eq (.eq (.eq (.eq (.eq (.eq (.eq (.eq .nil))))))))) (fun _ _ => trivial) (fun l729 _ => (eg_name (i := 7) rfl sc__law_td_counts.nd)) (fun l729 x732 => (bx_nf (fun s => [.pn v0 (rList rInt) s, .is rInt u.1, .is rInt u.2.1, .is rInt u.2.2, .un, .un, .is (rList rInt) l729, .is rInt x732]) (fun _ => rfl) (bx_asg 5 sc__law_td_counts.nd (ex_ix (eo_t (ex_lst (r := rInt) (el_cons ex_int (el_cons ex_int (el_cons (ex_bin op_add (vo_I0 fun i j => i + j) (fun _ _ => stl_ret _) ex_int (ex_callIo (E := E) 0 (fun q738 => q738.2.1) c__law_td_pick (hr.mono (by decide)) rfl g__law_td_pick k__law_td_pick b__law_td_pick (by exact passes_call (takes_of rfl rfl rfl rfl) fun _ _ _ _ h => h) (clo_list clo_int) (ea_cons (eo_pn (U := Unit) (a := ()) 0 fun _ => rfl) (ea_cons (eo_t (ex_var 2 cp_int fun _ => rfl)) ea_nil)) (fun _ => rfl) (fun _ => rfl) (fun _ _ => rfl) (fun _ _ => (.cp cp_int (.tc cp_int) .nil)) (hWE hW) (wios hio fun _ => (.eq (.un (.un (.un (.eq (.eq (.un (.un .nil))))))))))) el_nil))))) (ex_callIo (E := E) 0 (fun q750 => q750.2.1) c__law_td_pick (hr.mono (by decide)) rfl g__law_td_pick k__law_td_pick b__law_td_pick (by exact passes_call (takes_of rfl rfl rfl rfl) fun _ _ _ _ h => h) (clo_list clo_int) (ea_cons (eo_pn (U := Unit) (a := ()) 0 fun _ => rfl) (ea_cons (eo_t ex_int) ea_nil)) (fun _ => rfl) (fun _ => rfl) (fun _ _ => rfl) (fun _ _ => (.cp cp_int (.tc cp_int) .nil)) (hWE hW) (wios hio fun _ => (.eq (.un (.un (.un (.eq (.eq (.un (.un .nil)))))))))) cp_int fun _ _ => .t) (fun v_law_drawn733 => (bx_nf (fun s => [.pn v0 (rList rInt) s, .is rInt u.1, .is rInt u.2.1, .is rInt u.2.2, .un, .is rInt v_law_drawn733, .is (rList rInt) l729, .is rInt x732]) (fun _ => rfl) (bx_app 6 (ex_if (et_cmp op_lt (vo_B0 fun i j => decide (i < j)) (fun _ _ => stl_ret _) (ex_len (eo_t (ex_pin 6 (fun _ => rfl) (fun _ => rfl) fun pw753 => (ex_lcU (Gt := fun s (x754 : Int) => [.pn v0 (rList rInt) s, .is rInt u.1, .is rInt u.2.1, .is rInt u.2.2, .is rInt x754, .is rInt v_law_drawn733, .pn pw753 (rList rInt) l729, .is rInt x732]) s rfl sc__law_td_counts.nd (ei_pin 6 (fun _ => rfl) cp_int) (fun _ => rfl) bk__law_td_counts_0 (fun _ => (.cons rfl .nil)) (by exact fun _ h => h) (fun _ _ => (.eq (.eq (.eq (.eq (.un (.eq (.eq (.eq .nil))))))))) (fun _ _ _ _ _ _ => (eg_name (i := 4) rfl sc__law_td_counts.nd)) (fun _ _ _ _ _ x754 => (ets_one (et_cmp op_gt (vo_B0 fun i j => decide (j < i)) (fun _ _ => stl_ret _) (ex_var 4 cp_int fun _ => rfl) ex_int rfl))) (fun _ _ _ _ _ x754 => (ex_var 4 cp_int fun _ => rfl)) inferInstance inferInstance))) (fun _ _ => .t) rfl f_len) (ex_var 3 cp_int fun _ => rfl) rfl) (ex_var 5 cp_int fun _ => rfl) ex_int) (fun _ => rfl) (fun _ => rfl) fun v_law_found762 => (bx_end v_law_found762 fun _ => (.eq (.eq (.eq (.eq (.eq (.un (.eq (.un .nil)))))))))))) inferInstance (fun _ => rfl)))) (fun l729 => (bx_nf (fun s => [.pn v0 (rList rInt) s, .is rInt u.1, .is rInt u.2.1, .is rInt u.2.2, .un, .un, .is (rList rInt) l729, .un]) (fun _ => rfl) (bx_ret (ex_mv 6 fun _ => rfl) (wios hio fun _ => (.eq (.un (.un (.un (.eq (.eq (.eq (.eq .nil)))))))))))) inferInstance inferInstance))) inferInstance (fun _ => rfl)))⟩
theorem sc__law_td_asked : FnScope ["_law_counts", "_law_count", "_law_spot"] ["_law_counts"] (defScope (Hd.tp 36)) := ⟨rfl, rfl, rfl, by decide +kernel, rfl, by decide +kernel, by decide +kernel⟩
theorem bk__law_td_asked_0 : BlkOk ["_law_counts", "_law_count", "_law_spot"] (defScope (Hd.tp 36)) { kind := .function, names := [(".0", .local), ("_law_spot", .local), ("_law_count", .local)], isGenerator := false, isCoroutine := false, more := [] } [("_law_spot", 2), ("_law_count", 1)] := blkOk_by (by decide +kernel)
theorem ok__law_td_asked (f_enumerate : mg "enumerate" = none) (FD : FunD K "_law_td_asked" "_law_td_asked" (defArgs (Hd.tp 36)) (defBody (Hd.tp 36)) (defScope (Hd.tp 36)) [] [] (ga K "_law_td_asked") fd) : FnOk P w K mg base (L2.CX P w) 1 (ga K "_law_td_asked") fd ["_law_counts"] (SpP K 1 (fun u : (List Int) => [.is (sh (rList rInt)) u]) (rList rInt) m__law_td_asked) :=
  fn_pure (k := 0) FD sc__law_td_asked o__law_td_asked (fun _ => rfl) fun u cdv A outer s H E hr F hio hW => ⟨_, (bx_nf (fun s => [.is (sh (rList rInt)) u, .un, .un]) (fun _ => rfl) (bx_ret (ex_lcU (Gt := fun s (x765 : (Int × Int)) => [.is (sh (rList rInt)) u, .is rInt x765.2, .is rInt x765.1]) s rfl sc__law_td_asked.nd (ei_enum (ex_var 0 cp_sh fun _ => rfl) cp_int rfl f_enumerate) (fun _ => trivial) bk__law_td_asked_0 (fun _ => (.cons rfl (.cons rfl .nil))) (by exact fun _ h => h) (fun _ _ => (.eq (.un (.un .nil)))) (fun _ _ _ _ _ _ => (eg_pair rfl (eg_name (i := 2) rfl sc__law_td_asked.nd) (fun _ => (eg_name (i := 1) rfl sc__law_td_asked.nd)) inferInstance)) (fun _ _ _ _ _ x765 => (ets_one (et_cmp op_gt (vo_B0 fun i j => decide (j < i)) (fun _ _ => stl_ret _) (ex_var 1 cp_int fun _ => rfl) ex_int rfl))) (fun _ _ _ _ _ x765 => (ex_var 2 cp_int fun _ => rfl)) inferInstance inferInstance) (wio hio fun _ => (.un (.eq (.eq .nil))))))⟩
theorem sc__law_td_bends : FnScope ["_law_sack", "_law_counts", "_law_asked", "_law_far", "_law_found", "_law_more", "_law_often", "_law_rank"] ["_law_sack", "_law_counts"] (defScope (Hd.tp 37)) := ⟨rfl, rfl, rfl, by decide +kernel, rfl, by decide +kernel, by decide +kernel⟩
theorem ok__law_td_bends (f_len : mg "len" = none) (f_range : mg "range" = none) {d__law_td_asked : FuncData} (c__law_td_asked : FnOk P w K mg base (L2.CX P w) 1 (ga K "_law_td_asked") d__law_td_asked ["_law_counts"] (SpP K 1 (fun u : (List Int) => [.is (sh (rList rInt)) u]) (rList rInt) m__law_td_asked)) (g__law_td_asked : mg "_law_td_asked" = some (.ref (ga K "_law_td_asked"))) (k__law_td_asked : PySem.W.keepIn K (.ref (ga K "_law_td_asked")) = true) (b__law_td_asked : Binds K d__law_td_asked ["_law_counts"] []) {d__law_td_pick : FuncData} (c__law_td_pick : FnOk P w K mg base (L2.CX P w) 1 (ga K "_law_td_pick") d__law_td_pick ["_law_sack", "_law_many"] (SpI K 2 (rList rInt) (fun u : Int => [.is rInt u]) rInt m__law_td_pick)) (g__law_td_pick : mg "_law_td_pick" = some (.ref (ga K "_law_td_pick"))) (k__law_td_pick : PySem.W.keepIn K (.ref (ga K "_law_td_pick")) = true) (b__law_td_pick : Binds K d__law_td_pick ["_law_sack", "_law_many"] []) (FD : FunD K "_law_td_bends" "_law_td_bends" (defArgs (Hd.tp 37)) (defBody (Hd.tp 37)) (defScope (Hd.tp 37)) [] [] (ga K "_law_td_bends") fd) : FnOk P w K mg base (L2.CX P w) 2 (ga K "_law_td_bends") fd ["_law_sack", "_law_counts"] (SpI K 2 (rList rInt) (fun u : (List Int) => [.is (sh (rList rInt)) u]) (rList (rPair rInt rInt)) m__law_td_bends) :=
  fn_io (k := 1) FD sc__law_td_bends o__law_td_bends (fun _ => rfl) fun u v0 cdv A outer s H E hr F hio hW => ⟨_, (bx_nf (fun s => [.pn v0 (rList rInt) s, .is (sh (rList rInt)) u, .un, .un, .un, .un, .un, .un]) (fun _ => rfl) (bx_par 2 4 sc__law_td_bends.nd rfl (by decide) (ex_freeze (ex_call (E := E) (fun q771 => q771.1) c__law_td_asked (hr.mono (by decide)) rfl g__law_td_asked k__law_td_asked b__law_td_asked (by exact passes_call (takes_of rfl rfl rfl rfl) fun _ _ _ _ h => h) (ea_cons (eo_t (ex_var 1 cp_sh fun _ => rfl)) ea_nil) (fun _ => rfl) (.inl ⟨(clo_list clo_int), fun _ _ => (.cp cp_sh .t .nil)⟩) (hWE hW) (wios hio fun _ => (.eq (.un (.eq (.eq (.eq (.eq (.eq (.eq .nil))))))))))) (ex_lst (r := (rPair rInt rInt)) el_nil) (fun v_law_asked773 v_law_found774 => (bx_nf (fun s => [.pn v0 (rList rInt) s, .is (sh (rList rInt)) u, .is (sh (rList rInt)) v_law_asked773, .un, .is (rList (rPair rInt rInt)) v_law_found774, .un, .un, .un]) (fun _ => rfl) (bx_par 6 3 sc__law_td_bends.nd rfl (by decide) (ex_bin op_add (vo_I0 fun i j => i + j) (fun _ _ => stl_ret _) ex_int (ex_callIo (E := E) 0 (fun q777 => q777.2.1) c__law_td_pick (hr.mono (by decide)) rfl g__law_td_pick k__law_td_pick b__law_td_pick (by exact passes_call (takes_of rfl rfl rfl rfl) fun _ _ _ _ h => h) (clo_list clo_int) (ea_cons (eo_pn (U := Unit) (a := ()) 0 fun _ => rfl) (ea_cons (eo_t ex_int) ea_nil)) (fun _ => rfl) (fun _ => rfl) (fun _ _ => rfl) (fun _ _ => (.cp cp_int (.tc cp_int) .nil)) (hWE hW) (wios hio fun _ => (.eq (.un (.un (.eq (.un (.eq (.eq (.eq .nil))))))))))) (ex_callIo (E := E) 0 (fun q783 => q783.2.1) c__law_td_pick (hr.mono (by decide)) rfl g__law_td_pick k__law_td_pick b__law_td_pick (by exact passes_call (takes_of rfl rfl rfl rfl) fun _ _ _ _ h => h) (clo_list clo_int) (ea_cons (eo_pn (U := Unit) (a := ()) 0 fun _ => rfl) (ea_cons (eo_t ex_int) ea_nil)) (fun _ => rfl) (fun _ => rfl) (fun _ _ => rfl) (fun _ _ => (.cp cp_int (.tc cp_int) .nil)) (hWE hW) (wios hio fun _ => (.eq (.un (.un (.eq (.un (.eq (.eq (.eq .nil)))))))))) (fun v_law_often785 v_law_far786 => (bx_nf (fun s => [.pn v0 (rList rInt) s, .is (sh (rList rInt)) u, .is (sh (rList rInt)) v_law_asked773, .is rInt v_law_far786, .is (rList (rPair rInt rInt)) v_law_found774, .un, .is rInt v_law_often785, .un]) (fun _ => rfl) (bx_for (Gt := fun (l787 : (List (Int × Int))) s (x794 : Int) => [.pn v0 (rList rInt) s, .is (sh (rList rInt)) u, .is (sh (rList rInt)) v_law_asked773, .is rInt v_law_far786, .is (rList (rPair rInt rInt)) l787, .un, .is rInt v_law_often785, .is rInt x794]) (passes_of rfl) rfl (fun (l787 : (List (Int × Int))) s => [.pn v0 (rList rInt) s, .is (sh (rList rInt)) u, .is (sh (rList rInt)) v_law_asked773, .is rInt v_law_far786, .is (rList (rPair rInt rInt)) l787, .un, .is rInt v_law_often785, .un]) v_law_found774 (ei_rng3 (ex_bin op_sub (vo_I0 fun i j => i - j) (fun _ _ => stl_ret _) (ex_len (eo_t (ex_var 2 cp_sh fun _ => rfl)) (fun _ _ => .ts) rfl f_len) ex_int) ex_int rfl f_range) (fun _ => (.eq (.eq (.eq (.eq (.eq (.eq (.eq (.eq .nil))))))))) (fun _ _ => trivial) (fun l787 _ => (eg_name (i := 7) rfl sc__law_td_bends.nd)) (fun l787 x794 => (bx_nf (fun s => [.pn v0 (rList rInt) s, .is (sh (rList rInt)) u, .is (sh (rList rInt)) v_law_asked773, .is rInt v_law_far786, .is (rList (rPair rInt rInt)) l787, .un, .is rInt v_law_often785, .is rInt x794]) (fun _ => rfl) (bx_if (GJ := fun (n840 : (List (Int × Int))) s => [.pn v0 (rList rInt) s, .is (sh (rList rInt)) u, .is (sh (rList rInt)) v_law_asked773, .is rInt v_law_far786, .is (rList (rPair rInt rInt)) n840, .un, .is rInt v_law_often785, .is rInt x794]) (et_cmp op_lt (vo_B0 fun i j => decide (i < j)) (fun _ _ => stl_ret _) (ex_callIo (E := E) 0 (fun q797 => q797.2.1) c__law_td_pick (hr.mono (by decide)) rfl g__law_td_pick k__law_td_pick b__law_td_pick (by exact passes_call (takes_of rfl rfl rfl rfl) fun _ _ _ _ h => h) (clo_list clo_int) (ea_cons (eo_pn (U := Unit) (a := ()) 0 fun _ => rfl) (ea_cons (eo_t ex_int) ea_nil)) (fun _ => rfl) (fun _ => rfl) (fun _ _ => rfl) (fun _ _ => (.cp cp_int (.tc cp_int) .nil)) (hWE hW) (wios hio fun _ => (.eq (.un (.un (.un (.un (.eq (.un (.un .nil)))))))))) (ex_var 6 cp_int fun _ => rfl) rfl) (bx_nf (fun s => [.pn v0 (rList rInt) s, .is (sh (rList rInt)) u, .is (sh (rList rInt)) v_law_asked773, .is rInt v_law_far786, .is (rList (rPair rInt rInt)) l787, .un, .is rInt v_law_often785, .is rInt x794]) (fun _ => rfl) (bx_asg 5 sc__law_td_bends.nd (ex_callIo (E := E) 0 (fun q848 => q848.2.1) c__law_td_pick (hr.mono (by decide)) rfl g__law_td_pick k__law_td_pick b__law_td_pick (by exact passes_call (takes_of rfl rfl rfl rfl) fun _ _ _ _ h => h) (clo_list clo_int) (ea_cons (eo_pn (U := Unit) (a := ()) 0 fun _ => rfl) (ea_cons (eo_t (ex_bin op_sub (vo_I0 fun i j => i - j) (fun _ _ => stl_ret _) (ex_len (eo_t (ex_var 2 cp_sh fun _ => rfl)) (fun _ _ => .ts) rfl f_len) (ex_var 7 cp_int fun _ => rfl))) ea_nil)) (fun _ => rfl) (fun _ => rfl) (fun _ _ => rfl) (fun _ _ => (.cp cp_int (.tc cp_int) .nil)) (hWE hW) (wios hio fun _ => (.eq (.un (.un (.un (.un (.eq (.un (.un .nil)))))))))) (fun v_law_more841 => (bx_nf (fun s => [.pn v0 (rList rInt) s, .is (sh (rList rInt)) u, .is (sh (rList rInt)) v_law_asked773, .is rInt v_law_far786, .is (rList (rPair rInt rInt)) l787, .is rInt v_law_more841, .is rInt v_law_often785, .is rInt x794]) (fun _ => rfl) (bx_app 4 (ex_tup2 (ex_ix (eo_t (ex_var 2 cp_sh fun _ => rfl)) (ex_var 7 cp_int fun _ => rfl) cp_int fun _ _ => .ts) (ex_ix (eo_t (ex_var 2 cp_sh fun _ => rfl)) (ex_bin op_add (vo_I0 fun i j => i + j) (fun _ _ => stl_ret _) (ex_var 7 cp_int fun _ => rfl) (ex_ix (eo_t (ex_lst (r := rInt) (el_cons (ex_var 5 cp_int fun _ => rfl) (el_cons ex_int (el_cons (ex_bin op_sub (vo_I0 fun i j => i - j) (fun _ _ => stl_ret _) (ex_bin op_sub (vo_I0 fun i j => i - j) (fun _ _ => stl_ret _) (ex_len (eo_t (ex_var 2 cp_sh fun _ => rfl)) (fun _ _ => .ts) rfl f_len) ex_int) (ex_var 7 cp_int fun _ => rfl)) el_nil))))) (ex_var 3 cp_int fun _ => rfl) cp_int fun _ _ => .t)) cp_int fun _ _ => .ts)) (fun _ => rfl) (fun _ => rfl) fun v_law_found878 => (bx_end v_law_found878 fun _ => (.eq (.eq (.eq (.eq (.eq (.un (.eq (.eq .nil)))))))))))) inferInstance (fun _ => rfl))) (bx_end l787 fun _ => (.eq (.eq (.eq (.eq (.eq (.eq (.eq (.eq .nil))))))))) (fun n840 => (bx_end n840 fun _ => (.eq (.eq (.eq (.eq (.eq (.eq (.eq (.un .nil)))))))))) inferInstance))) (fun l787 => (bx_nf (fun s => [.pn v0 (rList rInt) s, .is (sh (rList rInt)) u, .is (sh (rList rInt)) v_law_asked773, .is rInt v_law_far786, .is (rList (rPair rInt rInt)) l787, .un, .is rInt v_law_often785, .un]) (fun _ => rfl) (bx_ret (ex_mv 4 fun _ => rfl) (wios hio fun _ => (.eq (.un (.un (.un (.eq (.eq (.un (.eq .nil)))))))))))) inferInstance inferInstance))) inferInstance inferInstance (fun _ => rfl) (fun _ => rfl)))) inferInstance inferInstance (fun _ => rfl) (fun _ => rfl)))⟩
theorem sc__law_td_led : FnScope ["_law_shape", "_law_counts", "_law_bends", "_law_asked", "_law_begin", "_law_count", "_law_first", "_law_found", "_law_last", "_law_number", "_law_rank", "_law_spot", "_law_steps"] ["_law_shape", "_law_counts", "_law_bends"] (defScope (Hd.tp 38)) := ⟨rfl, rfl, rfl, by decide +kernel, rfl, by decide +kernel, by decide +kernel⟩
theorem bk__law_td_led_0 : BlkOk ["_law_shape", "_law_counts", "_law_bends", "_law_asked", "_law_begin", "_law_count", "_law_first", "_law_found", "_law_last", "_law_number", "_law_rank", "_law_spot", "_law_steps"] (defScope (Hd.tp 38)) { kind := .function, names := [(".0", .local), ("_law_count", .local)], isGenerator := false, isCoroutine := false, more := [] } [("_law_count", 5)] := blkOk_by (by decide +kernel)
theorem ok__law_td_led (f_enumerate : mg "enumerate" = none) {d__law_td_asked : FuncData} (c__law_td_asked : FnOk P w K mg base (L2.CX P w) 1 (ga K "_law_td_asked") d__law_td_asked ["_law_counts"] (SpP K 1 (fun u : (List Int) => [.is (sh (rList rInt)) u]) (rList rInt) m__law_td_asked)) (g__law_td_asked : mg "_law_td_asked" = some (.ref (ga K "_law_td_asked"))) (k__law_td_asked : PySem.W.keepIn K (.ref (ga K "_law_td_asked")) = true) (b__law_td_asked : Binds K d__law_td_asked ["_law_counts"] []) (FD : FunD K "_law_td_led" "_law_td_led" (defArgs (Hd.tp 38)) (defBody (Hd.tp 38)) (defScope (Hd.tp 38)) [] [] (ga K "_law_td_led") fd) : FnOk P w K mg base (L2.CX P w) 2 (ga K "_law_td_led") fd ["_law_shape", "_law_counts", "_law_bends"] (SpP K 3 (fun u : ((Int × (List (Int × Int))) × (List Int) × (List (Int × Int))) => [.is (rPair rInt (sh (rList (rPair rInt rInt)))) u.1, .is (sh (rList rInt)) u.2.1, .is (sh (rList (rPair rInt rInt))) u.2.2]) (rList (rOpt (rPair rInt rInt))) m__law_td_led) :=
  fn_pure (k := 1) FD sc__law_td_led o__law_td_led (fun _ => rfl) fun u cdv A outer s H E hr F hio hW => ⟨_, (bx_nf (fun s => [.is (rPair rInt (sh (rList (rPair rInt rInt)))) u.1, .is (sh (rList rInt)) u.2.1, .is (sh (rList (rPair rInt rInt))) u.2.2, .un, .un, .un, .un, .un, .un, .un, .un, .un, .un]) (fun _ => rfl) (bx_par3 7 12 11 sc__law_td_led.nd rfl (by decide) (by decide) (by decide) (ex_lcU (Gt := fun s (x880 : Int) => [.is (rPair rInt (sh (rList (rPair rInt rInt)))) u.1, .is (sh (rList rInt)) u.2.1, .is (sh (rList (rPair rInt rInt))) u.2.2, .un, .un, .is rInt x880, .un, .un, .un, .un, .un, .un, .un]) s rfl sc__law_td_led.nd (ei_sh (ex_var 1 cp_sh fun _ => rfl) cp_int) (fun _ => trivial) bk__law_td_led_0 (fun _ => (.cons rfl .nil)) (by exact fun _ h => h) (fun _ _ => (.eq (.eq (.eq (.eq (.eq (.un (.eq (.eq (.eq (.eq (.eq (.eq (.eq .nil)))))))))))))) (fun _ _ _ _ _ _ => (eg_name (i := 5) rfl sc__law_td_led.nd)) (fun _ _ _ _ _ x880 => ets_nil) (fun _ _ _ _ _ x880 => ex_noneO) inferInstance inferInstance) ex_int (ex_plc (eo_t (ex_var 0 (cp_pair cp_int cp_sh) fun _ => rfl)) plc2_0 cp_int fun _ _ => .t) (fun v_law_found882 v_law_steps883 v_law_spot884 => (bx_nf (fun s => [.is (rPair rInt (sh (rList (rPair rInt rInt)))) u.1, .is (sh (rList rInt)) u.2.1, .is (sh (rList (rPair rInt rInt))) u.2.2, .un, .un, .un, .un, .is (rList (rOpt (rPair rInt rInt))) v_law_found882, .un, .un, .un, .is rInt v_law_spot884, .is rInt v_law_steps883]) (fun _ => rfl) (bx_asg 3 sc__law_td_led.nd (ex_freeze (ex_call (E := E) (fun q888 => q888.1) c__law_td_asked (hr.mono (by decide)) rfl g__law_td_asked k__law_td_asked b__law_td_asked (by exact passes_call (takes_of rfl rfl rfl rfl) fun _ _ _ _ h => h) (ea_cons (eo_t (ex_var 1 cp_sh fun _ => rfl)) ea_nil) (fun _ => rfl) (.inl ⟨(clo_list clo_int), fun _ _ => (.cp cp_sh .t .nil)⟩) (hWE hW) (wio hio fun _ => (.un (.un (.un (.eq (.eq (.eq (.eq (.un (.eq (.eq (.eq (.un (.un .nil)))))))))))))))) (fun v_law_asked885 => (bx_nf (fun s => [.is (rPair rInt (sh (rList (rPair rInt rInt)))) u.1, .is (sh (rList rInt)) u.2.1, .is (sh (rList (rPair rInt rInt))) u.2.2, .is (sh (rList rInt)) v_law_asked885, .un, .un, .un, .is (rList (rOpt (rPair rInt rInt))) v_law_found882, .un, .un, .un, .is rInt v_law_spot884, .is rInt v_law_steps883]) (fun _ => rfl) (bx_ifr (GE_ := fun e _ => e.elim) (et_eqD hr.units (eo_t (ex_var 3 cp_sh fun _ => rfl)) (eo_t (ex_lst (r := rInt) el_nil)) (fun _ _ => .mk (en_L enc_int) .ts) (fun _ _ => .mk (en_L enc_int) .t)) (bx_nf (fun s => [.is (rPair rInt (sh (rList (rPair rInt rInt)))) u.1, .is (sh (rList rInt)) u.2.1, .is (sh (rList (rPair rInt rInt))) u.2.2, .is (sh (rList rInt)) v_law_asked885, .un, .un, .un, .is (rList (rOpt (rPair rInt rInt))) v_law_found882, .un, .un, .un, .is rInt v_law_spot884, .is rInt v_law_steps883]) (fun _ => rfl) (bx_ret (ex_mv 7 fun _ => rfl) (wio hio fun _ => (.un (.un (.un (.un (.eq (.eq (.eq (.eq (.eq (.eq (.eq (.un (.un .nil)))))))))))))))) (bx_nf (fun s => [.is (rPair rInt (sh (rList (rPair rInt rInt)))) u.1, .is (sh (rList rInt)) u.2.1, .is (sh (rList (rPair rInt rInt))) u.2.2, .is (sh (rList rInt)) v_law_asked885, .un, .un, .un, .is (rList (rOpt (rPair rInt rInt))) v_law_found882, .un, .un, .un, .is rInt v_law_spot884, .is rInt v_law_steps883]) (fun _ => rfl) (bx_for (Gt := fun (l894 : ((List (Option (Int × Int))) × Int × Int)) s (x908 : (Int × (Int × Int))) => [.is (rPair rInt (sh (rList (rPair rInt rInt)))) u.1, .is (sh (rList rInt)) u.2.1, .is (sh (rList (rPair rInt rInt))) u.2.2, .is (sh (rList rInt)) v_law_asked885, .un, .un, .is rInt x908.2.1, .is (rList (rOpt (rPair rInt rInt))) l894.1, .is rInt x908.2.2, .un, .is rInt x908.1, .is rInt l894.2.1, .is rInt l894.2.2]) (passes_of rfl) rfl (fun (l894 : ((List (Option (Int × Int))) × Int × Int)) s => [.is (rPair rInt (sh (rList (rPair rInt rInt)))) u.1, .is (sh (rList rInt)) u.2.1, .is (sh (rList (rPair rInt rInt))) u.2.2, .is (sh (rList rInt)) v_law_asked885, .un, .un, .un, .is (rList (rOpt (rPair rInt rInt))) l894.1, .un, .un, .un, .is rInt l894.2.1, .is rInt l894.2.2]) (v_law_found882, v_law_spot884, v_law_steps883) (ei_enum (ex_freeze (ex_cat (eo_t (ex_var 2 cp_sh fun _ => rfl)) (eo_t (ex_lst (r := (rPair rInt rInt)) (el_cons (ex_tup2 (ex_ix (eo_t (ex_var 3 cp_sh fun _ => rfl)) ex_int cp_int fun _ _ => .ts) (ex_ix (eo_t (ex_var 3 cp_sh fun _ => rfl)) (ex_neg ex_int) cp_int fun _ _ => .ts)) el_nil))) (cp_pair cp_int cp_int) (fun _ _ => .ts) (fun _ _ => .t))) (cp_pair cp_int cp_int) rfl f_enumerate) (fun _ => (.eq (.eq (.eq (.eq (.eq (.eq (.eq (.eq (.eq (.eq (.eq (.eq (.eq .nil)))))))))))))) (fun _ _ => trivial) (fun l894 _ => (eg_pair rfl (eg_name (i := 10) rfl sc__law_td_led.nd) (fun _ => (eg_pair rfl (eg_name (i := 6) rfl sc__law_td_led.nd) (fun _ => (eg_name (i := 8) rfl sc__law_td_led.nd)) inferInstance)) inferInstance)) (fun l894 x908 => (bx_nf (fun s => [.is (rPair rInt (sh (rList (rPair rInt rInt)))) u.1, .is (sh (rList rInt)) u.2.1, .is (sh (rList (rPair rInt rInt))) u.2.2, .is (sh (rList rInt)) v_law_asked885, .un, .un, .is rInt x908.2.1, .is (rList (rOpt (rPair rInt rInt))) l894.1, .is rInt x908.2.2, .un, .is rInt x908.1, .is rInt l894.2.1, .is rInt l894.2.2]) (fun _ => rfl) (bx_asg 4 sc__law_td_led.nd (ex_plc (eo_t (ex_ix (eo_t (ex_plc (eo_t (ex_var 0 (cp_pair cp_int cp_sh) fun _ => rfl)) plc2_1 cp_sh fun _ _ => .t)) (ex_var 6 cp_int fun _ => rfl) (cp_pair cp_int cp_int) fun _ _ => .ts)) plc2_0 cp_int fun _ _ => .t) (fun v_law_begin909 => (bx_nf (fun s => [.is (rPair rInt (sh (rList (rPair rInt rInt)))) u.1, .is (sh (rList rInt)) u.2.1, .is (sh (rList (rPair rInt rInt))) u.2.2, .is (sh (rList rInt)) v_law_asked885, .is rInt v_law_begin909, .un, .is rInt x908.2.1, .is (rList (rOpt (rPair rInt rInt))) l894.1, .is rInt x908.2.2, .un, .is rInt x908.1, .is rInt l894.2.1, .is rInt l894.2.2]) (fun _ => rfl) (bx_asg 12 sc__law_td_led.nd (ex_bin op_sub (vo_I0 fun i j => i - j) (fun _ _ => stl_ret _) (ex_bin op_add (vo_I0 fun i j => i + j) (fun _ _ => stl_ret _) (ex_var 12 cp_int fun _ => rfl) (ex_var 11 cp_int fun _ => rfl)) (ex_var 4 cp_int fun _ => rfl)) (fun v_law_steps914 => (bx_nf (fun s => [.is (rPair rInt (sh (rList (rPair rInt rInt)))) u.1, .is (sh (rList rInt)) u.2.1, .is (sh (rList (rPair rInt rInt))) u.2.2, .is (sh (rList rInt)) v_law_asked885, .is rInt v_law_begin909, .un, .is rInt x908.2.1, .is (rList (rOpt (rPair rInt rInt))) l894.1, .is rInt x908.2.2, .un, .is rInt x908.1, .is rInt l894.2.1, .is rInt v_law_steps914]) (fun _ => rfl) (bx_for (Gt := fun (l921 : (List (Option (Int × Int)))) s (x922 : Int) => [.is (rPair rInt (sh (rList (rPair rInt rInt)))) u.1, .is (sh (rList rInt)) u.2.1, .is (sh (rList (rPair rInt rInt))) u.2.2, .is (sh (rList rInt)) v_law_asked885, .is rInt v_law_begin909, .un, .is rInt x908.2.1, .is (rList (rOpt (rPair rInt rInt))) l921, .is rInt x908.2.2, .is rInt x922, .is rInt x908.1, .is rInt l894.2.1, .is rInt v_law_steps914]) (passes_of rfl) rfl (fun (l921 : (List (Option (Int × Int)))) s => [.is (rPair rInt (sh (rList (rPair rInt rInt)))) u.1, .is (sh (rList rInt)) u.2.1, .is (sh (rList (rPair rInt rInt))) u.2.2, .is (sh (rList rInt)) v_law_asked885, .is rInt v_law_begin909, .un, .is rInt x908.2.1, .is (rList (rOpt (rPair rInt rInt))) l921, .is rInt x908.2.2, .un, .is rInt x908.1, .is rInt l894.2.1, .is rInt v_law_steps914]) l894.1 (ei_sh (ex_var 3 cp_sh fun _ => rfl) cp_int) (fun _ => (.eq (.eq (.eq (.eq (.eq (.eq (.eq (.eq (.eq (.eq (.eq (.eq (.eq .nil)))))))))))))) (fun _ _ => trivial) (fun l921 _ => (eg_name (i := 9) rfl sc__law_td_led.nd)) (fun l921 x922 => (bx_nf (fun s => [.is (rPair rInt (sh (rList (rPair rInt rInt)))) u.1, .is (sh (rList rInt)) u.2.1, .is (sh (rList (rPair rInt rInt))) u.2.2, .is (sh (rList rInt)) v_law_asked885, .is rInt v_law_begin909, .un, .is rInt x908.2.1, .is (rList (rOpt (rPair rInt rInt))) l921, .is rInt x908.2.2, .is rInt x922, .is rInt x908.1, .is rInt l894.2.1, .is rInt v_law_steps914]) (fun _ => rfl) (bx_if (GJ := fun (n957 : (List (Option (Int × Int)))) s => [.is (rPair rInt (sh (rList (rPair rInt rInt)))) u.1, .is (sh (rList rInt)) u.2.1, .is (sh (rList (rPair rInt rInt))) u.2.2, .is (sh (rList rInt)) v_law_asked885, .is rInt v_law_begin909, .un, .is rInt x908.2.1, .is (rList (rOpt (rPair rInt rInt))) n957, .is rInt x908.2.2, .is rInt x922, .is rInt x908.1, .is rInt l894.2.1, .is rInt v_law_steps914]) (et_w (ew_and (et_chain2 ci_le ci_le (ex_var 6 cp_int fun _ => rfl) (ex_var 9 cp_int fun _ => rfl) (ex_var 8 cp_int fun _ => rfl)) (ew_and1 (et_isN nn_pair (eo_t (ex_ix (eo_own (U := Unit) (a := ()) 7 fun _ => rfl) (ex_var 9 cp_int fun _ => rfl) (cp_opt (cp_pair cp_int cp_int)) fun _ _ => (.v rfl))) fun _ _ => .t)))) (bx_nf (fun s => [.is (rPair rInt (sh (rList (rPair rInt rInt)))) u.1, .is (sh (rList rInt)) u.2.1, .is (sh (rList (rPair rInt rInt))) u.2.2, .is (sh (rList rInt)) v_law_asked885, .is rInt v_law_begin909, .un, .is rInt x908.2.1, .is (rList (rOpt (rPair rInt rInt))) l921, .is rInt x908.2.2, .is rInt x922, .is rInt x908.1, .is rInt l894.2.1, .is rInt v_law_steps914]) (fun _ => rfl) (bx_setS 7 (cp_opt (cp_pair cp_int cp_int)) (ex_some (ex_tup2 (ex_bin op_sub (vo_I0 fun i j => i - j) (fun _ _ => stl_ret _) (ex_bin op_add (vo_I0 fun i j => i + j) (fun _ _ => stl_ret _) (ex_var 12 cp_int fun _ => rfl) (ex_plc (eo_t (ex_ix (eo_t (ex_plc (eo_t (ex_var 0 (cp_pair cp_int cp_sh) fun _ => rfl)) plc2_1 cp_sh fun _ _ => .t)) (ex_var 9 cp_int fun _ => rfl) (cp_pair cp_int cp_int) fun _ _ => .ts)) plc2_1 cp_int fun _ _ => .t)) (ex_var 4 cp_int fun _ => rfl)) (ex_bin op_add (vo_I0 fun i j => i + j) (fun _ _ => stl_ret _) (ex_bin op_mul vo_mul stl_mul ex_int (ex_var 10 cp_int fun _ => rfl)) ex_int))) (ex_var 9 cp_int fun _ => rfl) (fun _ => rfl) (fun _ => rfl) fun v_law_found983 => (bx_end v_law_found983 fun _ => (.eq (.eq (.eq (.eq (.eq (.eq (.eq (.eq (.eq (.eq (.eq (.eq (.eq .nil)))))))))))))))) (bx_end l921 fun _ => (.eq (.eq (.eq (.eq (.eq (.eq (.eq (.eq (.eq (.eq (.eq (.eq (.eq .nil)))))))))))))) (fun n957 => (bx_end n957 fun _ => (.eq (.eq (.eq (.eq (.eq (.eq (.eq (.eq (.eq (.un (.eq (.eq (.eq .nil))))))))))))))) inferInstance))) (fun l921 => (bx_nf (fun s => [.is (rPair rInt (sh (rList (rPair rInt rInt)))) u.1, .is (sh (rList rInt)) u.2.1, .is (sh (rList (rPair rInt rInt))) u.2.2, .is (sh (rList rInt)) v_law_asked885, .is rInt v_law_begin909, .un, .is rInt x908.2.1, .is (rList (rOpt (rPair rInt rInt))) l921, .is rInt x908.2.2, .un, .is rInt x908.1, .is rInt l894.2.1, .is rInt v_law_steps914]) (fun _ => rfl) (bx_asg 11 sc__law_td_led.nd (ex_plc (eo_t (ex_ix (eo_t (ex_plc (eo_t (ex_var 0 (cp_pair cp_int cp_sh) fun _ => rfl)) plc2_1 cp_sh fun _ _ => .t)) (ex_var 8 cp_int fun _ => rfl) (cp_pair cp_int cp_int) fun _ _ => .ts)) plc2_1 cp_int fun _ _ => .t) (fun v_law_spot984 => (bx_nf (fun s => [.is (rPair rInt (sh (rList (rPair rInt rInt)))) u.1, .is (sh (rList rInt)) u.2.1, .is (sh (rList (rPair rInt rInt))) u.2.2, .is (sh (rList rInt)) v_law_asked885, .is rInt v_law_begin909, .un, .is rInt x908.2.1, .is (rList (rOpt (rPair rInt rInt))) l921, .is rInt x908.2.2, .un, .is rInt x908.1, .is rInt v_law_spot984, .is rInt v_law_steps914]) (fun _ => rfl) (bx_asg 12 sc__law_td_led.nd (ex_bin op_sub (vo_I0 fun i j => i - j) (fun _ _ => stl_ret _) (ex_bin op_add (vo_I0 fun i j => i + j) (fun _ _ => stl_ret _) (ex_var 12 cp_int fun _ => rfl) (ex_var 11 cp_int fun _ => rfl)) (ex_var 4 cp_int fun _ => rfl)) (fun v_law_steps989 => (bx_end (l921, v_law_spot984, v_law_steps989) fun _ => (.eq (.eq (.eq (.eq (.un (.eq (.un (.eq (.un (.eq (.un (.eq (.eq .nil))))))))))))))) inferInstance (fun _ => rfl)))) inferInstance (fun _ => rfl)))) inferInstance inferInstance))) inferInstance (fun _ => rfl)))) inferInstance (fun _ => rfl)))) (fun l894 => (bx_nf (fun s => [.is (rPair rInt (sh (rList (rPair rInt rInt)))) u.1, .is (sh (rList rInt)) u.2.1, .is (sh (rList (rPair rInt rInt))) u.2.2, .is (sh (rList rInt)) v_law_asked885, .un, .un, .un, .is (rList (rOpt (rPair rInt rInt))) l894.1, .un, .un, .un, .is rInt l894.2.1, .is rInt l894.2.2]) (fun _ => rfl) (bx_ret (ex_mv 7 fun _ => rfl) (wio hio fun _ => (.un (.un (.un (.un (.eq (.eq (.eq (.eq (.eq (.eq (.eq (.un (.un .nil))))))))))))))))) inferInstance inferInstance))))) inferInstance (fun _ => rfl)))) inferInstance inferInstance inferInstance (fun _ => rfl) (fun _ => rfl) (fun _ => rfl)))⟩
theorem sc__law_td_sum : FnScope ["_law_counts", "_law_told", "_law_count", "_law_steps", "_law_turns", "_law_wait"] ["_law_counts", "_law_told"] (defScope (Hd.tp 39)) := ⟨rfl, rfl, rfl, by decide +kernel, rfl, by decide +kernel, by decide +kernel⟩
theorem ok__law_td_sum (f_zip : mg "zip" = none) (FD : FunD K "_law_td_sum" "_law_td_sum" (defArgs (Hd.tp 39)) (defBody (Hd.tp 39)) (defScope (Hd.tp 39)) [] [] (ga K "_law_td_sum") fd) : FnOk P w K mg base (L2.CX P w) 1 (ga K "_law_td_sum") fd ["_law_counts", "_law_told"] (SpP K 2 (fun u : ((List Int) × (List (Option (Int × Int)))) => [.is (sh (rList rInt)) u.1, .is (sh (rList (rOpt (rPair rInt rInt)))) u.2]) (rPair rInt rInt) m__law_td_sum) :=
  fn_pure (k := 0) FD sc__law_td_sum o__law_td_sum (fun _ => rfl) fun u cdv A outer s H E hr F hio hW => ⟨_, (bx_nf (fun s => [.is (sh (rList rInt)) u.1, .is (sh (rList (rOpt (rPair rInt rInt)))) u.2, .un, .un, .un, .un]) (fun _ => rfl) (bx_tgt (Gt := fun s (w999 : (Int × Int)) => [.is (sh (rList rInt)) u.1, .is (sh (rList (rOpt (rPair rInt rInt)))) u.2, .un, .is rInt w999.1, .is rInt w999.2, .un]) (ex_tup2 ex_int ex_int) (fun _ => (eg_pair rfl (eg_name (i := 3) rfl sc__law_td_sum.nd) (fun _ => (eg_name (i := 4) rfl sc__law_td_sum.nd)) inferInstance)) (fun w999 => (bx_nf (fun s => [.is (sh (rList rInt)) u.1, .is (sh (rList (rOpt (rPair rInt rInt)))) u.2, .un, .is rInt w999.1, .is rInt w999.2, .un]) (fun _ => rfl) (bx_for (Gt := fun (l1000 : (Int × Int)) s (x1003 : (Int × (Option (Int × Int)))) => [.is (sh (rList rInt)) u.1, .is (sh (rList (rOpt (rPair rInt rInt)))) u.2, .is rInt x1003.1, .is rInt l1000.1, .is rInt l1000.2, .is (rOpt (rPair rInt rInt)) x1003.2]) (passes_of rfl) rfl (fun (l1000 : (Int × Int)) s => [.is (sh (rList rInt)) u.1, .is (sh (rList (rOpt (rPair rInt rInt)))) u.2, .un, .is rInt l1000.1, .is rInt l1000.2, .un]) (w999.1, w999.2) (ei_zipC (ex_var 0 cp_sh fun _ => rfl) (ex_var 1 cp_sh fun _ => rfl) cp_int (cp_opt (cp_pair cp_int cp_int)) rfl f_zip) (fun _ => (.eq (.eq (.eq (.eq (.eq (.eq .nil))))))) (fun _ _ => trivial) (fun l1000 _ => (eg_pair rfl (eg_name (i := 2) rfl sc__law_td_sum.nd) (fun _ => (eg_name (i := 5) rfl sc__law_td_sum.nd)) inferInstance)) (fun l1000 x1003 => (bx_nf (fun s => [.is (sh (rList rInt)) u.1, .is (sh (rList (rOpt (rPair rInt rInt)))) u.2, .is rInt x1003.1, .is rInt l1000.1, .is rInt l1000.2, .is (rOpt (rPair rInt rInt)) x1003.2]) (fun _ => rfl) (bx_if (GJ := fun (n1021 : (Int × Int)) s => [.is (sh (rList rInt)) u.1, .is (sh (rList (rOpt (rPair rInt rInt)))) u.2, .is rInt x1003.1, .is rInt n1021.1, .is rInt n1021.2, .is (rOpt (rPair rInt rInt)) x1003.2]) (et_cmp op_gt (vo_B0 fun i j => decide (j < i)) (fun _ _ => stl_ret _) (ex_var 2 cp_int fun _ => rfl) ex_int rfl) (bx_nf (fun s => [.is (sh (rList rInt)) u.1, .is (sh (rList (rOpt (rPair rInt rInt)))) u.2, .is rInt x1003.1, .is rInt l1000.1, .is rInt l1000.2, .is (rOpt (rPair rInt rInt)) x1003.2]) (fun _ => rfl) (bx_par 3 4 sc__law_td_sum.nd rfl (by decide) (ex_bin op_add (vo_I0 fun i j => i + j) (fun _ _ => stl_ret _) (ex_var 3 cp_int fun _ => rfl) (ex_bin op_mul vo_mul stl_mul (ex_var 2 cp_int fun _ => rfl) (ex_plc (eo_t (ex_unopt (ex_var 5 (cp_opt (cp_pair cp_int cp_int)) fun _ => rfl))) plc2_0 cp_int fun _ _ => .t))) (ex_bin op_add (vo_I0 fun i j => i + j) (fun _ _ => stl_ret _) (ex_var 4 cp_int fun _ => rfl) (ex_bin op_mul vo_mul stl_mul (ex_var 2 cp_int fun _ => rfl) (ex_plc (eo_t (ex_unopt (ex_var 5 (cp_opt (cp_pair cp_int cp_int)) fun _ => rfl))) plc2_1 cp_int fun _ _ => .t))) (fun v_law_steps1034 v_law_turns1035 => (bx_end (v_law_steps1034, v_law_turns1035) fun _ => (.eq (.eq (.eq (.eq (.eq (.eq .nil)))))))) inferInstance inferInstance (fun _ => rfl) (fun _ => rfl))) (bx_end (l1000.1, l1000.2) fun _ => (.eq (.eq (.eq (.eq (.eq (.eq .nil))))))) (fun n1021 => (bx_end (n1021.1, n1021.2) fun _ => (.eq (.eq (.un (.eq (.eq (.un .nil)))))))) inferInstance))) (fun l1000 => (bx_nf (fun s => [.is (sh (rList rInt)) u.1, .is (sh (rList (rOpt (rPair rInt rInt)))) u.2, .un, .is rInt l1000.1, .is rInt l1000.2, .un]) (fun _ => rfl) (bx_ret (ex_tup2 (ex_var 3 cp_int fun _ => rfl) (ex_var 4 cp_int fun _ => rfl)) (wio hio fun _ => (.un (.un (.eq (.un (.un (.eq .nil)))))))))) inferInstance inferInstance))) inferInstance inferInstance))⟩
theorem sc__law_td_ratio : FnScope ["_law_above", "_law_below", "_law_one", "_law_other", "_law_sign", "_law_turn"] ["_law_above", "_law_below"] (defScope (Hd.tp 32)) := ⟨rfl, rfl, rfl, by decide +kernel, rfl, by decide +kernel, by decide +kernel⟩
theorem ok__law_td_ratio (f_abs : mg "abs" = none) (f_int : mg "int" = none) (f_range : mg "range" = none) (FD : FunD K "_law_td_ratio" "_law_td_ratio" (defArgs (Hd.tp 32)) (defBody (Hd.tp 32)) (defScope (Hd.tp 32)) [] [] (ga K "_law_td_ratio") fd) : FnOk P w K mg base (L2.CX P w) 1 (ga K "_law_td_ratio") fd ["_law_above", "_law_below"] (SpP K 2 (fun u : (Int × Int) => [.is rInt u.1, .is rInt u.2]) (rPair rInt rInt) m__law_td_ratio) :=
  fn_pure (k := 0) FD sc__law_td_ratio o__law_td_ratio (fun _ => rfl) fun u cdv A outer s H E hr F hio hW => ⟨_, (bx_nf (fun s => [.is rInt u.1, .is rInt u.2, .un, .un, .un, .un]) (fun _ => rfl) (bx_par 2 3 sc__law_td_ratio.nd rfl (by decide) (ex_abs (ex_var 0 cp_int fun _ => rfl) rfl f_abs) (ex_abs (ex_var 1 cp_int fun _ => rfl) rfl f_abs) (fun v_law_one1043 v_law_other1044 => (bx_nf (fun s => [.is rInt u.1, .is rInt u.2, .is rInt v_law_one1043, .is rInt v_law_other1044, .un, .un]) (fun _ => rfl) (bx_for (Gt := fun (l1045 : (Int × Int)) s (x1048 : Int) => [.is rInt u.1, .is rInt u.2, .is rInt l1045.1, .is rInt l1045.2, .un, .is rInt x1048]) (passes_of rfl) rfl (fun (l1045 : (Int × Int)) s => [.is rInt u.1, .is rInt u.2, .is rInt l1045.1, .is rInt l1045.2, .un, .un]) (v_law_one1043, v_law_other1044) (ei_rng1 ex_int rfl f_range) (fun _ => (.eq (.eq (.eq (.eq (.eq (.eq .nil))))))) (fun _ _ => trivial) (fun l1045 _ => (eg_name (i := 5) rfl sc__law_td_ratio.nd)) (fun l1045 x1048 => (bx_nf (fun s => [.is rInt u.1, .is rInt u.2, .is rInt l1045.1, .is rInt l1045.2, .un, .is rInt x1048]) (fun _ => rfl) (bx_ifr (GE_ := fun e _ => e.elim) (et_cmp op_eq vo_eqI (fun _ _ => stl_ret _) (ex_var 3 cp_int fun _ => rfl) ex_int rfl) (bx_nf (fun s => [.is rInt u.1, .is rInt u.2, .is rInt l1045.1, .is rInt l1045.2, .un, .is rInt x1048]) (fun _ => rfl) (bx_brk (l1045.1, l1045.2) fun _ => (.eq (.eq (.eq (.eq (.eq (.un .nil)))))))) (bx_nf (fun s => [.is rInt u.1, .is rInt u.2, .is rInt l1045.1, .is rInt l1045.2, .un, .is rInt x1048]) (fun _ => rfl) (bx_par 2 3 sc__law_td_ratio.nd rfl (by decide) (ex_var 3 cp_int fun _ => rfl) (ex_bin op_modN vo_mod stl_mod (ex_intI (ex_var 2 cp_int fun _ => rfl) rfl f_int) (ex_intI (ex_var 3 cp_int fun _ => rfl) rfl f_int)) (fun v_law_one1060 v_law_other1061 => (bx_end (v_law_one1060, v_law_other1061) fun _ => (.eq (.eq (.eq (.eq (.eq (.un .nil)))))))) inferInstance inferInstance (fun _ => rfl) (fun _ => rfl)))))) (fun l1045 => (bx_nf (fun s => [.is rInt u.1, .is rInt u.2, .is rInt l1045.1, .is rInt l1045.2, .un, .un]) (fun _ => rfl) (bx_asg 4 sc__law_td_ratio.nd (ex_if (et_cmp op_gt (vo_B0 fun i j => decide (j < i)) (fun _ _ => stl_ret _) (ex_var 1 cp_int fun _ => rfl) ex_int rfl) ex_int (ex_neg ex_int)) (fun v_law_sign1062 => (bx_nf (fun s => [.is rInt u.1, .is rInt u.2, .is rInt l1045.1, .is rInt l1045.2, .is rInt v_law_sign1062, .un]) (fun _ => rfl) (bx_ret (ex_tup2 (ex_bin op_fdivN vo_div stl_div (ex_bin op_mul vo_mul stl_mul (ex_var 4 cp_int fun _ => rfl) (ex_var 0 cp_int fun _ => rfl)) (ex_var 2 cp_int fun _ => rfl)) (ex_bin op_fdivN vo_div stl_div (ex_bin op_mul vo_mul stl_mul (ex_var 4 cp_int fun _ => rfl) (ex_var 1 cp_int fun _ => rfl)) (ex_var 2 cp_int fun _ => rfl))) (wio hio fun _ => (.un (.un (.un (.un (.un (.eq .nil)))))))))) inferInstance (fun _ => rfl)))) inferInstance inferInstance))) inferInstance inferInstance (fun _ => rfl) (fun _ => rfl)))⟩
theorem sc__law_td_comes : FnScope ["_law_form", "_law_price"] ["_law_form", "_law_price"] (defScope (Hd.tp 40)) := ⟨rfl, rfl, rfl, by decide +kernel, rfl, by decide +kernel, by decide +kernel⟩
theorem ok__law_td_comes  {d__law_td_ratio : FuncData} (c__law_td_ratio : FnOk P w K mg base (L2.CX P w) 1 (ga K "_law_td_ratio") d__law_td_ratio ["_law_above", "_law_below"] (SpP K 2 (fun u : (Int × Int) => [.is rInt u.1, .is rInt u.2]) (rPair rInt rInt) m__law_td_ratio)) (g__law_td_ratio : mg "_law_td_ratio" = some (.ref (ga K "_law_td_ratio"))) (k__law_td_ratio : PySem.W.keepIn K (.ref (ga K "_law_td_ratio")) = true) (b__law_td_ratio : Binds K d__law_td_ratio ["_law_above", "_law_below"] []) (FD : FunD K "_law_td_comes" "_law_td_comes" (defArgs (Hd.tp 40)) (defBody (Hd.tp 40)) (defScope (Hd.tp 40)) [] [] (ga K "_law_td_comes") fd) : FnOk P w K mg base (L2.CX P w) 2 (ga K "_law_td_comes") fd ["_law_form", "_law_price"] (SpP K 2 (fun u : ((Int × Int) × (Int × Int)) => [.is (rPair rInt rInt) u.1, .is (rPair rInt rInt) u.2]) (rPair rInt rInt) m__law_td_comes) :=
  fn_pure (k := 1) FD sc__law_td_comes o__law_td_comes (fun _ => rfl) fun u cdv A outer s H E hr F hio hW => ⟨_, (bx_nf (fun s => [.is (rPair rInt rInt) u.1, .is (rPair rInt rInt) u.2]) (fun _ => rfl) (bx_ret (ex_call (E := E) (fun q1104 => (q1104.1, q1104.2.1)) c__law_td_ratio (hr.mono (by decide)) rfl g__law_td_ratio k__law_td_ratio b__law_td_ratio (by exact passes_call (takes_of rfl rfl rfl rfl) fun _ _ _ _ h => h) (ea_cons (eo_t (ex_bin op_add (vo_I0 fun i j => i + j) (fun _ _ => stl_ret _) (ex_bin op_mul vo_mul stl_mul (ex_plc (eo_t (ex_var 0 (cp_pair cp_int cp_int) fun _ => rfl)) plc2_0 cp_int fun _ _ => .t) (ex_plc (eo_t (ex_var 1 (cp_pair cp_int cp_int) fun _ => rfl)) plc2_1 cp_int fun _ _ => .t)) (ex_bin op_mul vo_mul stl_mul (ex_plc (eo_t (ex_var 0 (cp_pair cp_int cp_int) fun _ => rfl)) plc2_1 cp_int fun _ _ => .t) (ex_plc (eo_t (ex_var 1 (cp_pair cp_int cp_int) fun _ => rfl)) plc2_0 cp_int fun _ _ => .t)))) (ea_cons (eo_t (ex_plc (eo_t (ex_var 1 (cp_pair cp_int cp_int) fun _ => rfl)) plc2_1 cp_int fun _ _ => .t)) ea_nil)) (fun _ => rfl) (.inl ⟨(clo_pair clo_int clo_int), fun _ _ => (.cp cp_int .t (.cp cp_int .t .nil))⟩) (hWE hW) (wio hio fun _ => (.un (.un .nil)))) (wio hio fun _ => (.un (.un .nil)))))⟩
theorem sc__law_td_under : FnScope ["_law_one", "_law_other"] ["_law_one", "_law_other"] (defScope (Hd.tp 41)) := ⟨rfl, rfl, rfl, by decide +kernel, rfl, by decide +kernel, by decide +kernel⟩
theorem ok__law_td_under  (FD : FunD K "_law_td_under" "_law_td_under" (defArgs (Hd.tp 41)) (defBody (Hd.tp 41)) (defScope (Hd.tp 41)) [] [] (ga K "_law_td_under") fd) : FnOk P w K mg base (L2.CX P w) 1 (ga K "_law_td_under") fd ["_law_one", "_law_other"] (SpP K 2 (fun u : ((Int × Int) × (Int × Int)) => [.is (rPair rInt rInt) u.1, .is (rPair rInt rInt) u.2]) rBool m__law_td_under) :=
  fn_pure (k := 0) FD sc__law_td_under o__law_td_under (fun _ => rfl) fun u cdv A outer s H E hr F hio hW => ⟨_, (bx_nf (fun s => [.is (rPair rInt rInt) u.1, .is (rPair rInt rInt) u.2]) (fun _ => rfl) (bx_ret (ex_cmp op_lt (vo_B0 fun i j => decide (i < j)) (fun _ _ => stl_ret _) (ex_bin op_mul vo_mul stl_mul (ex_plc (eo_t (ex_var 0 (cp_pair cp_int cp_int) fun _ => rfl)) plc2_0 cp_int fun _ _ => .t) (ex_plc (eo_t (ex_var 1 (cp_pair cp_int cp_int) fun _ => rfl)) plc2_1 cp_int fun _ _ => .t)) (ex_bin op_mul vo_mul stl_mul (ex_plc (eo_t (ex_var 1 (cp_pair cp_int cp_int) fun _ => rfl)) plc2_0 cp_int fun _ _ => .t) (ex_plc (eo_t (ex_var 0 (cp_pair cp_int cp_int) fun _ => rfl)) plc2_1 cp_int fun _ _ => .t)) rfl) (wio hio fun _ => (.un (.un .nil)))))⟩
theorem sc__law_td_price : FnScope ["_law_sack", "_law_above"] ["_law_sack"] (defScope (Hd.tp 42)) := ⟨rfl, rfl, rfl, by decide +kernel, rfl, by decide +kernel, by decide +kernel⟩
theorem ok__law_td_price  {d__law_td_pick : FuncData} (c__law_td_pick : FnOk P w K mg base (L2.CX P w) 1 (ga K "_law_td_pick") d__law_td_pick ["_law_sack", "_law_many"] (SpI K 2 (rList rInt) (fun u : Int => [.is rInt u]) rInt m__law_td_pick)) (g__law_td_pick : mg "_law_td_pick" = some (.ref (ga K "_law_td_pick"))) (k__law_td_pick : PySem.W.keepIn K (.ref (ga K "_law_td_pick")) = true) (b__law_td_pick : Binds K d__law_td_pick ["_law_sack", "_law_many"] []) {d__law_td_ratio : FuncData} (c__law_td_ratio : FnOk P w K mg base (L2.CX P w) 1 (ga K "_law_td_ratio") d__law_td_ratio ["_law_above", "_law_below"] (SpP K 2 (fun u : (Int × Int) => [.is rInt u.1, .is rInt u.2]) (rPair rInt rInt) m__law_td_ratio)) (g__law_td_ratio : mg "_law_td_ratio" = some (.ref (ga K "_law_td_ratio"))) (k__law_td_ratio : PySem.W.keepIn K (.ref (ga K "_law_td_ratio")) = true) (b__law_td_ratio : Binds K d__law_td_ratio ["_law_above", "_law_below"] []) (FD : FunD K "_law_td_price" "_law_td_price" (defArgs (Hd.tp 42)) (defBody (Hd.tp 42)) (defScope (Hd.tp 42)) [] [] (ga K "_law_td_price") fd) : FnOk P w K mg base (L2.CX P w) 2 (ga K "_law_td_price") fd ["_law_sack"] (SpI K 1 (rList rInt) (fun u : Unit => []) (rPair rInt rInt) m__law_td_price) :=
  fn_io (k := 1) FD sc__law_td_price o__law_td_price (fun _ => rfl) fun u v0 cdv A outer s H E hr F hio hW => ⟨_, (bx_nf (fun s => [.pn v0 (rList rInt) s, .un]) (fun _ => rfl) (bx_asg 1 sc__law_td_price.nd (ex_callIo (E := E) 0 (fun q1135 => q1135.2.1) c__law_td_pick (hr.mono (by decide)) rfl g__law_td_pick k__law_td_pick b__law_td_pick (by exact passes_call (takes_of rfl rfl rfl rfl) fun _ _ _ _ h => h) (clo_list clo_int) (ea_cons (eo_pn (U := Unit) (a := ()) 0 fun _ => rfl) (ea_cons (eo_t (ex_ix (eo_t (ex_lst (r := rInt) (el_cons ex_int (el_cons ex_int (el_cons ex_int el_nil))))) (ex_callIo (E := E) 0 (fun q1130 => q1130.2.1) c__law_td_pick (hr.mono (by decide)) rfl g__law_td_pick k__law_td_pick b__law_td_pick (by exact passes_call (takes_of rfl rfl rfl rfl) fun _ _ _ _ h => h) (clo_list clo_int) (ea_cons (eo_pn (U := Unit) (a := ()) 0 fun _ => rfl) (ea_cons (eo_t ex_int) ea_nil)) (fun _ => rfl) (fun _ => rfl) (fun _ _ => rfl) (fun _ _ => (.cp cp_int (.tc cp_int) .nil)) (hWE hW) (wios hio fun _ => (.eq (.eq .nil)))) cp_int fun _ _ => .t)) ea_nil)) (fun _ => rfl) (fun _ => rfl) (fun _ _ => rfl) (fun _ _ => (.cp cp_int (.tc cp_int) .nil)) (hWE hW) (wios hio fun _ => (.eq (.eq .nil)))) (fun v_law_above1119 => (bx_nf (fun s => [.pn v0 (rList rInt) s, .is rInt v_law_above1119]) (fun _ => rfl) (bx_ret (ex_call (E := E) (fun q1160 => (q1160.1, q1160.2.1)) c__law_td_ratio (hr.mono (by decide)) rfl g__law_td_ratio k__law_td_ratio b__law_td_ratio (by exact passes_call (takes_of rfl rfl rfl rfl) fun _ _ _ _ h => h) (ea_cons (eo_t (ex_var 1 cp_int fun _ => rfl)) (ea_cons (eo_t (ex_bin op_add (vo_I0 fun i j => i + j) (fun _ _ => stl_ret _) ex_int (ex_callIo (E := E) 0 (fun q1152 => q1152.2.1) c__law_td_pick (hr.mono (by decide)) rfl g__law_td_pick k__law_td_pick b__law_td_pick (by exact passes_call (takes_of rfl rfl rfl rfl) fun _ _ _ _ h => h) (clo_list clo_int) (ea_cons (eo_pn (U := Unit) (a := ()) 0 fun _ => rfl) (ea_cons (eo_t (ex_ix (eo_t (ex_lst (r := rInt) (el_cons ex_int (el_cons ex_int (el_cons ex_int el_nil))))) (ex_callIo (E := E) 0 (fun q1147 => q1147.2.1) c__law_td_pick (hr.mono (by decide)) rfl g__law_td_pick k__law_td_pick b__law_td_pick (by exact passes_call (takes_of rfl rfl rfl rfl) fun _ _ _ _ h => h) (clo_list clo_int) (ea_cons (eo_pn (U := Unit) (a := ()) 0 fun _ => rfl) (ea_cons (eo_t ex_int) ea_nil)) (fun _ => rfl) (fun _ => rfl) (fun _ _ => rfl) (fun _ _ => (.cp cp_int (.tc cp_int) .nil)) (hWE hW) (wios hio fun _ => (.eq (.un .nil)))) cp_int fun _ _ => .t)) ea_nil)) (fun _ => rfl) (fun _ => rfl) (fun _ _ => rfl) (fun _ _ => (.cp cp_int (.tc cp_int) .nil)) (hWE hW) (wios hio fun _ => (.eq (.un .nil)))))) ea_nil)) (fun _ => rfl) (.inl ⟨(clo_pair clo_int clo_int), fun _ _ => (.cp cp_int .t (.cp cp_int .t .nil))⟩) (hWE hW) (wios hio fun _ => (.eq (.un .nil)))) (wios hio fun _ => (.eq (.un .nil)))))) inferInstance (fun _ => rfl)))⟩
theorem sc_Tape_without : FnScope ["self", "index"] ["self", "index"] (defScope (Hd.ms 28 8)) := ⟨rfl, rfl, rfl, by decide +kernel, rfl, by decide +kernel, by decide +kernel⟩
theorem ok_Tape_without (f_len : mg "len" = none) (t_cls : TapeCls K) (t_mk : Mk K (tapeC K) (He.ma K (tapeC K) "__init__")) (g_Tape : mg "Tape" = some (.ref (tapeC K))) {d_Tape_DinitD : FuncData} (c_Tape_DinitD : FnOk P w K mg base (L2.CX P w) 1 (He.ma K (tapeC K) "__init__") d_Tape_DinitD ["self", "length", "files"] (SpI K 3 rSelf (fun u : (Int × (List (Int × Int))) => [.is rInt u.1, .is (sh (rList (rPair rInt rInt))) u.2]) rNon m_Tape_DinitD)) (b_Tape_DinitD : Binds K d_Tape_DinitD ["self", "length", "files"] []) (FD : FunD K "without" "Tape.without" (defArgs (Hd.ms 28 8)) (defBody (Hd.ms 28 8)) (defScope (Hd.ms 28 8)) [] [] (He.ma K (tapeC K) "without") fd) : FnOk P w K mg base (L2.CX P w) 3 (He.ma K (tapeC K) "without") fd ["self", "index"] (SpP K 2 (fun u : ((Int × List (Int × Int)) × Int) => [.is (sh rTape) u.1, .is rInt u.2]) (sh rTape) m_Tape_without) :=
  fn_pure (k := 2) FD sc_Tape_without o_Tape_without (fun _ => rfl) fun u cdv A outer s H E hr F hio hW => ⟨_, (bx_nf (fun s => [.is (sh rTape) u.1, .is rInt u.2]) (fun _ => rfl) (bx_ifr (GE_ := fun e _ => e.elim) (et_not (et_chain2 ci_le ci_lt ex_int (ex_var 1 cp_int fun _ => rfl) (ex_lenT (eo_t (ex_kept t_cls (eo_t (ex_var 0 cp_sh fun _ => rfl)) fun _ _ => .ts)) (fun _ _ => .t) rfl f_len))) (bx_nf (fun s => [.is (sh rTape) u.1, .is rInt u.2]) (fun _ => rfl) bx_no) (bx_nf (fun s => [.is (sh rTape) u.1, .is rInt u.2]) (fun _ => rfl) (bx_ret (ex_make (E := E) (fun q1218 => (q1218.1, q1218.2.1)) t_mk c_Tape_DinitD (hr.mono (by decide)) rfl g_Tape b_Tape_DinitD (by exact passes_call (takes_of rfl rfl rfl rfl) fun _ _ _ _ h => h) (ea_cons (eo_t (ex_extent t_cls (eo_t (ex_var 0 cp_sh fun _ => rfl)) fun _ _ => .ts)) (ea_cons (eo_t (ex_freeze (ex_lst (r := (rPair rInt rInt)) (el_starT (eo_t (ex_sliceT (eo_t (ex_kept t_cls (eo_t (ex_var 0 cp_sh fun _ => rfl)) fun _ _ => .ts)) ep_none (ep_some (ex_var 1 cp_int fun _ => rfl)) (cp_pair cp_int cp_int) fun _ _ => .t)) (cp_pair cp_int cp_int) (fun _ _ => .t) (el_starT (eo_t (ex_sliceT (eo_t (ex_kept t_cls (eo_t (ex_var 0 cp_sh fun _ => rfl)) fun _ _ => .ts)) (ep_some (ex_bin op_add (vo_I0 fun i j => i + j) (fun _ _ => stl_ret _) (ex_var 1 cp_int fun _ => rfl) ex_int)) ep_none (cp_pair cp_int cp_int) fun _ _ => .t)) (cp_pair cp_int cp_int) (fun _ _ => .t) el_nil))))) ea_nil)) (fun _ => rfl) (fun _ _ => (.cp cp_int (.tc cp_int) (.cp cp_sh (.tc cp_sh) .nil))) (hWE hW) (wio hio fun _ => (.un (.un .nil)))) (wio hio fun _ => (.un (.un .nil)))))))⟩
theorem sc_Tape_turned : FnScope ["self", "begin", "end", "seen"] ["self"] (defScope (Hd.ms 28 9)) := ⟨rfl, rfl, rfl, by decide +kernel, rfl, by decide +kernel, by decide +kernel⟩
theorem bk_Tape_turned_0 : BlkOk ["self", "begin", "end", "seen"] (defScope (Hd.ms 28 9)) { kind := .function, names := [(".0", .local), ("begin", .local), ("end", .local), ("self", .free)], isGenerator := false, isCoroutine := false, more := [] } [("begin", 1), ("end", 2)] := blkOk_by (by decide +kernel)
theorem ok_Tape_turned  (t_cls : TapeCls K) (t_mk : Mk K (tapeC K) (He.ma K (tapeC K) "__init__")) (g_Tape : mg "Tape" = some (.ref (tapeC K))) {d_Tape_DinitD : FuncData} (c_Tape_DinitD : FnOk P w K mg base (L2.CX P w) 1 (He.ma K (tapeC K) "__init__") d_Tape_DinitD ["self", "length", "files"] (SpI K 3 rSelf (fun u : (Int × (List (Int × Int))) => [.is rInt u.1, .is (sh (rList (rPair rInt rInt))) u.2]) rNon m_Tape_DinitD)) (b_Tape_DinitD : Binds K d_Tape_DinitD ["self", "length", "files"] []) (FD : FunD K "turned" "Tape.turned" (defArgs (Hd.ms 28 9)) (defBody (Hd.ms 28 9)) (defScope (Hd.ms 28 9)) [] [] (He.ma K (tapeC K) "turned") fd) : FnOk P w K mg base (L2.CX P w) 3 (He.ma K (tapeC K) "turned") fd ["self"] (SpP K 1 (fun u : (Int × List (Int × Int)) => [.is (sh rTape) u]) (sh rTape) m_Tape_turned) :=
  fn_pure (k := 2) FD sc_Tape_turned o_Tape_turned (fun _ => rfl) fun u cdv A outer s H E hr F hio hW => ⟨_, (bx_nf (fun s => [.is (sh rTape) u, .un, .un, .un]) (fun _ => rfl) (bx_lcS (i := 3) (Gt := fun s (x1224 : (Int × Int)) => [.is (sh rTape) u, .is rInt x1224.1, .is rInt x1224.2, .un]) s rfl sc_Tape_turned.nd (ei_tup (ex_revT (eo_t (ex_kept t_cls (eo_t (ex_var 0 cp_sh fun _ => rfl)) fun _ _ => .ts)) (cp_pair cp_int cp_int) fun _ _ => .t) (cp_pair cp_int cp_int)) (fun _ => trivial) bk_Tape_turned_0 (fun _ => (.cons rfl (.cons rfl .nil))) (by exact fun _ h => h) (fun _ _ => (.eq (.un (.un (.eq .nil))))) (fun _ _ _ _ _ _ => (eg_pair rfl (eg_name (i := 1) rfl sc_Tape_turned.nd) (fun _ => (eg_name (i := 2) rfl sc_Tape_turned.nd)) inferInstance)) (fun _ _ _ _ _ x1224 => ets_nil) (fun _ _ _ _ _ x1224 => (ex_tup2 (ex_bin op_sub (vo_I0 fun i j => i - j) (fun _ _ => stl_ret _) (ex_extent t_cls (eo_t (ex_var 0 cp_sh fun _ => rfl)) fun _ _ => .ts) (ex_var 2 cp_int fun _ => rfl)) (ex_bin op_sub (vo_I0 fun i j => i - j) (fun _ _ => stl_ret _) (ex_extent t_cls (eo_t (ex_var 0 cp_sh fun _ => rfl)) fun _ _ => .ts) (ex_var 1 cp_int fun _ => rfl)))) inferInstance inferInstance (fun v_seen1221 => (bx_nf (fun s => [.is (sh rTape) u, .un, .un, .is (sh (rList (rPair rInt rInt))) v_seen1221]) (fun _ => rfl) (bx_ret (ex_make (E := E) (fun q1240 => (q1240.1, q1240.2.1)) t_mk c_Tape_DinitD (hr.mono (by decide)) rfl g_Tape b_Tape_DinitD (by exact passes_call (takes_of rfl rfl rfl rfl) fun _ _ _ _ h => h) (ea_cons (eo_t (ex_extent t_cls (eo_t (ex_var 0 cp_sh fun _ => rfl)) fun _ _ => .ts)) (ea_cons (eo_t (ex_var 3 cp_sh fun _ => rfl)) ea_nil)) (fun _ => rfl) (fun _ _ => (.cp cp_int (.tc cp_int) (.cp cp_sh (.tc cp_sh) .nil))) (hWE hW) (wio hio fun _ => (.un (.eq (.eq (.un .nil)))))) (wio hio fun _ => (.un (.eq (.eq (.un .nil)))))))) (fun _ => rfl)))⟩
theorem sc__law_td_tape : FnScope ["_law_shape", "_law_given", "_law_made"] ["_law_shape"] (defScope (Hd.tp 43)) := ⟨rfl, rfl, rfl, by decide +kernel, rfl, by decide +kernel, by decide +kernel⟩
theorem ok__law_td_tape (f_list : mg "list" = none) (t_mk : Mk K (tapeC K) (He.ma K (tapeC K) "__init__")) (g_Tape : mg "Tape" = some (.ref (tapeC K))) {d_Tape_DinitD : FuncData} (c_Tape_DinitD : FnOk P w K mg base (L2.CX P w) 1 (He.ma K (tapeC K) "__init__") d_Tape_DinitD ["self", "length", "files"] (SpI K 3 rSelf (fun u : (Int × (List (Int × Int))) => [.is rInt u.1, .is (sh (rList (rPair rInt rInt))) u.2]) rNon m_Tape_DinitD)) (b_Tape_DinitD : Binds K d_Tape_DinitD ["self", "length", "files"] []) (FD : FunD K "_law_td_tape" "_law_td_tape" (defArgs (Hd.tp 43)) (defBody (Hd.tp 43)) (defScope (Hd.tp 43)) [] [] (ga K "_law_td_tape") fd) : FnOk P w K mg base (L2.CX P w) 3 (ga K "_law_td_tape") fd ["_law_shape"] (SpP K 1 (fun u : (Int × (List (Int × Int))) => [.is (rPair rInt (sh (rList (rPair rInt rInt)))) u]) (sh rTape) m__law_td_tape) :=
  fn_pure (k := 2) FD sc__law_td_tape o__law_td_tape (fun _ => rfl) fun u cdv A outer s H E hr F hio hW => ⟨_, (bx_nf (fun s => [.is (rPair rInt (sh (rList (rPair rInt rInt)))) u, .un, .un]) (fun _ => rfl) (bx_asg 1 sc__law_td_tape.nd (ex_list (eo_t (ex_plc (eo_t (ex_var 0 (cp_pair cp_int cp_sh) fun _ => rfl)) plc2_1 cp_sh fun _ _ => .t)) (cp_pair cp_int cp_int) (fun _ _ => .ts) rfl f_list) (fun v_law_given1243 => (bx_nf (fun s => [.is (rPair rInt (sh (rList (rPair rInt rInt)))) u, .is (rList (rPair rInt rInt)) v_law_given1243, .un]) (fun _ => rfl) (bx_asg 2 sc__law_td_tape.nd (ex_makeE (E := E) (fun q1250 => (q1250.1, v_law_given1243)) t_mk c_Tape_DinitD (hr.mono (by decide)) rfl g_Tape b_Tape_DinitD (by exact passes_call (takes_of rfl rfl rfl rfl) fun _ _ _ _ h => h) (ea_cons (eo_t (ex_plc (eo_t (ex_var 0 (cp_pair cp_int cp_sh) fun _ => rfl)) plc2_0 cp_int fun _ _ => .t)) (ea_cons (eo_own (U := Unit) (a := ()) 1 fun _ => rfl) ea_nil)) (fun _ => rfl) (fun _ _ => (.cp cp_int .t (.sh (.v rfl) .nil))) (hWE hW) (wio hio fun _ => (.un (.un (.eq .nil))))) (fun v_law_made1246 => (bx_nf (fun s => [.is (rPair rInt (sh (rList (rPair rInt rInt)))) u, .is (rList (rPair rInt rInt)) v_law_given1243, .is (sh rTape) v_law_made1246]) (fun _ => rfl) (bx_app 1 (ex_tup2 ex_int ex_int) (fun _ => rfl) (fun _ => rfl) fun v_law_given1255 => (bx_nf (fun s => [.is (rPair rInt (sh (rList (rPair rInt rInt)))) u, .is (rList (rPair rInt rInt)) v_law_given1255, .is (sh rTape) v_law_made1246]) (fun _ => rfl) (bx_ret (ex_var 2 cp_sh fun _ => rfl) (wio hio fun _ => (.un (.un (.un .nil))))))))) inferInstance (fun _ => rfl)))) inferInstance (fun _ => rfl)))⟩
theorem sc__law_td_road : FnScope ["_law_sack", "_law_shape", "_law_begin", "_law_elder", "_law_end", "_law_gaps", "_law_highs", "_law_lows", "_law_many", "_law_mode", "_law_rank", "_law_spot"] ["_law_sack", "_law_shape"] (defScope (Hd.tp 44)) := ⟨rfl, rfl, rfl, by decide +kernel, rfl, by decide +kernel, by decide +kernel⟩
theorem bk__law_td_road_0 : BlkOk ["_law_sack", "_law_shape", "_law_begin", "_law_elder", "_law_end", "_law_gaps", "_law_highs", "_law_lows", "_law_many", "_law_mode", "_law_rank", "_law_spot"] (defScope (Hd.tp 44)) { kind := .function, names := [(".0", .local), ("_law_begin", .local), ("_law_end", .local), ("_law_shape", .free)], isGenerator := false, isCoroutine := false, more := [] } [("_law_begin", 2), ("_law_end", 4)] := blkOk_by (by decide +kernel)
theorem bk__law_td_road_1 : BlkOk ["_law_sack", "_law_shape", "_law_begin", "_law_elder", "_law_end", "_law_gaps", "_law_highs", "_law_lows", "_law_many", "_law_mode", "_law_rank", "_law_spot"] (defScope (Hd.tp 44)) { kind := .function, names := [(".0", .local), ("_law_begin", .local), ("_law_end", .local), ("_law_shape", .free)], isGenerator := false, isCoroutine := false, more := [] } [("_law_begin", 2), ("_law_end", 4)] := blkOk_by (by decide +kernel)
theorem bk__law_td_road_2 : BlkOk ["_law_sack", "_law_shape", "_law_begin", "_law_elder", "_law_end", "_law_gaps", "_law_highs", "_law_lows", "_law_many", "_law_mode", "_law_rank", "_law_spot"] (defScope (Hd.tp 44)) { kind := .function, names := [(".0", .local), ("_law_begin", .local), ("_law_end", .local)], isGenerator := false, isCoroutine := false, more := [] } [("_law_begin", 2), ("_law_end", 4)] := blkOk_by (by decide +kernel)
theorem bk__law_td_road_3 : BlkOk ["_law_sack", "_law_shape", "_law_begin", "_law_elder", "_law_end", "_law_gaps", "_law_highs", "_law_lows", "_law_many", "_law_mode", "_law_rank", "_law_spot"] (defScope (Hd.tp 44)) { kind := .function, names := [(".0", .local), ("_law_begin", .local), ("_law_end", .local)], isGenerator := false, isCoroutine := false, more := [] } [("_law_begin", 2), ("_law_end", 4)] := blkOk_by (by decide +kernel)
theorem bk__law_td_road_4 : BlkOk ["_law_sack", "_law_shape", "_law_begin", "_law_elder", "_law_end", "_law_gaps", "_law_highs", "_law_lows", "_law_many", "_law_mode", "_law_rank", "_law_spot"] (defScope (Hd.tp 44)) { kind := .function, names := [(".0", .local), ("_law_rank", .local), ("_law_highs", .free), ("_law_lows", .free)], isGenerator := false, isCoroutine := false, more := [] } [("_law_rank", 10)] := blkOk_by (by decide +kernel)
theorem bk__law_td_road_5 : BlkOk ["_law_sack", "_law_shape", "_law_begin", "_law_elder", "_law_end", "_law_gaps", "_law_highs", "_law_lows", "_law_many", "_law_mode", "_law_rank", "_law_spot"] (defScope (Hd.tp 44)) { kind := .function, names := [(".0", .local), ("_law_spot", .local)], isGenerator := false, isCoroutine := false, more := [] } [("_law_spot", 11)] := blkOk_by (by decide +kernel)
theorem ok__law_td_road (f_len : mg "len" = none) (f_range : mg "range" = none) (t_cls : TapeCls K) (t_turned : L2.Meth K (tapeC K) "turned" (He.ma K (tapeC K) "turned")) (t_without : L2.Meth K (tapeC K) "without" (He.ma K (tapeC K) "without")) (t_mk : Mk K (tapeC K) (He.ma K (tapeC K) "__init__")) (g_Tape : mg "Tape" = some (.ref (tapeC K))) {d_Tape_DinitD : FuncData} (c_Tape_DinitD : FnOk P w K mg base (L2.CX P w) 1 (He.ma K (tapeC K) "__init__") d_Tape_DinitD ["self", "length", "files"] (SpI K 3 rSelf (fun u : (Int × (List (Int × Int))) => [.is rInt u.1, .is (sh (rList (rPair rInt rInt))) u.2]) rNon m_Tape_DinitD)) (b_Tape_DinitD : Binds K d_Tape_DinitD ["self", "length", "files"] []) {d_Tape_turned : FuncData} (c_Tape_turned : FnOk P w K mg base (L2.CX P w) 3 (He.ma K (tapeC K) "turned") d_Tape_turned ["self"] (SpP K 1 (fun u : (Int × List (Int × Int)) => [.is (sh rTape) u]) (sh rTape) m_Tape_turned)) (b_Tape_turned : Binds K d_Tape_turned ["self"] []) {d_Tape_without : FuncData} (c_Tape_without : FnOk P w K mg base (L2.CX P w) 3 (He.ma K (tapeC K) "without") d_Tape_without ["self", "index"] (SpP K 2 (fun u : ((Int × List (Int × Int)) × Int) => [.is (sh rTape) u.1, .is rInt u.2]) (sh rTape) m_Tape_without)) (b_Tape_without : Binds K d_Tape_without ["self", "index"] []) {d__law_td_pick : FuncData} (c__law_td_pick : FnOk P w K mg base (L2.CX P w) 1 (ga K "_law_td_pick") d__law_td_pick ["_law_sack", "_law_many"] (SpI K 2 (rList rInt) (fun u : Int => [.is rInt u]) rInt m__law_td_pick)) (g__law_td_pick : mg "_law_td_pick" = some (.ref (ga K "_law_td_pick"))) (k__law_td_pick : PySem.W.keepIn K (.ref (ga K "_law_td_pick")) = true) (b__law_td_pick : Binds K d__law_td_pick ["_law_sack", "_law_many"] []) {d__law_td_tape : FuncData} (c__law_td_tape : FnOk P w K mg base (L2.CX P w) 3 (ga K "_law_td_tape") d__law_td_tape ["_law_shape"] (SpP K 1 (fun u : (Int × (List (Int × Int))) => [.is (rPair rInt (sh (rList (rPair rInt rInt)))) u]) (sh rTape) m__law_td_tape)) (g__law_td_tape : mg "_law_td_tape" = some (.ref (ga K "_law_td_tape"))) (k__law_td_tape : PySem.W.keepIn K (.ref (ga K "_law_td_tape")) = true) (b__law_td_tape : Binds K d__law_td_tape ["_law_shape"] []) {d_waits : FuncData} (c_waits : FnOk P w K mg base (L2.CX P w) 5 (ga K "waits") d_waits ["tape", "asks", "row"] (SpP K 3 (fun u : ((Int × List (Int × Int)) × (List Int) × (List (Int × Int))) => [.is (sh rTape) u.1, .is (sh (rList rInt)) u.2.1, .is (sh (rList (rPair rInt rInt))) u.2.2]) (rList (rOpt (rPair rInt rInt))) m_waits)) (g_waits : mg "waits" = some (.ref (ga K "waits"))) (k_waits : PySem.W.keepIn K (.ref (ga K "waits")) = true) (b_waits : Binds K d_waits ["tape", "asks", "row"] []) (FD : FunD K "_law_td_road" "_law_td_road" (defArgs (Hd.tp 44)) (defBody (Hd.tp 44)) (defScope (Hd.tp 44)) [] [] (ga K "_law_td_road") fd) : FnOk P w K mg base (L2.CX P w) 6 (ga K "_law_td_road") fd ["_law_sack", "_law_shape"] (SpI K 2 (rList rInt) (fun u : (Int × (List (Int × Int))) => [.is (rPair rInt (sh (rList (rPair rInt rInt)))) u]) (sh rTape) m__law_td_road) :=
  fn_io (k := 5) FD sc__law_td_road o__law_td_road (fun _ => rfl) fun u v0 cdv A outer s H E hr F hio hW => ⟨_, (bx_nf (fun s => [.pn v0 (rList rInt) s, .is (rPair rInt (sh (rList (rPair rInt rInt)))) u, .un, .un, .un, .un, .un, .un, .un, .un, .un, .un]) (fun _ => rfl) (bx_par 9 8 sc__law_td_road.nd rfl (by decide) (ex_callIo (E := E) 0 (fun q1259 => q1259.2.1) c__law_td_pick (hr.mono (by decide)) rfl g__law_td_pick k__law_td_pick b__law_td_pick (by exact passes_call (takes_of rfl rfl rfl rfl) fun _ _ _ _ h => h) (clo_list clo_int) (ea_cons (eo_pn (U := Unit) (a := ()) 0 fun _ => rfl) (ea_cons (eo_t ex_int) ea_nil)) (fun _ => rfl) (fun _ => rfl) (fun _ _ => rfl) (fun _ _ => (.cp cp_int (.tc cp_int) .nil)) (hWE hW) (wios hio fun _ => (.eq (.un (.eq (.eq (.eq (.eq (.eq (.eq (.eq (.eq (.eq (.eq .nil)))))))))))))) (ex_len (eo_t (ex_plc (eo_t (ex_var 1 (cp_pair cp_int cp_sh) fun _ => rfl)) plc2_1 cp_sh fun _ _ => .t)) (fun _ _ => .ts) rfl f_len) (fun v_law_mode1263 v_law_many1264 => (bx_nf (fun s => [.pn v0 (rList rInt) s, .is (rPair rInt (sh (rList (rPair rInt rInt)))) u, .un, .un, .un, .un, .un, .un, .is rInt v_law_many1264, .is rInt v_law_mode1263, .un, .un]) (fun _ => rfl) (bx_ifr (GE_ := fun e _ => e.elim) (et_cmp op_eq vo_eqI (fun _ _ => stl_ret _) (ex_var 9 cp_int fun _ => rfl) ex_int rfl) (bx_nf (fun s => [.pn v0 (rList rInt) s, .is (rPair rInt (sh (rList (rPair rInt rInt)))) u, .un, .un, .un, .un, .un, .un, .is rInt v_law_many1264, .is rInt v_law_mode1263, .un, .un]) (fun _ => rfl) (bx_ret (ex_meth0 (E := E) t_cls t_turned c_Tape_turned b_Tape_turned (hr.mono (by decide)) (by exact passes_call (takes_of rfl rfl rfl rfl) fun _ _ _ _ h => h) (eo_t (ex_make (E := E) (fun q1299 => (q1299.1, q1299.2.1)) t_mk c_Tape_DinitD (hr.mono (by decide)) rfl g_Tape b_Tape_DinitD (by exact passes_call (takes_of rfl rfl rfl rfl) fun _ _ _ _ h => h) (ea_cons (eo_t (ex_plc (eo_t (ex_var 1 (cp_pair cp_int cp_sh) fun _ => rfl)) plc2_0 cp_int fun _ _ => .t)) (ea_cons (eo_t (ex_freeze (ex_lcU (Gt := fun s (x1284 : (Int × Int)) => [.pn v0 (rList rInt) s, .is (rPair rInt (sh (rList (rPair rInt rInt)))) u, .is rInt x1284.1, .un, .is rInt x1284.2, .un, .un, .un, .is rInt v_law_many1264, .is rInt v_law_mode1263, .un, .un]) s rfl sc__law_td_road.nd (ei_sh (ex_freeze (ex_revL (eo_t (ex_plc (eo_t (ex_var 1 (cp_pair cp_int cp_sh) fun _ => rfl)) plc2_1 cp_sh fun _ _ => .t)) (cp_pair cp_int cp_int) fun _ _ => .ts)) (cp_pair cp_int cp_int)) (fun _ => trivial) bk__law_td_road_1 (fun _ => (.cons rfl (.cons rfl .nil))) (by exact fun _ h => h) (fun _ _ => (.eq (.eq (.un (.eq (.un (.eq (.eq (.eq (.eq (.eq (.eq (.eq .nil))))))))))))) (fun _ _ _ _ _ _ => (eg_pair rfl (eg_name (i := 2) rfl sc__law_td_road.nd) (fun _ => (eg_name (i := 4) rfl sc__law_td_road.nd)) inferInstance)) (fun _ _ _ _ _ x1284 => ets_nil) (fun _ _ _ _ _ x1284 => (ex_tup2 (ex_bin op_sub (vo_I0 fun i j => i - j) (fun _ _ => stl_ret _) (ex_plc (eo_t (ex_var 1 (cp_pair cp_int cp_sh) fun _ => rfl)) plc2_0 cp_int fun _ _ => .t) (ex_var 4 cp_int fun _ => rfl)) (ex_bin op_sub (vo_I0 fun i j => i - j) (fun _ _ => stl_ret _) (ex_plc (eo_t (ex_var 1 (cp_pair cp_int cp_sh) fun _ => rfl)) plc2_0 cp_int fun _ _ => .t) (ex_var 2 cp_int fun _ => rfl)))) inferInstance inferInstance))) ea_nil)) (fun _ => rfl) (fun _ _ => (.cp cp_int (.tc cp_int) (.cp cp_sh (.tc cp_sh) .nil))) (hWE hW) (wios hio fun _ => (.eq (.un (.eq (.eq (.eq (.eq (.eq (.eq (.un (.un (.eq (.eq .nil))))))))))))))) (fun _ _ => .t) (hWE hW) (wios hio fun _ => (.eq (.un (.eq (.eq (.eq (.eq (.eq (.eq (.un (.un (.eq (.eq .nil)))))))))))))) (wios hio fun _ => (.eq (.un (.eq (.eq (.eq (.eq (.eq (.eq (.un (.un (.eq (.eq .nil))))))))))))))) (bx_nf (fun s => [.pn v0 (rList rInt) s, .is (rPair rInt (sh (rList (rPair rInt rInt)))) u, .un, .un, .un, .un, .un, .un, .is rInt v_law_many1264, .is rInt v_law_mode1263, .un, .un]) (fun _ => rfl) (bx_asg 7 sc__law_td_road.nd (ex_freeze (ex_cat (eo_t (ex_lst (r := rInt) (el_cons ex_int el_nil))) (eo_t (ex_lcU (Gt := fun s (x1308 : (Int × Int)) => [.pn v0 (rList rInt) s, .is (rPair rInt (sh (rList (rPair rInt rInt)))) u, .is rInt x1308.1, .un, .is rInt x1308.2, .un, .un, .un, .is rInt v_law_many1264, .is rInt v_law_mode1263, .un, .un]) s rfl sc__law_td_road.nd (ei_sh (ex_plc (eo_t (ex_var 1 (cp_pair cp_int cp_sh) fun _ => rfl)) plc2_1 cp_sh fun _ _ => .t) (cp_pair cp_int cp_int)) (fun _ => trivial) bk__law_td_road_2 (fun _ => (.cons rfl (.cons rfl .nil))) (by exact fun _ h => h) (fun _ _ => (.eq (.eq (.un (.eq (.un (.eq (.eq (.eq (.eq (.eq (.eq (.eq .nil))))))))))))) (fun _ _ _ _ _ _ => (eg_pair rfl (eg_name (i := 2) rfl sc__law_td_road.nd) (fun _ => (eg_name (i := 4) rfl sc__law_td_road.nd)) inferInstance)) (fun _ _ _ _ _ x1308 => ets_nil) (fun _ _ _ _ _ x1308 => (ex_var 4 cp_int fun _ => rfl)) inferInstance inferInstance)) cp_int (fun _ _ => .t) (fun _ _ => .t))) (fun v_law_lows1303 => (bx_nf (fun s => [.pn v0 (rList rInt) s, .is (rPair rInt (sh (rList (rPair rInt rInt)))) u, .un, .un, .un, .un, .un, .is (sh (rList rInt)) v_law_lows1303, .is rInt v_law_many1264, .is rInt v_law_mode1263, .un, .un]) (fun _ => rfl) (bx_asg 6 sc__law_td_road.nd (ex_freeze (ex_cat (eo_t (ex_lcU (Gt := fun s (x1313 : (Int × Int)) => [.pn v0 (rList rInt) s, .is (rPair rInt (sh (rList (rPair rInt rInt)))) u, .is rInt x1313.1, .un, .is rInt x1313.2, .un, .un, .is (sh (rList rInt)) v_law_lows1303, .is rInt v_law_many1264, .is rInt v_law_mode1263, .un, .un]) s rfl sc__law_td_road.nd (ei_sh (ex_plc (eo_t (ex_var 1 (cp_pair cp_int cp_sh) fun _ => rfl)) plc2_1 cp_sh fun _ _ => .t) (cp_pair cp_int cp_int)) (fun _ => trivial) bk__law_td_road_3 (fun _ => (.cons rfl (.cons rfl .nil))) (by exact fun _ h => h) (fun _ _ => (.eq (.eq (.un (.eq (.un (.eq (.eq (.eq (.eq (.eq (.eq (.eq .nil))))))))))))) (fun _ _ _ _ _ _ => (eg_pair rfl (eg_name (i := 2) rfl sc__law_td_road.nd) (fun _ => (eg_name (i := 4) rfl sc__law_td_road.nd)) inferInstance)) (fun _ _ _ _ _ x1313 => ets_nil) (fun _ _ _ _ _ x1313 => (ex_var 2 cp_int fun _ => rfl)) inferInstance inferInstance)) (eo_t (ex_lst (r := rInt) (el_cons (ex_plc (eo_t (ex_var 1 (cp_pair cp_int cp_sh) fun _ => rfl)) plc2_0 cp_int fun _ _ => .t) el_nil))) cp_int (fun _ _ => .t) (fun _ _ => .t))) (fun v_law_highs1311 => (bx_nf (fun s => [.pn v0 (rList rInt) s, .is (rPair rInt (sh (rList (rPair rInt rInt)))) u, .un, .un, .un, .un, .is (sh (rList rInt)) v_law_highs1311, .is (sh (rList rInt)) v_law_lows1303, .is rInt v_law_many1264, .is rInt v_law_mode1263, .un, .un]) (fun _ => rfl) (bx_lcS (i := 5) (Gt := fun s (x1325 : Int) => [.pn v0 (rList rInt) s, .is (rPair rInt (sh (rList (rPair rInt rInt)))) u, .un, .un, .un, .un, .is (sh (rList rInt)) v_law_highs1311, .is (sh (rList rInt)) v_law_lows1303, .is rInt v_law_many1264, .is rInt v_law_mode1263, .is rInt x1325, .un]) s rfl sc__law_td_road.nd (ei_rng1 (ex_bin op_add (vo_I0 fun i j => i + j) (fun _ _ => stl_ret _) (ex_var 8 cp_int fun _ => rfl) ex_int) rfl f_range) (fun _ => trivial) bk__law_td_road_4 (fun _ => (.cons rfl .nil)) (by exact fun _ h => h) (fun _ _ => (.eq (.eq (.eq (.eq (.eq (.eq (.eq (.eq (.eq (.eq (.un (.eq .nil))))))))))))) (fun _ _ _ _ _ _ => (eg_name (i := 10) rfl sc__law_td_road.nd)) (fun _ _ _ _ _ x1325 => (ets_one (et_cmp op_lt (vo_B0 fun i j => decide (i < j)) (fun _ _ => stl_ret _) (ex_ix (eo_t (ex_var 7 cp_sh fun _ => rfl)) (ex_var 10 cp_int fun _ => rfl) cp_int fun _ _ => .ts) (ex_ix (eo_t (ex_var 6 cp_sh fun _ => rfl)) (ex_var 10 cp_int fun _ => rfl) cp_int fun _ _ => .ts) rfl))) (fun _ _ _ _ _ x1325 => (ex_var 10 cp_int fun _ => rfl)) inferInstance inferInstance (fun v_law_gaps1320 => (bx_nf (fun s => [.pn v0 (rList rInt) s, .is (rPair rInt (sh (rList (rPair rInt rInt)))) u, .un, .un, .un, .is (sh (rList rInt)) v_law_gaps1320, .is (sh (rList rInt)) v_law_highs1311, .is (sh (rList rInt)) v_law_lows1303, .is rInt v_law_many1264, .is rInt v_law_mode1263, .un, .un]) (fun _ => rfl) (bx_ifr (GE_ := fun e _ => e.elim) (et_w (ew_or (et_cmp op_eq vo_eqI (fun _ _ => stl_ret _) (ex_var 9 cp_int fun _ => rfl) ex_int rfl) (ew_or (et_eqD hr.units (eo_t (ex_var 5 cp_sh fun _ => rfl)) (eo_t (ex_lst (r := rInt) el_nil)) (fun _ _ => .mk (en_L enc_int) .ts) (fun _ _ => .mk (en_L enc_int) .t)) (ew_or1 (et_cmp op_gt (vo_B0 fun i j => decide (j < i)) (fun _ _ => stl_ret _) (ex_var 8 cp_int fun _ => rfl) ex_int rfl))))) (bx_nf (fun s => [.pn v0 (rList rInt) s, .is (rPair rInt (sh (rList (rPair rInt rInt)))) u, .un, .un, .un, .is (sh (rList rInt)) v_law_gaps1320, .is (sh (rList rInt)) v_law_highs1311, .is (sh (rList rInt)) v_law_lows1303, .is rInt v_law_many1264, .is rInt v_law_mode1263, .un, .un]) (fun _ => rfl) (bx_ret (ex_call (E := E) (fun q1344 => q1344.1) c__law_td_tape (hr.mono (by decide)) rfl g__law_td_tape k__law_td_tape b__law_td_tape (by exact passes_call (takes_of rfl rfl rfl rfl) fun _ _ _ _ h => h) (ea_cons (eo_t (ex_var 1 (cp_pair cp_int cp_sh) fun _ => rfl)) ea_nil) (fun _ => rfl) (.inr fun _ _ => (.cp (cp_pair cp_int cp_sh) (.tc (cp_pair cp_int cp_sh)) .nil)) (hWE hW) (wios hio fun _ => (.eq (.un (.eq (.eq (.eq (.un (.un (.un (.un (.un (.eq (.eq .nil)))))))))))))) (wios hio fun _ => (.eq (.un (.eq (.eq (.eq (.un (.un (.un (.un (.un (.eq (.eq .nil))))))))))))))) (bx_nf (fun s => [.pn v0 (rList rInt) s, .is (rPair rInt (sh (rList (rPair rInt rInt)))) u, .un, .un, .un, .is (sh (rList rInt)) v_law_gaps1320, .is (sh (rList rInt)) v_law_highs1311, .is (sh (rList rInt)) v_law_lows1303, .is rInt v_law_many1264, .is rInt v_law_mode1263, .un, .un]) (fun _ => rfl) (bx_asg 10 sc__law_td_road.nd (ex_ix (eo_t (ex_var 5 cp_sh fun _ => rfl)) (ex_callIo (E := E) 0 (fun q1351 => q1351.2.1) c__law_td_pick (hr.mono (by decide)) rfl g__law_td_pick k__law_td_pick b__law_td_pick (by exact passes_call (takes_of rfl rfl rfl rfl) fun _ _ _ _ h => h) (clo_list clo_int) (ea_cons (eo_pn (U := Unit) (a := ()) 0 fun _ => rfl) (ea_cons (eo_t (ex_len (eo_t (ex_var 5 cp_sh fun _ => rfl)) (fun _ _ => .ts) rfl f_len)) ea_nil)) (fun _ => rfl) (fun _ => rfl) (fun _ _ => rfl) (fun _ _ => (.cp cp_int (.tc cp_int) .nil)) (hWE hW) (wios hio fun _ => (.eq (.un (.eq (.eq (.eq (.un (.un (.un (.un (.un (.eq (.eq .nil)))))))))))))) cp_int fun _ _ => .ts) (fun v_law_rank1346 => (bx_nf (fun s => [.pn v0 (rList rInt) s, .is (rPair rInt (sh (rList (rPair rInt rInt)))) u, .un, .un, .un, .is (sh (rList rInt)) v_law_gaps1320, .is (sh (rList rInt)) v_law_highs1311, .is (sh (rList rInt)) v_law_lows1303, .is rInt v_law_many1264, .is rInt v_law_mode1263, .is rInt v_law_rank1346, .un]) (fun _ => rfl) (bx_asg 3 sc__law_td_road.nd (ex_make (E := E) (fun q1406 => (q1406.1, q1406.2.1)) t_mk c_Tape_DinitD (hr.mono (by decide)) rfl g_Tape b_Tape_DinitD (by exact passes_call (takes_of rfl rfl rfl rfl) fun _ _ _ _ h => h) (ea_cons (eo_t (ex_plc (eo_t (ex_var 1 (cp_pair cp_int cp_sh) fun _ => rfl)) plc2_0 cp_int fun _ _ => .t)) (ea_cons (eo_t (ex_freeze (ex_cat (eo_t (ex_cat (eo_t (ex_slice (eo_t (ex_plc (eo_t (ex_var 1 (cp_pair cp_int cp_sh) fun _ => rfl)) plc2_1 cp_sh fun _ _ => .t)) ep_none (ep_some (ex_var 10 cp_int fun _ => rfl)) (cp_pair cp_int cp_int) fun _ _ => .ts)) (eo_t (ex_lst (r := (rPair rInt rInt)) (el_cons (ex_tup2 (ex_ix (eo_t (ex_var 7 cp_sh fun _ => rfl)) (ex_var 10 cp_int fun _ => rfl) cp_int fun _ _ => .ts) (ex_ix (eo_t (ex_var 6 cp_sh fun _ => rfl)) (ex_var 10 cp_int fun _ => rfl) cp_int fun _ _ => .ts)) el_nil))) (cp_pair cp_int cp_int) (fun _ _ => .t) (fun _ _ => .t))) (eo_t (ex_slice (eo_t (ex_plc (eo_t (ex_var 1 (cp_pair cp_int cp_sh) fun _ => rfl)) plc2_1 cp_sh fun _ _ => .t)) (ep_some (ex_var 10 cp_int fun _ => rfl)) ep_none (cp_pair cp_int cp_int) fun _ _ => .ts)) (cp_pair cp_int cp_int) (fun _ _ => .t) (fun _ _ => .t)))) ea_nil)) (fun _ => rfl) (fun _ _ => (.cp cp_int (.tc cp_int) (.cp cp_sh (.tc cp_sh) .nil))) (hWE hW) (wios hio fun _ => (.eq (.un (.eq (.eq (.eq (.un (.un (.un (.un (.un (.un (.eq .nil)))))))))))))) (fun v_law_elder1354 => (bx_nf (fun s => [.pn v0 (rList rInt) s, .is (rPair rInt (sh (rList (rPair rInt rInt)))) u, .un, .is (sh rTape) v_law_elder1354, .un, .is (sh (rList rInt)) v_law_gaps1320, .is (sh (rList rInt)) v_law_highs1311, .is (sh (rList rInt)) v_law_lows1303, .is rInt v_law_many1264, .is rInt v_law_mode1263, .is rInt v_law_rank1346, .un]) (fun _ => rfl) (bx_expr (ex_call (E := E) (fun q1420 => (q1420.1, q1420.2.1, q1420.2.2.1)) c_waits (hr.mono (by decide)) rfl g_waits k_waits b_waits (by exact passes_call (takes_of rfl rfl rfl rfl) fun _ _ _ _ h => h) (ea_cons (eo_t (ex_var 3 cp_sh fun _ => rfl)) (ea_cons (eo_t (ex_lcU (Gt := fun s (x1412 : Int) => [.pn v0 (rList rInt) s, .is (rPair rInt (sh (rList (rPair rInt rInt)))) u, .un, .is (sh rTape) v_law_elder1354, .un, .is (sh (rList rInt)) v_law_gaps1320, .is (sh (rList rInt)) v_law_highs1311, .is (sh (rList rInt)) v_law_lows1303, .is rInt v_law_many1264, .is rInt v_law_mode1263, .is rInt v_law_rank1346, .is rInt x1412]) s rfl sc__law_td_road.nd (ei_rng1 (ex_bin op_add (vo_I0 fun i j => i + j) (fun _ _ => stl_ret _) (ex_var 8 cp_int fun _ => rfl) ex_int) rfl f_range) (fun _ => trivial) bk__law_td_road_5 (fun _ => (.cons rfl .nil)) (by exact fun _ h => h) (fun _ _ => (.eq (.eq (.eq (.eq (.eq (.eq (.eq (.eq (.eq (.eq (.eq (.un .nil))))))))))))) (fun _ _ _ _ _ _ => (eg_name (i := 11) rfl sc__law_td_road.nd)) (fun _ _ _ _ _ x1412 => ets_nil) (fun _ _ _ _ _ x1412 => ex_int) inferInstance inferInstance)) (ea_cons (eo_t (ex_lst (r := (rPair rInt rInt)) el_nil)) ea_nil))) (fun _ => rfl) (.inl ⟨(clo_list (clo_opt (clo_pair clo_int clo_int))), fun _ _ => (.cp cp_sh .t (.sh .t (.sh .t .nil)))⟩) (hWE hW) (wios hio fun _ => (.eq (.un (.eq (.un (.eq (.un (.un (.un (.un (.un (.un (.eq .nil)))))))))))))) (bx_nf (fun s => [.pn v0 (rList rInt) s, .is (rPair rInt (sh (rList (rPair rInt rInt)))) u, .un, .is (sh rTape) v_law_elder1354, .un, .is (sh (rList rInt)) v_law_gaps1320, .is (sh (rList rInt)) v_law_highs1311, .is (sh (rList rInt)) v_law_lows1303, .is rInt v_law_many1264, .is rInt v_law_mode1263, .is rInt v_law_rank1346, .un]) (fun _ => rfl) (bx_ret (ex_methI (E := E) t_cls t_without c_Tape_without b_Tape_without (hr.mono (by decide)) (by exact passes_call (takes_of rfl rfl rfl rfl) fun _ _ _ _ h => h) (eo_t (ex_var 3 cp_sh fun _ => rfl)) (ex_var 10 cp_int fun _ => rfl) (fun _ _ => .t) (fun _ _ => .t) (hWE hW) (wios hio fun _ => (.eq (.un (.eq (.un (.eq (.un (.un (.un (.un (.un (.un (.eq .nil)))))))))))))) (wios hio fun _ => (.eq (.un (.eq (.un (.eq (.un (.un (.un (.un (.un (.un (.eq .nil)))))))))))))))))) inferInstance (fun _ => rfl)))) inferInstance (fun _ => rfl)))))) (fun _ => rfl)))) inferInstance (fun _ => rfl)))) inferInstance (fun _ => rfl)))))) inferInstance inferInstance (fun _ => rfl) (fun _ => rfl)))⟩
theorem sc__law_td_shape : FnScope ["_law_sack", "_law_most", "_law_found", "_law_many", "_law_size", "_law_spot", "_law_top", "_law_turn"] ["_law_sack", "_law_most"] (defScope (Hd.tp 33)) := ⟨rfl, rfl, rfl, by decide +kernel, rfl, by decide +kernel, by decide +kernel⟩
theorem ok__law_td_shape (f_max : mg "max" = none) (f_range : mg "range" = none) {d__law_td_pick : FuncData} (c__law_td_pick : FnOk P w K mg base (L2.CX P w) 1 (ga K "_law_td_pick") d__law_td_pick ["_law_sack", "_law_many"] (SpI K 2 (rList rInt) (fun u : Int => [.is rInt u]) rInt m__law_td_pick)) (g__law_td_pick : mg "_law_td_pick" = some (.ref (ga K "_law_td_pick"))) (k__law_td_pick : PySem.W.keepIn K (.ref (ga K "_law_td_pick")) = true) (b__law_td_pick : Binds K d__law_td_pick ["_law_sack", "_law_many"] []) (FD : FunD K "_law_td_shape" "_law_td_shape" (defArgs (Hd.tp 33)) (defBody (Hd.tp 33)) (defScope (Hd.tp 33)) [] [] (ga K "_law_td_shape") fd) : FnOk P w K mg base (L2.CX P w) 2 (ga K "_law_td_shape") fd ["_law_sack", "_law_most"] (SpI K 2 (rList rInt) (fun u : Int => [.is rInt u]) (rPair rInt (sh (rList (rPair rInt rInt)))) m__law_td_shape) :=
  fn_io (k := 1) FD sc__law_td_shape o__law_td_shape (fun _ => rfl) fun u v0 cdv A outer s H E hr F hio hW => ⟨_, (bx_nf (fun s => [.pn v0 (rList rInt) s, .is rInt u, .un, .un, .un, .un, .un, .un]) (fun _ => rfl) (bx_asg 3 sc__law_td_shape.nd (ex_callIo (E := E) 0 (fun q1429 => q1429.2.1) c__law_td_pick (hr.mono (by decide)) rfl g__law_td_pick k__law_td_pick b__law_td_pick (by exact passes_call (takes_of rfl rfl rfl rfl) fun _ _ _ _ h => h) (clo_list clo_int) (ea_cons (eo_pn (U := Unit) (a := ()) 0 fun _ => rfl) (ea_cons (eo_t (ex_bin op_add (vo_I0 fun i j => i + j) (fun _ _ => stl_ret _) (ex_var 1 cp_int fun _ => rfl) ex_int)) ea_nil)) (fun _ => rfl) (fun _ => rfl) (fun _ _ => rfl) (fun _ _ => (.cp cp_int (.tc cp_int) .nil)) (hWE hW) (wios hio fun _ => (.eq (.un (.eq (.eq (.eq (.eq (.eq (.eq .nil)))))))))) (fun v_law_many1424 => (bx_nf (fun s => [.pn v0 (rList rInt) s, .is rInt u, .un, .is rInt v_law_many1424, .un, .un, .un, .un]) (fun _ => rfl) (bx_asg 6 sc__law_td_shape.nd (ex_bin op_fdivN vo_div stl_div ex_int (ex_max2 ex_int (ex_var 3 cp_int fun _ => rfl) rfl f_max)) (fun v_law_top1431 => (bx_nf (fun s => [.pn v0 (rList rInt) s, .is rInt u, .un, .is rInt v_law_many1424, .un, .un, .is rInt v_law_top1431, .un]) (fun _ => rfl) (bx_par 5 2 sc__law_td_shape.nd rfl (by decide) (ex_callIo (E := E) 0 (fun q1438 => q1438.2.1) c__law_td_pick (hr.mono (by decide)) rfl g__law_td_pick k__law_td_pick b__law_td_pick (by exact passes_call (takes_of rfl rfl rfl rfl) fun _ _ _ _ h => h) (clo_list clo_int) (ea_cons (eo_pn (U := Unit) (a := ()) 0 fun _ => rfl) (ea_cons (eo_t ex_int) ea_nil)) (fun _ => rfl) (fun _ => rfl) (fun _ _ => rfl) (fun _ _ => (.cp cp_int (.tc cp_int) .nil)) (hWE hW) (wios hio fun _ => (.eq (.un (.eq (.un (.eq (.eq (.un (.eq .nil)))))))))) (ex_lst (r := (rPair rInt rInt)) el_nil) (fun v_law_spot1441 v_law_found1442 => (bx_nf (fun s => [.pn v0 (rList rInt) s, .is rInt u, .is (rList (rPair rInt rInt)) v_law_found1442, .is rInt v_law_many1424, .un, .is rInt v_law_spot1441, .is rInt v_law_top1431, .un]) (fun _ => rfl) (bx_for (Gt := fun (l1443 : ((List (Int × Int)) × Int)) s (x1446 : Int) => [.pn v0 (rList rInt) s, .is rInt u, .is (rList (rPair rInt rInt)) l1443.1, .is rInt v_law_many1424, .un, .is rInt l1443.2, .is rInt v_law_top1431, .is rInt x1446]) (passes_of rfl) rfl (fun (l1443 : ((List (Int × Int)) × Int)) s => [.pn v0 (rList rInt) s, .is rInt u, .is (rList (rPair rInt rInt)) l1443.1, .is rInt v_law_many1424, .un, .is rInt l1443.2, .is rInt v_law_top1431, .un]) (v_law_found1442, v_law_spot1441) (ei_rng1 (ex_var 3 cp_int fun _ => rfl) rfl f_range) (fun _ => (.eq (.eq (.eq (.eq (.eq (.eq (.eq (.eq .nil))))))))) (fun _ _ => trivial) (fun l1443 _ => (eg_name (i := 7) rfl sc__law_td_shape.nd)) (fun l1443 x1446 => (bx_nf (fun s => [.pn v0 (rList rInt) s, .is rInt u, .is (rList (rPair rInt rInt)) l1443.1, .is rInt v_law_many1424, .un, .is rInt l1443.2, .is rInt v_law_top1431, .is rInt x1446]) (fun _ => rfl) (bx_asg 4 sc__law_td_shape.nd (ex_bin op_add (vo_I0 fun i j => i + j) (fun _ _ => stl_ret _) ex_int (ex_callIo (E := E) 0 (fun q1463 => q1463.2.1) c__law_td_pick (hr.mono (by decide)) rfl g__law_td_pick k__law_td_pick b__law_td_pick (by exact passes_call (takes_of rfl rfl rfl rfl) fun _ _ _ _ h => h) (clo_list clo_int) (ea_cons (eo_pn (U := Unit) (a := ()) 0 fun _ => rfl) (ea_cons (eo_t (ex_ix (eo_t (ex_lst (r := rInt) (el_cons ex_int (el_cons (ex_bin op_sub (vo_I0 fun i j => i - j) (fun _ _ => stl_ret _) (ex_var 6 cp_int fun _ => rfl) ex_int) el_nil)))) (ex_callIo (E := E) 0 (fun q1458 => q1458.2.1) c__law_td_pick (hr.mono (by decide)) rfl g__law_td_pick k__law_td_pick b__law_td_pick (by exact passes_call (takes_of rfl rfl rfl rfl) fun _ _ _ _ h => h) (clo_list clo_int) (ea_cons (eo_pn (U := Unit) (a := ()) 0 fun _ => rfl) (ea_cons (eo_t ex_int) ea_nil)) (fun _ => rfl) (fun _ => rfl) (fun _ _ => rfl) (fun _ _ => (.cp cp_int (.tc cp_int) .nil)) (hWE hW) (wios hio fun _ => (.eq (.un (.un (.un (.eq (.un (.un (.un .nil)))))))))) cp_int fun _ _ => .t)) ea_nil)) (fun _ => rfl) (fun _ => rfl) (fun _ _ => rfl) (fun _ _ => (.cp cp_int (.tc cp_int) .nil)) (hWE hW) (wios hio fun _ => (.eq (.un (.un (.un (.eq (.un (.un (.un .nil))))))))))) (fun v_law_size1447 => (bx_nf (fun s => [.pn v0 (rList rInt) s, .is rInt u, .is (rList (rPair rInt rInt)) l1443.1, .is rInt v_law_many1424, .is rInt v_law_size1447, .is rInt l1443.2, .is rInt v_law_top1431, .is rInt x1446]) (fun _ => rfl) (bx_app 2 (ex_tup2 (ex_var 5 cp_int fun _ => rfl) (ex_bin op_add (vo_I0 fun i j => i + j) (fun _ _ => stl_ret _) (ex_var 5 cp_int fun _ => rfl) (ex_var 4 cp_int fun _ => rfl))) (fun _ => rfl) (fun _ => rfl) fun v_law_found1472 => (bx_nf (fun s => [.pn v0 (rList rInt) s, .is rInt u, .is (rList (rPair rInt rInt)) v_law_found1472, .is rInt v_law_many1424, .is rInt v_law_size1447, .is rInt l1443.2, .is rInt v_law_top1431, .is rInt x1446]) (fun _ => rfl) (bx_asg 5 sc__law_td_shape.nd (ex_bin op_add (vo_I0 fun i j => i + j) (fun _ _ => stl_ret _) (ex_bin op_add (vo_I0 fun i j => i + j) (fun _ _ => stl_ret _) (ex_var 5 cp_int fun _ => rfl) (ex_var 4 cp_int fun _ => rfl)) (ex_ix (eo_t (ex_lst (r := rInt) (el_cons ex_int (el_cons (ex_callIo (E := E) 0 (fun q1482 => q1482.2.1) c__law_td_pick (hr.mono (by decide)) rfl g__law_td_pick k__law_td_pick b__law_td_pick (by exact passes_call (takes_of rfl rfl rfl rfl) fun _ _ _ _ h => h) (clo_list clo_int) (ea_cons (eo_pn (U := Unit) (a := ()) 0 fun _ => rfl) (ea_cons (eo_t ex_int) ea_nil)) (fun _ => rfl) (fun _ => rfl) (fun _ _ => rfl) (fun _ _ => (.cp cp_int (.tc cp_int) .nil)) (hWE hW) (wios hio fun _ => (.eq (.un (.un (.un (.un (.un (.un (.un .nil)))))))))) el_nil)))) (ex_callIo (E := E) 0 (fun q1490 => q1490.2.1) c__law_td_pick (hr.mono (by decide)) rfl g__law_td_pick k__law_td_pick b__law_td_pick (by exact passes_call (takes_of rfl rfl rfl rfl) fun _ _ _ _ h => h) (clo_list clo_int) (ea_cons (eo_pn (U := Unit) (a := ()) 0 fun _ => rfl) (ea_cons (eo_t ex_int) ea_nil)) (fun _ => rfl) (fun _ => rfl) (fun _ _ => rfl) (fun _ _ => (.cp cp_int (.tc cp_int) .nil)) (hWE hW) (wios hio fun _ => (.eq (.un (.un (.un (.un (.un (.un (.un .nil)))))))))) cp_int fun _ _ => .t)) (fun v_law_spot1473 => (bx_end (v_law_found1472, v_law_spot1473) fun _ => (.eq (.eq (.eq (.eq (.un (.eq (.eq (.un .nil)))))))))) inferInstance (fun _ => rfl)))))) inferInstance (fun _ => rfl)))) (fun l1443 => (bx_nf (fun s => [.pn v0 (rList rInt) s, .is rInt u, .is (rList (rPair rInt rInt)) l1443.1, .is rInt v_law_many1424, .un, .is rInt l1443.2, .is rInt v_law_top1431, .un]) (fun _ => rfl) (bx_ret (ex_tup2 (ex_max2 ex_int (ex_bin op_add (vo_I0 fun i j => i + j) (fun _ _ => stl_ret _) (ex_var 5 cp_int fun _ => rfl) (ex_callIo (E := E) 0 (fun q1497 => q1497.2.1) c__law_td_pick (hr.mono (by decide)) rfl g__law_td_pick k__law_td_pick b__law_td_pick (by exact passes_call (takes_of rfl rfl rfl rfl) fun _ _ _ _ h => h) (clo_list clo_int) (ea_cons (eo_pn (U := Unit) (a := ()) 0 fun _ => rfl) (ea_cons (eo_t ex_int) ea_nil)) (fun _ => rfl) (fun _ => rfl) (fun _ _ => rfl) (fun _ _ => (.cp cp_int (.tc cp_int) .nil)) (hWE hW) (wios hio fun _ => (.eq (.un (.un (.un (.eq (.un (.un (.eq .nil))))))))))) rfl f_max) (ex_freeze (ex_mv 2 fun _ => rfl))) (wios hio fun _ => (.eq (.un (.eq (.un (.eq (.un (.un (.eq .nil)))))))))))) inferInstance inferInstance))) inferInstance inferInstance (fun _ => rfl) (fun _ => rfl)))) inferInstance (fun _ => rfl)))) inferInstance (fun _ => rfl)))⟩
theorem sc__law_td_wide_shape : FnScope ["_law_sack", "_law_found", "_law_size", "_law_spot", "_law_turn"] ["_law_sack"] (defScope (Hd.tp 34)) := ⟨rfl, rfl, rfl, by decide +kernel, rfl, by decide +kernel, by decide +kernel⟩
theorem ok__law_td_wide_shape (f_max : mg "max" = none) (f_range : mg "range" = none) {d__law_td_pick : FuncData} (c__law_td_pick : FnOk P w K mg base (L2.CX P w) 1 (ga K "_law_td_pick") d__law_td_pick ["_law_sack", "_law_many"] (SpI K 2 (rList rInt) (fun u : Int => [.is rInt u]) rInt m__law_td_pick)) (g__law_td_pick : mg "_law_td_pick" = some (.ref (ga K "_law_td_pick"))) (k__law_td_pick : PySem.W.keepIn K (.ref (ga K "_law_td_pick")) = true) (b__law_td_pick : Binds K d__law_td_pick ["_law_sack", "_law_many"] []) (FD : FunD K "_law_td_wide_shape" "_law_td_wide_shape" (defArgs (Hd.tp 34)) (defBody (Hd.tp 34)) (defScope (Hd.tp 34)) [] [] (ga K "_law_td_wide_shape") fd) : FnOk P w K mg base (L2.CX P w) 2 (ga K "_law_td_wide_shape") fd ["_law_sack"] (SpI K 1 (rList rInt) (fun u : Unit => []) (rPair rInt (sh (rList (rPair rInt rInt)))) m__law_td_wide_shape) :=
  fn_io (k := 1) FD sc__law_td_wide_shape o__law_td_wide_shape (fun _ => rfl) fun u v0 cdv A outer s H E hr F hio hW => ⟨_, (bx_nf (fun s => [.pn v0 (rList rInt) s, .un, .un, .un, .un]) (fun _ => rfl) (bx_par 3 1 sc__law_td_wide_shape.nd rfl (by decide) (ex_callIo (E := E) 0 (fun q1508 => q1508.2.1) c__law_td_pick (hr.mono (by decide)) rfl g__law_td_pick k__law_td_pick b__law_td_pick (by exact passes_call (takes_of rfl rfl rfl rfl) fun _ _ _ _ h => h) (clo_list clo_int) (ea_cons (eo_pn (U := Unit) (a := ()) 0 fun _ => rfl) (ea_cons (eo_t ex_int) ea_nil)) (fun _ => rfl) (fun _ => rfl) (fun _ _ => rfl) (fun _ _ => (.cp cp_int (.tc cp_int) .nil)) (hWE hW) (wios hio fun _ => (.eq (.eq (.eq (.eq (.eq .nil))))))) (ex_lst (r := (rPair rInt rInt)) el_nil) (fun v_law_spot1511 v_law_found1512 => (bx_nf (fun s => [.pn v0 (rList rInt) s, .is (rList (rPair rInt rInt)) v_law_found1512, .un, .is rInt v_law_spot1511, .un]) (fun _ => rfl) (bx_for (Gt := fun (l1513 : ((List (Int × Int)) × Int)) s (x1535 : Int) => [.pn v0 (rList rInt) s, .is (rList (rPair rInt rInt)) l1513.1, .un, .is rInt l1513.2, .is rInt x1535]) (passes_of rfl) rfl (fun (l1513 : ((List (Int × Int)) × Int)) s => [.pn v0 (rList rInt) s, .is (rList (rPair rInt rInt)) l1513.1, .un, .is rInt l1513.2, .un]) (v_law_found1512, v_law_spot1511) (ei_rng1 (ex_ix (eo_t (ex_lst (r := rInt) (el_cons (ex_callIo (E := E) 0 (fun q1524 => q1524.2.1) c__law_td_pick (hr.mono (by decide)) rfl g__law_td_pick k__law_td_pick b__law_td_pick (by exact passes_call (takes_of rfl rfl rfl rfl) fun _ _ _ _ h => h) (clo_list clo_int) (ea_cons (eo_pn (U := Unit) (a := ()) 0 fun _ => rfl) (ea_cons (eo_t ex_int) ea_nil)) (fun _ => rfl) (fun _ => rfl) (fun _ _ => rfl) (fun _ _ => (.cp cp_int (.tc cp_int) .nil)) (hWE hW) (wios hio fun _ => (.eq (.un (.eq (.un (.eq .nil))))))) (el_cons ex_int el_nil)))) (ex_callIo (E := E) 0 (fun q1530 => q1530.2.1) c__law_td_pick (hr.mono (by decide)) rfl g__law_td_pick k__law_td_pick b__law_td_pick (by exact passes_call (takes_of rfl rfl rfl rfl) fun _ _ _ _ h => h) (clo_list clo_int) (ea_cons (eo_pn (U := Unit) (a := ()) 0 fun _ => rfl) (ea_cons (eo_t ex_int) ea_nil)) (fun _ => rfl) (fun _ => rfl) (fun _ _ => rfl) (fun _ _ => (.cp cp_int (.tc cp_int) .nil)) (hWE hW) (wios hio fun _ => (.eq (.un (.eq (.un (.eq .nil))))))) cp_int fun _ _ => .t) rfl f_range) (fun _ => (.eq (.eq (.eq (.eq (.eq .nil)))))) (fun _ _ => trivial) (fun l1513 _ => (eg_name (i := 4) rfl sc__law_td_wide_shape.nd)) (fun l1513 x1535 => (bx_nf (fun s => [.pn v0 (rList rInt) s, .is (rList (rPair rInt rInt)) l1513.1, .un, .is rInt l1513.2, .is rInt x1535]) (fun _ => rfl) (bx_asg 2 sc__law_td_wide_shape.nd (ex_bin op_add (vo_I0 fun i j => i + j) (fun _ _ => stl_ret _) ex_int (ex_callIo (E := E) 0 (fun q1539 => q1539.2.1) c__law_td_pick (hr.mono (by decide)) rfl g__law_td_pick k__law_td_pick b__law_td_pick (by exact passes_call (takes_of rfl rfl rfl rfl) fun _ _ _ _ h => h) (clo_list clo_int) (ea_cons (eo_pn (U := Unit) (a := ()) 0 fun _ => rfl) (ea_cons (eo_t ex_int) ea_nil)) (fun _ => rfl) (fun _ => rfl) (fun _ _ => rfl) (fun _ _ => (.cp cp_int (.tc cp_int) .nil)) (hWE hW) (wios hio fun _ => (.eq (.un (.eq (.un (.un .nil)))))))) (fun v_law_size1536 => (bx_nf (fun s => [.pn v0 (rList rInt) s, .is (rList (rPair rInt rInt)) l1513.1, .is rInt v_law_size1536, .is rInt l1513.2, .is rInt x1535]) (fun _ => rfl) (bx_app 1 (ex_tup2 (ex_var 3 cp_int fun _ => rfl) (ex_bin op_add (vo_I0 fun i j => i + j) (fun _ _ => stl_ret _) (ex_var 3 cp_int fun _ => rfl) (ex_var 2 cp_int fun _ => rfl))) (fun _ => rfl) (fun _ => rfl) fun v_law_found1548 => (bx_nf (fun s => [.pn v0 (rList rInt) s, .is (rList (rPair rInt rInt)) v_law_found1548, .is rInt v_law_size1536, .is rInt l1513.2, .is rInt x1535]) (fun _ => rfl) (bx_asg 3 sc__law_td_wide_shape.nd (ex_bin op_add (vo_I0 fun i j => i + j) (fun _ _ => stl_ret _) (ex_bin op_add (vo_I0 fun i j => i + j) (fun _ _ => stl_ret _) (ex_var 3 cp_int fun _ => rfl) (ex_var 2 cp_int fun _ => rfl)) (ex_ix (eo_t (ex_lst (r := rInt) (el_cons ex_int (el_cons (ex_callIo (E := E) 0 (fun q1558 => q1558.2.1) c__law_td_pick (hr.mono (by decide)) rfl g__law_td_pick k__law_td_pick b__law_td_pick (by exact passes_call (takes_of rfl rfl rfl rfl) fun _ _ _ _ h => h) (clo_list clo_int) (ea_cons (eo_pn (U := Unit) (a := ()) 0 fun _ => rfl) (ea_cons (eo_t ex_int) ea_nil)) (fun _ => rfl) (fun _ => rfl) (fun _ _ => rfl) (fun _ _ => (.cp cp_int (.tc cp_int) .nil)) (hWE hW) (wios hio fun _ => (.eq (.un (.un (.un (.un .nil))))))) el_nil)))) (ex_callIo (E := E) 0 (fun q1566 => q1566.2.1) c__law_td_pick (hr.mono (by decide)) rfl g__law_td_pick k__law_td_pick b__law_td_pick (by exact passes_call (takes_of rfl rfl rfl rfl) fun _ _ _ _ h => h) (clo_list clo_int) (ea_cons (eo_pn (U := Unit) (a := ()) 0 fun _ => rfl) (ea_cons (eo_t ex_int) ea_nil)) (fun _ => rfl) (fun _ => rfl) (fun _ _ => rfl) (fun _ _ => (.cp cp_int (.tc cp_int) .nil)) (hWE hW) (wios hio fun _ => (.eq (.un (.un (.un (.un .nil))))))) cp_int fun _ _ => .t)) (fun v_law_spot1549 => (bx_end (v_law_found1548, v_law_spot1549) fun _ => (.eq (.eq (.un (.eq (.un .nil))))))) inferInstance (fun _ => rfl)))))) inferInstance (fun _ => rfl)))) (fun l1513 => (bx_nf (fun s => [.pn v0 (rList rInt) s, .is (rList (rPair rInt rInt)) l1513.1, .un, .is rInt l1513.2, .un]) (fun _ => rfl) (bx_ret (ex_tup2 (ex_max2 ex_int (ex_bin op_add (vo_I0 fun i j => i + j) (fun _ _ => stl_ret _) (ex_var 3 cp_int fun _ => rfl) (ex_callIo (E := E) 0 (fun q1573 => q1573.2.1) c__law_td_pick (hr.mono (by decide)) rfl g__law_td_pick k__law_td_pick b__law_td_pick (by exact passes_call (takes_of rfl rfl rfl rfl) fun _ _ _ _ h => h) (clo_list clo_int) (ea_cons (eo_pn (U := Unit) (a := ()) 0 fun _ => rfl) (ea_cons (eo_t ex_int) ea_nil)) (fun _ => rfl) (fun _ => rfl) (fun _ _ => rfl) (fun _ _ => (.cp cp_int (.tc cp_int) .nil)) (hWE hW) (wios hio fun _ => (.eq (.un (.eq (.un (.eq .nil)))))))) rfl f_max) (ex_freeze (ex_mv 1 fun _ => rfl))) (wios hio fun _ => (.eq (.eq (.eq (.un (.eq .nil))))))))) inferInstance inferInstance))) inferInstance inferInstance (fun _ => rfl) (fun _ => rfl)))⟩
theorem sc__law_td_any_shape : FnScope ["_law_sack"] ["_law_sack"] (defScope (Hd.tp 45)) := ⟨rfl, rfl, rfl, by decide +kernel, rfl, by decide +kernel, by decide +kernel⟩
theorem ok__law_td_any_shape  {d__law_td_pick : FuncData} (c__law_td_pick : FnOk P w K mg base (L2.CX P w) 1 (ga K "_law_td_pick") d__law_td_pick ["_law_sack", "_law_many"] (SpI K 2 (rList rInt) (fun u : Int => [.is rInt u]) rInt m__law_td_pick)) (g__law_td_pick : mg "_law_td_pick" = some (.ref (ga K "_law_td_pick"))) (k__law_td_pick : PySem.W.keepIn K (.ref (ga K "_law_td_pick")) = true) (b__law_td_pick : Binds K d__law_td_pick ["_law_sack", "_law_many"] []) {d__law_td_shape : FuncData} (c__law_td_shape : FnOk P w K mg base (L2.CX P w) 2 (ga K "_law_td_shape") d__law_td_shape ["_law_sack", "_law_most"] (SpI K 2 (rList rInt) (fun u : Int => [.is rInt u]) (rPair rInt (sh (rList (rPair rInt rInt)))) m__law_td_shape)) (g__law_td_shape : mg "_law_td_shape" = some (.ref (ga K "_law_td_shape"))) (k__law_td_shape : PySem.W.keepIn K (.ref (ga K "_law_td_shape")) = true) (b__law_td_shape : Binds K d__law_td_shape ["_law_sack", "_law_most"] []) {d__law_td_wide_shape : FuncData} (c__law_td_wide_shape : FnOk P w K mg base (L2.CX P w) 2 (ga K "_law_td_wide_shape") d__law_td_wide_shape ["_law_sack"] (SpI K 1 (rList rInt) (fun u : Unit => []) (rPair rInt (sh (rList (rPair rInt rInt)))) m__law_td_wide_shape)) (g__law_td_wide_shape : mg "_law_td_wide_shape" = some (.ref (ga K "_law_td_wide_shape"))) (k__law_td_wide_shape : PySem.W.keepIn K (.ref (ga K "_law_td_wide_shape")) = true) (b__law_td_wide_shape : Binds K d__law_td_wide_shape ["_law_sack"] []) (FD : FunD K "_law_td_any_shape" "_law_td_any_shape" (defArgs (Hd.tp 45)) (defBody (Hd.tp 45)) (defScope (Hd.tp 45)) [] [] (ga K "_law_td_any_shape") fd) : FnOk P w K mg base (L2.CX P w) 3 (ga K "_law_td_any_shape") fd ["_law_sack"] (SpI K 1 (rList rInt) (fun u : Unit => []) (rPair rInt (sh (rList (rPair rInt rInt)))) m__law_td_any_shape) :=
  fn_io (k := 2) FD sc__law_td_any_shape o__law_td_any_shape (fun _ => rfl) fun u v0 cdv A outer s H E hr F hio hW => ⟨_, (bx_nf (fun s => [.pn v0 (rList rInt) s]) (fun _ => rfl) (bx_ifr (GE_ := fun e _ => e.elim) (et_cmp op_eq vo_eqI (fun _ _ => stl_ret _) (ex_callIo (E := E) 0 (fun q1590 => q1590.2.1) c__law_td_pick (hr.mono (by decide)) rfl g__law_td_pick k__law_td_pick b__law_td_pick (by exact passes_call (takes_of rfl rfl rfl rfl) fun _ _ _ _ h => h) (clo_list clo_int) (ea_cons (eo_pn (U := Unit) (a := ()) 0 fun _ => rfl) (ea_cons (eo_t ex_int) ea_nil)) (fun _ => rfl) (fun _ => rfl) (fun _ _ => rfl) (fun _ _ => (.cp cp_int (.tc cp_int) .nil)) (hWE hW) (wios hio fun _ => (.eq .nil))) ex_int rfl) (bx_nf (fun s => [.pn v0 (rList rInt) s]) (fun _ => rfl) (bx_ret (ex_callIo (E := E) 0 (fun q1593 => ()) c__law_td_wide_shape (hr.mono (by decide)) rfl g__law_td_wide_shape k__law_td_wide_shape b__law_td_wide_shape (by exact passes_call (takes_of rfl rfl rfl rfl) fun _ _ _ _ h => h) (clo_list clo_int) (ea_cons (eo_pn (U := Unit) (a := ()) 0 fun _ => rfl) ea_nil) (fun _ => rfl) (fun _ => rfl) (fun _ _ => rfl) (fun _ _ => .nil) (hWE hW) (wios hio fun _ => (.eq .nil))) (wios hio fun _ => (.eq .nil)))) (bx_nf (fun s => [.pn v0 (rList rInt) s]) (fun _ => rfl) (bx_ret (ex_callIo (E := E) 0 (fun q1598 => q1598.2.1) c__law_td_shape (hr.mono (by decide)) rfl g__law_td_shape k__law_td_shape b__law_td_shape (by exact passes_call (takes_of rfl rfl rfl rfl) fun _ _ _ _ h => h) (clo_list clo_int) (ea_cons (eo_pn (U := Unit) (a := ()) 0 fun _ => rfl) (ea_cons (eo_t ex_int) ea_nil)) (fun _ => rfl) (fun _ => rfl) (fun _ _ => rfl) (fun _ _ => (.cp cp_int (.tc cp_int) .nil)) (hWE hW) (wios hio fun _ => (.eq .nil))) (wios hio fun _ => (.eq .nil))))))⟩
theorem sc__law_td_right : FnScope ["_law_sack", "_law_answer", "_law_bends", "_law_counts", "_law_given", "_law_made", "_law_many", "_law_named", "_law_order", "_law_owed", "_law_price", "_law_shape", "_law_spot", "_law_told", "_law_turn", "_law_wait"] ["_law_sack"] (defScope (Hd.tp 46)) := ⟨rfl, rfl, rfl, by decide +kernel, rfl, by decide +kernel, by decide +kernel⟩
theorem ok__law_td_right (f_int : mg "int" = none) (f_len : mg "len" = none) (f_list : mg "list" = none) (f_range : mg "range" = none) (f_repr : mg "repr" = none) (t_eq : L2.Meth K (tapeC K) "__eq__" (He.ma K (tapeC K) "__eq__")) (t_mk : Mk K (tapeC K) (He.ma K (tapeC K) "__init__")) (g_Tape : mg "Tape" = some (.ref (tapeC K))) {d_Tape_DeqD : FuncData} (c_Tape_DeqD : FnOk P w K mg base (L2.CX P w) 1 (He.ma K (tapeC K) "__eq__") d_Tape_DeqD ["self", "other"] (SpP K 2 (fun u : ((Int × List (Int × Int)) × (Int × List (Int × Int))) => [.is (sh rTape) u.1, .is (sh rTape) u.2]) rBool m_Tape_DeqD)) (b_Tape_DeqD : Binds K d_Tape_DeqD ["self", "other"] []) {d_Tape_DinitD : FuncData} (c_Tape_DinitD : FnOk P w K mg base (L2.CX P w) 1 (He.ma K (tapeC K) "__init__") d_Tape_DinitD ["self", "length", "files"] (SpI K 3 rSelf (fun u : (Int × (List (Int × Int))) => [.is rInt u.1, .is (sh (rList (rPair rInt rInt))) u.2]) rNon m_Tape_DinitD)) (b_Tape_DinitD : Binds K d_Tape_DinitD ["self", "length", "files"] []) {d__law_td_any_shape : FuncData} (c__law_td_any_shape : FnOk P w K mg base (L2.CX P w) 3 (ga K "_law_td_any_shape") d__law_td_any_shape ["_law_sack"] (SpI K 1 (rList rInt) (fun u : Unit => []) (rPair rInt (sh (rList (rPair rInt rInt)))) m__law_td_any_shape)) (g__law_td_any_shape : mg "_law_td_any_shape" = some (.ref (ga K "_law_td_any_shape"))) (k__law_td_any_shape : PySem.W.keepIn K (.ref (ga K "_law_td_any_shape")) = true) (b__law_td_any_shape : Binds K d__law_td_any_shape ["_law_sack"] []) {d__law_td_bends : FuncData} (c__law_td_bends : FnOk P w K mg base (L2.CX P w) 2 (ga K "_law_td_bends") d__law_td_bends ["_law_sack", "_law_counts"] (SpI K 2 (rList rInt) (fun u : (List Int) => [.is (sh (rList rInt)) u]) (rList (rPair rInt rInt)) m__law_td_bends)) (g__law_td_bends : mg "_law_td_bends" = some (.ref (ga K "_law_td_bends"))) (k__law_td_bends : PySem.W.keepIn K (.ref (ga K "_law_td_bends")) = true) (b__law_td_bends : Binds K d__law_td_bends ["_law_sack", "_law_counts"] []) {d__law_td_comes : FuncData} (c__law_td_comes : FnOk P w K mg base (L2.CX P w) 2 (ga K "_law_td_comes") d__law_td_comes ["_law_form", "_law_price"] (SpP K 2 (fun u : ((Int × Int) × (Int × Int)) => [.is (rPair rInt rInt) u.1, .is (rPair rInt rInt) u.2]) (rPair rInt rInt) m__law_td_comes)) (g__law_td_comes : mg "_law_td_comes" = some (.ref (ga K "_law_td_comes"))) (k__law_td_comes : PySem.W.keepIn K (.ref (ga K "_law_td_comes")) = true) (b__law_td_comes : Binds K d__law_td_comes ["_law_form", "_law_price"] []) {d__law_td_counts : FuncData} (c__law_td_counts : FnOk P w K mg base (L2.CX P w) 2 (ga K "_law_td_counts") d__law_td_counts ["_law_sack", "_law_many", "_law_top", "_law_most"] (SpI K 4 (rList rInt) (fun u : (Int × Int × Int) => [.is rInt u.1, .is rInt u.2.1, .is rInt u.2.2]) (rList rInt) m__law_td_counts)) (g__law_td_counts : mg "_law_td_counts" = some (.ref (ga K "_law_td_counts"))) (k__law_td_counts : PySem.W.keepIn K (.ref (ga K "_law_td_counts")) = true) (b__law_td_counts : Binds K d__law_td_counts ["_law_sack", "_law_many", "_law_top", "_law_most"] []) {d__law_td_led : FuncData} (c__law_td_led : FnOk P w K mg base (L2.CX P w) 2 (ga K "_law_td_led") d__law_td_led ["_law_shape", "_law_counts", "_law_bends"] (SpP K 3 (fun u : ((Int × (List (Int × Int))) × (List Int) × (List (Int × Int))) => [.is (rPair rInt (sh (rList (rPair rInt rInt)))) u.1, .is (sh (rList rInt)) u.2.1, .is (sh (rList (rPair rInt rInt))) u.2.2]) (rList (rOpt (rPair rInt rInt))) m__law_td_led)) (g__law_td_led : mg "_law_td_led" = some (.ref (ga K "_law_td_led"))) (k__law_td_led : PySem.W.keepIn K (.ref (ga K "_law_td_led")) = true) (b__law_td_led : Binds K d__law_td_led ["_law_shape", "_law_counts", "_law_bends"] []) {d__law_td_pick : FuncData} (c__law_td_pick : FnOk P w K mg base (L2.CX P w) 1 (ga K "_law_td_pick") d__law_td_pick ["_law_sack", "_law_many"] (SpI K 2 (rList rInt) (fun u : Int => [.is rInt u]) rInt m__law_td_pick)) (g__law_td_pick : mg "_law_td_pick" = some (.ref (ga K "_law_td_pick"))) (k__law_td_pick : PySem.W.keepIn K (.ref (ga K "_law_td_pick")) = true) (b__law_td_pick : Binds K d__law_td_pick ["_law_sack", "_law_many"] []) {d__law_td_price : FuncData} (c__law_td_price : FnOk P w K mg base (L2.CX P w) 2 (ga K "_law_td_price") d__law_td_price ["_law_sack"] (SpI K 1 (rList rInt) (fun u : Unit => []) (rPair rInt rInt) m__law_td_price)) (g__law_td_price : mg "_law_td_price" = some (.ref (ga K "_law_td_price"))) (k__law_td_price : PySem.W.keepIn K (.ref (ga K "_law_td_price")) = true) (b__law_td_price : Binds K d__law_td_price ["_law_sack"] []) {d__law_td_road : FuncData} (c__law_td_road : FnOk P w K mg base (L2.CX P w) 6 (ga K "_law_td_road") d__law_td_road ["_law_sack", "_law_shape"] (SpI K 2 (rList rInt) (fun u : (Int × (List (Int × Int))) => [.is (rPair rInt (sh (rList (rPair rInt rInt)))) u]) (sh rTape) m__law_td_road)) (g__law_td_road : mg "_law_td_road" = some (.ref (ga K "_law_td_road"))) (k__law_td_road : PySem.W.keepIn K (.ref (ga K "_law_td_road")) = true) (b__law_td_road : Binds K d__law_td_road ["_law_sack", "_law_shape"] []) {d__law_td_sum : FuncData} (c__law_td_sum : FnOk P w K mg base (L2.CX P w) 1 (ga K "_law_td_sum") d__law_td_sum ["_law_counts", "_law_told"] (SpP K 2 (fun u : ((List Int) × (List (Option (Int × Int)))) => [.is (sh (rList rInt)) u.1, .is (sh (rList (rOpt (rPair rInt rInt)))) u.2]) (rPair rInt rInt) m__law_td_sum)) (g__law_td_sum : mg "_law_td_sum" = some (.ref (ga K "_law_td_sum"))) (k__law_td_sum : PySem.W.keepIn K (.ref (ga K "_law_td_sum")) = true) (b__law_td_sum : Binds K d__law_td_sum ["_law_counts", "_law_told"] []) {d__law_td_under : FuncData} (c__law_td_under : FnOk P w K mg base (L2.CX P w) 1 (ga K "_law_td_under") d__law_td_under ["_law_one", "_law_other"] (SpP K 2 (fun u : ((Int × Int) × (Int × Int)) => [.is (rPair rInt rInt) u.1, .is (rPair rInt rInt) u.2]) rBool m__law_td_under)) (g__law_td_under : mg "_law_td_under" = some (.ref (ga K "_law_td_under"))) (k__law_td_under : PySem.W.keepIn K (.ref (ga K "_law_td_under")) = true) (b__law_td_under : Binds K d__law_td_under ["_law_one", "_law_other"] []) {d_longest : FuncData} (c_longest : FnOk P w K mg base (L2.CX P w) 6 (ga K "longest") d_longest ["tape", "asks", "row", "cost"] (SpP K 4 (fun u : ((Int × List (Int × Int)) × (List Int) × (List (Int × Int)) × (Int × Int)) => [.is (sh rTape) u.1, .is (sh (rList rInt)) u.2.1, .is (sh (rList (rPair rInt rInt))) u.2.2.1, .is (rPair rInt rInt) u.2.2.2]) (rPair rInt rInt) m_longest)) (g_longest : mg "longest" = some (.ref (ga K "longest"))) (k_longest : PySem.W.keepIn K (.ref (ga K "longest")) = true) (b_longest : Binds K d_longest ["tape", "asks", "row", "cost"] []) {d_total : FuncData} (c_total : FnOk P w K mg base (L2.CX P w) 6 (ga K "total") d_total ["tape", "asks", "row"] (SpP K 3 (fun u : ((Int × List (Int × Int)) × (List Int) × (List (Int × Int))) => [.is (sh rTape) u.1, .is (sh (rList rInt)) u.2.1, .is (sh (rList (rPair rInt rInt))) u.2.2]) (rPair rInt rInt) m_total)) (g_total : mg "total" = some (.ref (ga K "total"))) (k_total : PySem.W.keepIn K (.ref (ga K "total")) = true) (b_total : Binds K d_total ["tape", "asks", "row"] []) {d_waits : FuncData} (c_waits : FnOk P w K mg base (L2.CX P w) 5 (ga K "waits") d_waits ["tape", "asks", "row"] (SpP K 3 (fun u : ((Int × List (Int × Int)) × (List Int) × (List (Int × Int))) => [.is (sh rTape) u.1, .is (sh (rList rInt)) u.2.1, .is (sh (rList (rPair rInt rInt))) u.2.2]) (rList (rOpt (rPair rInt rInt))) m_waits)) (g_waits : mg "waits" = some (.ref (ga K "waits"))) (k_waits : PySem.W.keepIn K (.ref (ga K "waits")) = true) (b_waits : Binds K d_waits ["tape", "asks", "row"] []) (kb_longest_1_row_cost_asks : KBn K d_longest ["tape", "asks", "row", "cost"] 1 ["row", "cost", "asks"] (fun us ws => permL [0, 3, 1, 2] (us ++ ws)) (fun vs zs => permL [0, 3, 1, 2] (vs ++ zs))) (kb_total_0_asks_row_tape : KBn K d_total ["tape", "asks", "row"] 0 ["asks", "row", "tape"] (fun us ws => permL [2, 0, 1] (us ++ ws)) (fun vs zs => permL [2, 0, 1] (vs ++ zs))) (FD : FunD K "_law_td_right" "_law_td_right" (defArgs (Hd.tp 46)) (defBody (Hd.tp 46)) (defScope (Hd.tp 46)) [] [] (ga K "_law_td_right") fd) : FnG P w K mg base 7 (ga K "_law_td_right") fd ["_law_sack"] (SpI K 1 (rList rInt) (fun u : Unit => []) rBool m__law_td_right) :=
  fnG_io (k := 6) FD sc__law_td_right o__law_td_right (fun _ => rfl) fun u v0 cdv A outer s H E hr hgd F hio hW => ⟨_, (bx_nf (fun s => [.pn v0 (rList rInt) s, .un, .un, .un, .un, .un, .un, .un, .un, .un, .un, .un, .un, .un, .un, .un]) (fun _ => rfl) (bx_asg 11 sc__law_td_right.nd (ex_callIo (E := E) 0 (fun q1602 => ()) c__law_td_any_shape (hr.mono (by decide)) rfl g__law_td_any_shape k__law_td_any_shape b__law_td_any_shape (by exact passes_call (takes_of rfl rfl rfl rfl) fun _ _ _ _ h => h) (clo_list clo_int) (ea_cons (eo_pn (U := Unit) (a := ()) 0 fun _ => rfl) ea_nil) (fun _ => rfl) (fun _ => rfl) (fun _ _ => rfl) (fun _ _ => .nil) (hWE hW) (wios hio fun _ => (.eq (.eq (.eq (.eq (.eq (.eq (.eq (.eq (.eq (.eq (.eq (.eq (.eq (.eq (.eq (.eq .nil)))))))))))))))))) (fun v_law_shape1601 => (bx_nf (fun s => [.pn v0 (rList rInt) s, .un, .un, .un, .un, .un, .un, .un, .un, .un, .un, .is (rPair rInt (sh (rList (rPair rInt rInt)))) v_law_shape1601, .un, .un, .un, .un]) (fun _ => rfl) (bx_par 5 6 sc__law_td_right.nd rfl (by decide) (ex_callIo (E := E) 0 (fun q1606 => q1606.2.1) c__law_td_road (hr.mono (by decide)) rfl g__law_td_road k__law_td_road b__law_td_road (by exact passes_call (takes_of rfl rfl rfl rfl) fun _ _ _ _ h => h) (clo_list clo_int) (ea_cons (eo_pn (U := Unit) (a := ()) 0 fun _ => rfl) (ea_cons (eo_t (ex_var 11 (cp_pair cp_int cp_sh) fun _ => rfl)) ea_nil)) (fun _ => rfl) (fun _ => rfl) (fun _ _ => rfl) (fun _ _ => (.cp (cp_pair cp_int cp_sh) (.tc (cp_pair cp_int cp_sh)) .nil)) (hWE hW) (wios hio fun _ => (.eq (.eq (.eq (.eq (.eq (.eq (.eq (.eq (.eq (.eq (.eq (.un (.eq (.eq (.eq (.eq .nil)))))))))))))))))) (ex_len (eo_t (ex_plc (eo_t (ex_var 11 (cp_pair cp_int cp_sh) fun _ => rfl)) plc2_1 cp_sh fun _ _ => .t)) (fun _ _ => .ts) rfl f_len) (fun v_law_made1610 v_law_many1611 => (bx_nf (fun s => [.pn v0 (rList rInt) s, .un, .un, .un, .un, .is (sh rTape) v_law_made1610, .is rInt v_law_many1611, .un, .un, .un, .un, .is (rPair rInt (sh (rList (rPair rInt rInt)))) v_law_shape1601, .un, .un, .un, .un]) (fun _ => rfl) (bx_asg 3 sc__law_td_right.nd (ex_freeze (ex_callIo (E := E) 0 (fun q1636 => (q1636.2.1, q1636.2.2.1, q1636.2.2.2.1)) c__law_td_counts (hr.mono (by decide)) rfl g__law_td_counts k__law_td_counts b__law_td_counts (by exact passes_call (takes_of rfl rfl rfl rfl) fun _ _ _ _ h => h) (clo_list clo_int) (ea_cons (eo_pn (U := Unit) (a := ()) 0 fun _ => rfl) (ea_cons (eo_t (ex_var 6 cp_int fun _ => rfl)) (ea_cons (eo_t ex_int) (ea_cons (eo_t (ex_ix (eo_t (ex_lst (r := rInt) (el_cons ex_int (el_cons ex_int (el_cons ex_int (el_cons ex_int (el_cons ex_int el_nil))))))) (ex_callIo (E := E) 0 (fun q1627 => q1627.2.1) c__law_td_pick (hr.mono (by decide)) rfl g__law_td_pick k__law_td_pick b__law_td_pick (by exact passes_call (takes_of rfl rfl rfl rfl) fun _ _ _ _ h => h) (clo_list clo_int) (ea_cons (eo_pn (U := Unit) (a := ()) 0 fun _ => rfl) (ea_cons (eo_t ex_int) ea_nil)) (fun _ => rfl) (fun _ => rfl) (fun _ _ => rfl) (fun _ _ => (.cp cp_int (.tc cp_int) .nil)) (hWE hW) (wios hio fun _ => (.eq (.eq (.eq (.eq (.eq (.un (.un (.eq (.eq (.eq (.eq (.un (.eq (.eq (.eq (.eq .nil)))))))))))))))))) cp_int fun _ _ => .t)) ea_nil)))) (fun _ => rfl) (fun _ => rfl) (fun _ _ => rfl) (fun _ _ => (.cp cp_int (.tc cp_int) (.cp cp_int (.tc cp_int) (.cp cp_int (.tc cp_int) .nil)))) (hWE hW) (wios hio fun _ => (.eq (.eq (.eq (.eq (.eq (.un (.un (.eq (.eq (.eq (.eq (.un (.eq (.eq (.eq (.eq .nil))))))))))))))))))) (fun v_law_counts1612 => (bx_nf (fun s => [.pn v0 (rList rInt) s, .un, .un, .is (sh (rList rInt)) v_law_counts1612, .un, .is (sh rTape) v_law_made1610, .is rInt v_law_many1611, .un, .un, .un, .un, .is (rPair rInt (sh (rList (rPair rInt rInt)))) v_law_shape1601, .un, .un, .un, .un]) (fun _ => rfl) (bx_asg 2 sc__law_td_right.nd (ex_freeze (ex_callIo (E := E) 0 (fun q1641 => q1641.2.1) c__law_td_bends (hr.mono (by decide)) rfl g__law_td_bends k__law_td_bends b__law_td_bends (by exact passes_call (takes_of rfl rfl rfl rfl) fun _ _ _ _ h => h) (clo_list clo_int) (ea_cons (eo_pn (U := Unit) (a := ()) 0 fun _ => rfl) (ea_cons (eo_t (ex_var 3 cp_sh fun _ => rfl)) ea_nil)) (fun _ => rfl) (fun _ => rfl) (fun _ _ => rfl) (fun _ _ => (.cp cp_sh (.tc cp_sh) .nil)) (hWE hW) (wios hio fun _ => (.eq (.eq (.eq (.un (.eq (.un (.un (.eq (.eq (.eq (.eq (.un (.eq (.eq (.eq (.eq .nil))))))))))))))))))) (fun v_law_bends1638 => (bx_nf (fun s => [.pn v0 (rList rInt) s, .un, .is (sh (rList (rPair rInt rInt))) v_law_bends1638, .is (sh (rList rInt)) v_law_counts1612, .un, .is (sh rTape) v_law_made1610, .is rInt v_law_many1611, .un, .un, .un, .un, .is (rPair rInt (sh (rList (rPair rInt rInt)))) v_law_shape1601, .un, .un, .un, .un]) (fun _ => rfl) (bx_par 4 8 sc__law_td_right.nd rfl (by decide) (ex_tup2 (ex_list (eo_t (ex_var 3 cp_sh fun _ => rfl)) cp_int (fun _ _ => .ts) rfl f_list) (ex_list (eo_t (ex_var 2 cp_sh fun _ => rfl)) (cp_pair cp_int cp_int) (fun _ _ => .ts) rfl f_list)) (ex_callIo (E := E) 0 (fun q1649 => q1649.2.1) c__law_td_pick (hr.mono (by decide)) rfl g__law_td_pick k__law_td_pick b__law_td_pick (by exact passes_call (takes_of rfl rfl rfl rfl) fun _ _ _ _ h => h) (clo_list clo_int) (ea_cons (eo_pn (U := Unit) (a := ()) 0 fun _ => rfl) (ea_cons (eo_t ex_int) ea_nil)) (fun _ => rfl) (fun _ => rfl) (fun _ _ => rfl) (fun _ _ => (.cp cp_int (.tc cp_int) .nil)) (hWE hW) (wios hio fun _ => (.eq (.eq (.un (.un (.eq (.un (.un (.eq (.eq (.eq (.eq (.un (.eq (.eq (.eq (.eq .nil)))))))))))))))))) (fun v_law_given1651 v_law_order1652 => (bx_box 4 (fun _ => rfl) fun bx1653 bx1654 => (bx_nf (fun s => [.pn v0 (rList rInt) s, .un, .is (sh (rList (rPair rInt rInt))) v_law_bends1638, .is (sh (rList rInt)) v_law_counts1612, .is (rBox bx1653 bx1654 (rList rInt) (rList (rPair rInt rInt))) (v_law_given1651.1, v_law_given1651.2), .is (sh rTape) v_law_made1610, .is rInt v_law_many1611, .un, .is rInt v_law_order1652, .un, .un, .is (rPair rInt (sh (rList (rPair rInt rInt)))) v_law_shape1601, .un, .un, .un, .un]) (fun _ => rfl) (bx_for (Gt := fun (l1655 : ((List (Int × Int)) × ((List Int) × (List (Int × Int))))) s (x1658 : Int) => [.pn v0 (rList rInt) s, .un, .is (sh (rList (rPair rInt rInt))) l1655.1, .is (sh (rList rInt)) v_law_counts1612, .is (rBox bx1653 bx1654 (rList rInt) (rList (rPair rInt rInt))) (l1655.2.1, l1655.2.2), .is (sh rTape) v_law_made1610, .is rInt v_law_many1611, .un, .is rInt v_law_order1652, .un, .un, .is (rPair rInt (sh (rList (rPair rInt rInt)))) v_law_shape1601, .un, .un, .is rInt x1658, .un]) (passes_of rfl) rfl (fun (l1655 : ((List (Int × Int)) × ((List Int) × (List (Int × Int))))) s => [.pn v0 (rList rInt) s, .un, .is (sh (rList (rPair rInt rInt))) l1655.1, .is (sh (rList rInt)) v_law_counts1612, .is (rBox bx1653 bx1654 (rList rInt) (rList (rPair rInt rInt))) (l1655.2.1, l1655.2.2), .is (sh rTape) v_law_made1610, .is rInt v_law_many1611, .un, .is rInt v_law_order1652, .un, .un, .is (rPair rInt (sh (rList (rPair rInt rInt)))) v_law_shape1601, .un, .un, .un, .un]) (v_law_bends1638, (v_law_given1651.1, v_law_given1651.2)) (ei_rng1 ex_int rfl f_range) (fun _ => (.eq (.eq (.eq (.eq (.eq (.eq (.eq (.eq (.eq (.eq (.eq (.eq (.eq (.eq (.eq (.eq .nil))))))))))))))))) (fun _ _ => trivial) (fun l1655 _ => (eg_name (i := 14) rfl sc__law_td_right.nd)) (fun l1655 x1658 => (bx_nf (fun s => [.pn v0 (rList rInt) s, .un, .is (sh (rList (rPair rInt rInt))) l1655.1, .is (sh (rList rInt)) v_law_counts1612, .is (rBox bx1653 bx1654 (rList rInt) (rList (rPair rInt rInt))) (l1655.2.1, l1655.2.2), .is (sh rTape) v_law_made1610, .is rInt v_law_many1611, .un, .is rInt v_law_order1652, .un, .un, .is (rPair rInt (sh (rList (rPair rInt rInt)))) v_law_shape1601, .un, .un, .is rInt x1658, .un]) (fun _ => rfl) (bx_asg 10 sc__law_td_right.nd (ex_callIo (E := E) 0 (fun q1660 => ()) c__law_td_price (hr.mono (by decide)) rfl g__law_td_price k__law_td_price b__law_td_price (by exact passes_call (takes_of rfl rfl rfl rfl) fun _ _ _ _ h => h) (clo_list clo_int) (ea_cons (eo_pn (U := Unit) (a := ()) 0 fun _ => rfl) ea_nil) (fun _ => rfl) (fun _ => rfl) (fun _ _ => rfl) (fun _ _ => .nil) (hWE hW) (wios hio fun _ => (.eq (.eq (.un (.un (.un (.un (.un (.eq (.un (.eq (.eq (.un (.eq (.eq (.un (.eq .nil)))))))))))))))))) (fun v_law_price1659 => (bx_nf (fun s => [.pn v0 (rList rInt) s, .un, .is (sh (rList (rPair rInt rInt))) l1655.1, .is (sh (rList rInt)) v_law_counts1612, .is (rBox bx1653 bx1654 (rList rInt) (rList (rPair rInt rInt))) (l1655.2.1, l1655.2.2), .is (sh rTape) v_law_made1610, .is rInt v_law_many1611, .un, .is rInt v_law_order1652, .un, .is (rPair rInt rInt) v_law_price1659, .is (rPair rInt (sh (rList (rPair rInt rInt)))) v_law_shape1601, .un, .un, .is rInt x1658, .un]) (fun _ => rfl) (bx_if (GJ := fun (n1691 : ((List (Int × Int)) × ((List Int) × (List (Int × Int))))) s => [.pn v0 (rList rInt) s, .un, .is (sh (rList (rPair rInt rInt))) n1691.1, .is (sh (rList rInt)) v_law_counts1612, .is (rBox bx1653 bx1654 (rList rInt) (rList (rPair rInt rInt))) (n1691.2.1, n1691.2.2), .is (sh rTape) v_law_made1610, .is rInt v_law_many1611, .un, .is rInt v_law_order1652, .un, .is (rPair rInt rInt) v_law_price1659, .is (rPair rInt (sh (rList (rPair rInt rInt)))) v_law_shape1601, .un, .un, .is rInt x1658, .un]) (et_w (ew_and (et_cmp op_gt (vo_B0 fun i j => decide (j < i)) (fun _ _ => stl_ret _) (ex_var 14 cp_int fun _ => rfl) ex_int rfl) (ew_and1 (et_neD hr.units (eo_t (ex_var 2 cp_sh fun _ => rfl)) (eo_t (ex_lst (r := (rPair rInt rInt)) el_nil)) (fun _ _ => .mk (en_L (en_P enc_int enc_int)) .ts) (fun _ _ => .mk (en_L (en_P enc_int enc_int)) .t))))) (bx_nf (fun s => [.pn v0 (rList rInt) s, .un, .is (sh (rList (rPair rInt rInt))) l1655.1, .is (sh (rList rInt)) v_law_counts1612, .is (rBox bx1653 bx1654 (rList rInt) (rList (rPair rInt rInt))) (l1655.2.1, l1655.2.2), .is (sh rTape) v_law_made1610, .is rInt v_law_many1611, .un, .is rInt v_law_order1652, .un, .is (rPair rInt rInt) v_law_price1659, .is (rPair rInt (sh (rList (rPair rInt rInt)))) v_law_shape1601, .un, .un, .is rInt x1658, .un]) (fun _ => rfl) (bx_asg 12 sc__law_td_right.nd (ex_callIo (E := E) 0 (fun q1696 => q1696.2.1) c__law_td_pick (hr.mono (by decide)) rfl g__law_td_pick k__law_td_pick b__law_td_pick (by exact passes_call (takes_of rfl rfl rfl rfl) fun _ _ _ _ h => h) (clo_list clo_int) (ea_cons (eo_pn (U := Unit) (a := ()) 0 fun _ => rfl) (ea_cons (eo_t (ex_len (eo_t (ex_var 2 cp_sh fun _ => rfl)) (fun _ _ => .ts) rfl f_len)) ea_nil)) (fun _ => rfl) (fun _ => rfl) (fun _ _ => rfl) (fun _ _ => (.cp cp_int (.tc cp_int) .nil)) (hWE hW) (wios hio fun _ => (.eq (.eq (.un (.un (.un (.un (.un (.eq (.un (.eq (.un (.un (.eq (.eq (.un (.eq .nil)))))))))))))))))) (fun v_law_spot1692 => (bx_nf (fun s => [.pn v0 (rList rInt) s, .un, .is (sh (rList (rPair rInt rInt))) l1655.1, .is (sh (rList rInt)) v_law_counts1612, .is (rBox bx1653 bx1654 (rList rInt) (rList (rPair rInt rInt))) (l1655.2.1, l1655.2.2), .is (sh rTape) v_law_made1610, .is rInt v_law_many1611, .un, .is rInt v_law_order1652, .un, .is (rPair rInt rInt) v_law_price1659, .is (rPair rInt (sh (rList (rPair rInt rInt)))) v_law_shape1601, .is rInt v_law_spot1692, .un, .is rInt x1658, .un]) (fun _ => rfl) (bx_popB 4 (cp_pair cp_int cp_int) (ex_var 12 cp_int fun _ => rfl) (fun _ => rfl) (fun _ => rfl) fun v_law_given1700 => (bx_nf (fun s => [.pn v0 (rList rInt) s, .un, .is (sh (rList (rPair rInt rInt))) l1655.1, .is (sh (rList rInt)) v_law_counts1612, .is (rBox bx1653 bx1654 (rList rInt) (rList (rPair rInt rInt))) (l1655.2.1, v_law_given1700), .is (sh rTape) v_law_made1610, .is rInt v_law_many1611, .un, .is rInt v_law_order1652, .un, .is (rPair rInt rInt) v_law_price1659, .is (rPair rInt (sh (rList (rPair rInt rInt)))) v_law_shape1601, .is rInt v_law_spot1692, .un, .is rInt x1658, .un]) (fun _ => rfl) (bx_asg 2 sc__law_td_right.nd (ex_freeze (ex_cat (eo_t (ex_slice (eo_t (ex_var 2 cp_sh fun _ => rfl)) ep_none (ep_some (ex_var 12 cp_int fun _ => rfl)) (cp_pair cp_int cp_int) fun _ _ => .ts)) (eo_t (ex_slice (eo_t (ex_var 2 cp_sh fun _ => rfl)) (ep_some (ex_bin op_add (vo_I0 fun i j => i + j) (fun _ _ => stl_ret _) (ex_var 12 cp_int fun _ => rfl) ex_int)) ep_none (cp_pair cp_int cp_int) fun _ _ => .ts)) (cp_pair cp_int cp_int) (fun _ _ => .t) (fun _ _ => .t))) (fun v_law_bends1701 => (bx_end (v_law_bends1701, (l1655.2.1, v_law_given1700)) fun _ => (.eq (.eq (.eq (.eq (.eq (.eq (.eq (.eq (.eq (.eq (.eq (.eq (.un (.eq (.eq (.eq .nil)))))))))))))))))) inferInstance (fun _ => rfl)))))) inferInstance (fun _ => rfl))) (bx_end (l1655.1, (l1655.2.1, l1655.2.2)) fun _ => (.eq (.eq (.eq (.eq (.eq (.eq (.eq (.eq (.eq (.eq (.eq (.eq (.eq (.eq (.eq (.eq .nil))))))))))))))))) (fun n1691 => (bx_nf (fun s => [.pn v0 (rList rInt) s, .un, .is (sh (rList (rPair rInt rInt))) n1691.1, .is (sh (rList rInt)) v_law_counts1612, .is (rBox bx1653 bx1654 (rList rInt) (rList (rPair rInt rInt))) (n1691.2.1, n1691.2.2), .is (sh rTape) v_law_made1610, .is rInt v_law_many1611, .un, .is rInt v_law_order1652, .un, .is (rPair rInt rInt) v_law_price1659, .is (rPair rInt (sh (rList (rPair rInt rInt)))) v_law_shape1601, .un, .un, .is rInt x1658, .un]) (fun _ => rfl) (bx_asg 13 sc__law_td_right.nd (ex_freeze (ex_if (et_cmp op_eq vo_eqI (fun _ _ => stl_ret _) (ex_callIo (E := E) 0 (fun q1723 => q1723.2.1) c__law_td_pick (hr.mono (by decide)) rfl g__law_td_pick k__law_td_pick b__law_td_pick (by exact passes_call (takes_of rfl rfl rfl rfl) fun _ _ _ _ h => h) (clo_list clo_int) (ea_cons (eo_pn (U := Unit) (a := ()) 0 fun _ => rfl) (ea_cons (eo_t ex_int) ea_nil)) (fun _ => rfl) (fun _ => rfl) (fun _ _ => rfl) (fun _ _ => (.cp cp_int (.tc cp_int) .nil)) (hWE hW) (wios hio fun _ => (.eq (.eq (.un (.un (.un (.un (.un (.eq (.un (.eq (.un (.un (.eq (.eq (.un (.eq .nil)))))))))))))))))) ex_int rfl) (ex_call (E := E) (fun q1731 => (q1731.1, n1691.2.1, n1691.2.2)) c_waits (hr.mono (by decide)) rfl g_waits k_waits b_waits (by exact passes_call (takes_of rfl rfl rfl rfl) fun _ _ _ _ h => h) (ea_cons (eo_t (ex_var 5 cp_sh fun _ => rfl)) (ea_cons (eo_b1 (A := Unit) (b := ()) 4 fun _ => rfl) (ea_cons (eo_b2 (A := Unit) (b := ()) 4 fun _ => rfl) ea_nil))) (fun _ => rfl) (.inl ⟨(clo_list (clo_opt (clo_pair clo_int clo_int))), fun _ _ => (.cp cp_sh .t (.sh (.b1 (i := 4) rfl) (.sh (.b2 (i := 4) rfl) .nil)))⟩) (hWE hW) (wios hio fun _ => (.eq (.eq (.un (.un (.un (.un (.un (.eq (.un (.eq (.un (.un (.eq (.eq (.un (.eq .nil)))))))))))))))))) (ex_call (E := E) (fun q1738 => (q1738.1, q1738.2.1, q1738.2.2.1)) c__law_td_led (hr.mono (by decide)) rfl g__law_td_led k__law_td_led b__law_td_led (by exact passes_call (takes_of rfl rfl rfl rfl) fun _ _ _ _ h => h) (ea_cons (eo_t (ex_var 11 (cp_pair cp_int cp_sh) fun _ => rfl)) (ea_cons (eo_t (ex_var 3 cp_sh fun _ => rfl)) (ea_cons (eo_t (ex_var 2 cp_sh fun _ => rfl)) ea_nil))) (fun _ => rfl) (.inl ⟨(clo_list (clo_opt (clo_pair clo_int clo_int))), fun _ _ => (.cp (cp_pair cp_int cp_sh) .t (.cp cp_sh .t (.cp cp_sh .t .nil)))⟩) (hWE hW) (wios hio fun _ => (.eq (.eq (.un (.un (.un (.un (.un (.eq (.un (.eq (.un (.un (.eq (.eq (.un (.eq .nil)))))))))))))))))))) (fun v_law_told1714 => (bx_nf (fun s => [.pn v0 (rList rInt) s, .un, .is (sh (rList (rPair rInt rInt))) n1691.1, .is (sh (rList rInt)) v_law_counts1612, .is (rBox bx1653 bx1654 (rList rInt) (rList (rPair rInt rInt))) (n1691.2.1, n1691.2.2), .is (sh rTape) v_law_made1610, .is rInt v_law_many1611, .un, .is rInt v_law_order1652, .un, .is (rPair rInt rInt) v_law_price1659, .is (rPair rInt (sh (rList (rPair rInt rInt)))) v_law_shape1601, .un, .is (sh (rList (rOpt (rPair rInt rInt)))) v_law_told1714, .is rInt x1658, .un]) (fun _ => rfl) (bx_if (GJ := fun (n1900 : ((Int × Int) × Bool × (Int × Int))) s => [.pn v0 (rList rInt) s, .is (rPair rInt rInt) n1900.1, .is (sh (rList (rPair rInt rInt))) n1691.1, .is (sh (rList rInt)) v_law_counts1612, .is (rBox bx1653 bx1654 (rList rInt) (rList (rPair rInt rInt))) (n1691.2.1, n1691.2.2), .is (sh rTape) v_law_made1610, .is rInt v_law_many1611, .is rBool n1900.2.1, .is rInt v_law_order1652, .is (rPair rInt rInt) n1900.2.2, .is (rPair rInt rInt) v_law_price1659, .is (rPair rInt (sh (rList (rPair rInt rInt)))) v_law_shape1601, .un, .is (sh (rList (rOpt (rPair rInt rInt)))) v_law_told1714, .is rInt x1658, .un]) (et_cmp op_eq vo_eqI (fun _ _ => stl_ret _) (ex_bin op_modN vo_mod stl_mod (ex_intI (ex_bin op_add (vo_I0 fun i j => i + j) (fun _ _ => stl_ret _) (ex_var 14 cp_int fun _ => rfl) (ex_var 8 cp_int fun _ => rfl)) rfl f_int) ex_int) ex_int rfl) (bx_nf (fun s => [.pn v0 (rList rInt) s, .un, .is (sh (rList (rPair rInt rInt))) n1691.1, .is (sh (rList rInt)) v_law_counts1612, .is (rBox bx1653 bx1654 (rList rInt) (rList (rPair rInt rInt))) (n1691.2.1, n1691.2.2), .is (sh rTape) v_law_made1610, .is rInt v_law_many1611, .un, .is rInt v_law_order1652, .un, .is (rPair rInt rInt) v_law_price1659, .is (rPair rInt (sh (rList (rPair rInt rInt)))) v_law_shape1601, .un, .is (sh (rList (rOpt (rPair rInt rInt)))) v_law_told1714, .is rInt x1658, .un]) (fun _ => rfl) (bx_asg 7 sc__law_td_right.nd (ex_cmp op_eq vo_eqI (fun _ _ => stl_ret _) (ex_callIo (E := E) 0 (fun q1910 => q1910.2.1) c__law_td_pick (hr.mono (by decide)) rfl g__law_td_pick k__law_td_pick b__law_td_pick (by exact passes_call (takes_of rfl rfl rfl rfl) fun _ _ _ _ h => h) (clo_list clo_int) (ea_cons (eo_pn (U := Unit) (a := ()) 0 fun _ => rfl) (ea_cons (eo_t ex_int) ea_nil)) (fun _ => rfl) (fun _ => rfl) (fun _ _ => rfl) (fun _ _ => (.cp cp_int (.tc cp_int) .nil)) (hWE hW) (wios hio fun _ => (.eq (.eq (.un (.un (.un (.un (.un (.eq (.un (.eq (.un (.un (.eq (.un (.un (.eq .nil)))))))))))))))))) ex_int rfl) (fun v_law_named1901 => (bx_nf (fun s => [.pn v0 (rList rInt) s, .un, .is (sh (rList (rPair rInt rInt))) n1691.1, .is (sh (rList rInt)) v_law_counts1612, .is (rBox bx1653 bx1654 (rList rInt) (rList (rPair rInt rInt))) (n1691.2.1, n1691.2.2), .is (sh rTape) v_law_made1610, .is rInt v_law_many1611, .is rBool v_law_named1901, .is rInt v_law_order1652, .un, .is (rPair rInt rInt) v_law_price1659, .is (rPair rInt (sh (rList (rPair rInt rInt)))) v_law_shape1601, .un, .is (sh (rList (rOpt (rPair rInt rInt)))) v_law_told1714, .is rInt x1658, .un]) (fun _ => rfl) (bx_asg 1 sc__law_td_right.nd (ex_if (et_val (ex_var 7 cp_bool fun _ => rfl)) (ex_callK0 (E := E) (is := [2, 0, 1]) (Pe := (fun u => [.is (sh (rList rInt)) u.2.1, .is (sh (rList (rPair rInt rInt))) u.2.2, .is (sh rTape) u.1])) (fun q1921 => (q1921.2.2.1, n1691.2.1, n1691.2.2)) c_total (hr.mono (by decide)) rfl g_total k_total kb_total_0_asks_row_tape (by exact passes_call (takes_of rfl rfl rfl rfl) fun _ _ _ _ h => h) (ek_cons (eo_b1 (A := Unit) (b := ()) 4 fun _ => rfl) (ek_cons (eo_b2 (A := Unit) (b := ()) 4 fun _ => rfl) (ek_cons (eo_t (ex_var 5 cp_sh fun _ => rfl)) ek_nil))) (fun _ => rfl) (fun _ => rfl) (fun _ => rfl) (.inl ⟨(clo_pair clo_int clo_int), fun _ _ => (.sh (.b1 (i := 4) rfl) (.sh (.b2 (i := 4) rfl) (.cp cp_sh .t .nil)))⟩) (hWE hW) (wios hio fun _ => (.eq (.eq (.un (.un (.un (.un (.un (.un (.un (.eq (.un (.un (.eq (.un (.un (.eq .nil)))))))))))))))))) (ex_call (E := E) (fun q1928 => (q1928.1, n1691.2.1, n1691.2.2)) c_total (hr.mono (by decide)) rfl g_total k_total b_total (by exact passes_call (takes_of rfl rfl rfl rfl) fun _ _ _ _ h => h) (ea_cons (eo_t (ex_var 5 cp_sh fun _ => rfl)) (ea_cons (eo_b1 (A := Unit) (b := ()) 4 fun _ => rfl) (ea_cons (eo_b2 (A := Unit) (b := ()) 4 fun _ => rfl) ea_nil))) (fun _ => rfl) (.inl ⟨(clo_pair clo_int clo_int), fun _ _ => (.cp cp_sh .t (.sh (.b1 (i := 4) rfl) (.sh (.b2 (i := 4) rfl) .nil)))⟩) (hWE hW) (wios hio fun _ => (.eq (.eq (.un (.un (.un (.un (.un (.un (.un (.eq (.un (.un (.eq (.un (.un (.eq .nil))))))))))))))))))) (fun v_law_answer1912 => (bx_nf (fun s => [.pn v0 (rList rInt) s, .is (rPair rInt rInt) v_law_answer1912, .is (sh (rList (rPair rInt rInt))) n1691.1, .is (sh (rList rInt)) v_law_counts1612, .is (rBox bx1653 bx1654 (rList rInt) (rList (rPair rInt rInt))) (n1691.2.1, n1691.2.2), .is (sh rTape) v_law_made1610, .is rInt v_law_many1611, .is rBool v_law_named1901, .is rInt v_law_order1652, .un, .is (rPair rInt rInt) v_law_price1659, .is (rPair rInt (sh (rList (rPair rInt rInt)))) v_law_shape1601, .un, .is (sh (rList (rOpt (rPair rInt rInt)))) v_law_told1714, .is rInt x1658, .un]) (fun _ => rfl) (bx_asg 9 sc__law_td_right.nd (ex_call (E := E) (fun q1935 => (q1935.1, q1935.2.1)) c__law_td_sum (hr.mono (by decide)) rfl g__law_td_sum k__law_td_sum b__law_td_sum (by exact passes_call (takes_of rfl rfl rfl rfl) fun _ _ _ _ h => h) (ea_cons (eo_t (ex_var 3 cp_sh fun _ => rfl)) (ea_cons (eo_t (ex_var 13 cp_sh fun _ => rfl)) ea_nil)) (fun _ => rfl) (.inl ⟨(clo_pair clo_int clo_int), fun _ _ => (.cp cp_sh .t (.cp cp_sh .t .nil))⟩) (hWE hW) (wios hio fun _ => (.eq (.un (.un (.un (.un (.un (.un (.un (.un (.eq (.un (.un (.eq (.un (.un (.eq .nil)))))))))))))))))) (fun v_law_owed1930 => (bx_end (v_law_answer1912, v_law_named1901, v_law_owed1930) fun _ => (.eq (.eq (.eq (.eq (.eq (.eq (.eq (.eq (.eq (.eq (.eq (.eq (.eq (.eq (.eq (.eq .nil)))))))))))))))))) inferInstance (fun _ => rfl)))) inferInstance (fun _ => rfl)))) inferInstance (fun _ => rfl))) (bx_nf (fun s => [.pn v0 (rList rInt) s, .un, .is (sh (rList (rPair rInt rInt))) n1691.1, .is (sh (rList rInt)) v_law_counts1612, .is (rBox bx1653 bx1654 (rList rInt) (rList (rPair rInt rInt))) (n1691.2.1, n1691.2.2), .is (sh rTape) v_law_made1610, .is rInt v_law_many1611, .un, .is rInt v_law_order1652, .un, .is (rPair rInt rInt) v_law_price1659, .is (rPair rInt (sh (rList (rPair rInt rInt)))) v_law_shape1601, .un, .is (sh (rList (rOpt (rPair rInt rInt)))) v_law_told1714, .is rInt x1658, .un]) (fun _ => rfl) (bx_asg 7 sc__law_td_right.nd (ex_cmp op_eq vo_eqI (fun _ _ => stl_ret _) (ex_callIo (E := E) 0 (fun q1945 => q1945.2.1) c__law_td_pick (hr.mono (by decide)) rfl g__law_td_pick k__law_td_pick b__law_td_pick (by exact passes_call (takes_of rfl rfl rfl rfl) fun _ _ _ _ h => h) (clo_list clo_int) (ea_cons (eo_pn (U := Unit) (a := ()) 0 fun _ => rfl) (ea_cons (eo_t ex_int) ea_nil)) (fun _ => rfl) (fun _ => rfl) (fun _ _ => rfl) (fun _ _ => (.cp cp_int (.tc cp_int) .nil)) (hWE hW) (wios hio fun _ => (.eq (.eq (.un (.un (.un (.un (.un (.eq (.un (.eq (.un (.un (.eq (.un (.un (.eq .nil)))))))))))))))))) ex_int rfl) (fun v_law_named1936 => (bx_nf (fun s => [.pn v0 (rList rInt) s, .un, .is (sh (rList (rPair rInt rInt))) n1691.1, .is (sh (rList rInt)) v_law_counts1612, .is (rBox bx1653 bx1654 (rList rInt) (rList (rPair rInt rInt))) (n1691.2.1, n1691.2.2), .is (sh rTape) v_law_made1610, .is rInt v_law_many1611, .is rBool v_law_named1936, .is rInt v_law_order1652, .un, .is (rPair rInt rInt) v_law_price1659, .is (rPair rInt (sh (rList (rPair rInt rInt)))) v_law_shape1601, .un, .is (sh (rList (rOpt (rPair rInt rInt)))) v_law_told1714, .is rInt x1658, .un]) (fun _ => rfl) (bx_if (GJ := fun (n1970 : (Int × Int)) s => [.pn v0 (rList rInt) s, .is (rPair rInt rInt) n1970, .is (sh (rList (rPair rInt rInt))) n1691.1, .is (sh (rList rInt)) v_law_counts1612, .is (rBox bx1653 bx1654 (rList rInt) (rList (rPair rInt rInt))) (n1691.2.1, n1691.2.2), .is (sh rTape) v_law_made1610, .is rInt v_law_many1611, .is rBool v_law_named1936, .is rInt v_law_order1652, .un, .is (rPair rInt rInt) v_law_price1659, .is (rPair rInt (sh (rList (rPair rInt rInt)))) v_law_shape1601, .un, .is (sh (rList (rOpt (rPair rInt rInt)))) v_law_told1714, .is rInt x1658, .un]) (et_val (ex_var 7 cp_bool fun _ => rfl)) (bx_nf (fun s => [.pn v0 (rList rInt) s, .un, .is (sh (rList (rPair rInt rInt))) n1691.1, .is (sh (rList rInt)) v_law_counts1612, .is (rBox bx1653 bx1654 (rList rInt) (rList (rPair rInt rInt))) (n1691.2.1, n1691.2.2), .is (sh rTape) v_law_made1610, .is rInt v_law_many1611, .is rBool v_law_named1936, .is rInt v_law_order1652, .un, .is (rPair rInt rInt) v_law_price1659, .is (rPair rInt (sh (rList (rPair rInt rInt)))) v_law_shape1601, .un, .is (sh (rList (rOpt (rPair rInt rInt)))) v_law_told1714, .is rInt x1658, .un]) (fun _ => rfl) (bx_asg 1 sc__law_td_right.nd (ex_callK (E := E) (is := [0, 3, 1, 2]) (Pe := (fun u => [.is (sh rTape) u.1, .is (sh (rList (rPair rInt rInt))) u.2.2.1, .is (rPair rInt rInt) u.2.2.2, .is (sh (rList rInt)) u.2.1])) (fun q1980 q1981 => (q1980.1, n1691.2.1, n1691.2.2, q1981.2.1)) c_longest (hr.mono (by decide)) rfl g_longest k_longest kb_longest_1_row_cost_asks (by exact passes_call (takes_of rfl rfl rfl rfl) fun _ _ _ _ h => h) (ea_cons (eo_t (ex_var 5 cp_sh fun _ => rfl)) ea_nil) (ek_cons (eo_b2 (A := Unit) (b := ()) 4 fun _ => rfl) (ek_cons (eo_t (ex_var 10 (cp_pair cp_int cp_int) fun _ => rfl)) (ek_cons (eo_b1 (A := Unit) (b := ()) 4 fun _ => rfl) ek_nil))) (fun _ => rfl) (fun _ => rfl) (fun _ => rfl) (fun _ => rfl) (.inl ⟨(clo_pair clo_int clo_int), fun _ _ _ => (.cp cp_sh .t (.sh (.b2 (i := 4) rfl) (.cp (cp_pair cp_int cp_int) .t (.sh (.b1 (i := 4) rfl) .nil))))⟩) (hWE hW) (wios hio fun _ => (.eq (.eq (.un (.un (.un (.un (.un (.un (.un (.eq (.un (.un (.eq (.un (.un (.eq .nil)))))))))))))))))) (fun v_law_answer1971 => (bx_end v_law_answer1971 fun _ => (.eq (.eq (.eq (.eq (.eq (.eq (.eq (.eq (.eq (.eq (.eq (.eq (.eq (.eq (.eq (.eq .nil)))))))))))))))))) inferInstance (fun _ => rfl))) (bx_nf (fun s => [.pn v0 (rList rInt) s, .un, .is (sh (rList (rPair rInt rInt))) n1691.1, .is (sh (rList rInt)) v_law_counts1612, .is (rBox bx1653 bx1654 (rList rInt) (rList (rPair rInt rInt))) (n1691.2.1, n1691.2.2), .is (sh rTape) v_law_made1610, .is rInt v_law_many1611, .is rBool v_law_named1936, .is rInt v_law_order1652, .un, .is (rPair rInt rInt) v_law_price1659, .is (rPair rInt (sh (rList (rPair rInt rInt)))) v_law_shape1601, .un, .is (sh (rList (rOpt (rPair rInt rInt)))) v_law_told1714, .is rInt x1658, .un]) (fun _ => rfl) (bx_asg 1 sc__law_td_right.nd (ex_call (E := E) (fun q1991 => (q1991.1, n1691.2.1, n1691.2.2, q1991.2.2.2.1)) c_longest (hr.mono (by decide)) rfl g_longest k_longest b_longest (by exact passes_call (takes_of rfl rfl rfl rfl) fun _ _ _ _ h => h) (ea_cons (eo_t (ex_var 5 cp_sh fun _ => rfl)) (ea_cons (eo_b1 (A := Unit) (b := ()) 4 fun _ => rfl) (ea_cons (eo_b2 (A := Unit) (b := ()) 4 fun _ => rfl) (ea_cons (eo_t (ex_var 10 (cp_pair cp_int cp_int) fun _ => rfl)) ea_nil)))) (fun _ => rfl) (.inl ⟨(clo_pair clo_int clo_int), fun _ _ => (.cp cp_sh .t (.sh (.b1 (i := 4) rfl) (.sh (.b2 (i := 4) rfl) (.cp (cp_pair cp_int cp_int) .t .nil))))⟩) (hWE hW) (wios hio fun _ => (.eq (.eq (.un (.un (.un (.un (.un (.un (.un (.eq (.un (.un (.eq (.un (.un (.eq .nil)))))))))))))))))) (fun v_law_answer1982 => (bx_end v_law_answer1982 fun _ => (.eq (.eq (.eq (.eq (.eq (.eq (.eq (.eq (.eq (.eq (.eq (.eq (.eq (.eq (.eq (.eq .nil)))))))))))))))))) inferInstance (fun _ => rfl))) (fun n1970 => (bx_nf (fun s => [.pn v0 (rList rInt) s, .is (rPair rInt rInt) n1970, .is (sh (rList (rPair rInt rInt))) n1691.1, .is (sh (rList rInt)) v_law_counts1612, .is (rBox bx1653 bx1654 (rList rInt) (rList (rPair rInt rInt))) (n1691.2.1, n1691.2.2), .is (sh rTape) v_law_made1610, .is rInt v_law_many1611, .is rBool v_law_named1936, .is rInt v_law_order1652, .un, .is (rPair rInt rInt) v_law_price1659, .is (rPair rInt (sh (rList (rPair rInt rInt)))) v_law_shape1601, .un, .is (sh (rList (rOpt (rPair rInt rInt)))) v_law_told1714, .is rInt x1658, .un]) (fun _ => rfl) (bx_asg 9 sc__law_td_right.nd (ex_tup2 ex_int ex_int) (fun v_law_owed1992 => (bx_nf (fun s => [.pn v0 (rList rInt) s, .is (rPair rInt rInt) n1970, .is (sh (rList (rPair rInt rInt))) n1691.1, .is (sh (rList rInt)) v_law_counts1612, .is (rBox bx1653 bx1654 (rList rInt) (rList (rPair rInt rInt))) (n1691.2.1, n1691.2.2), .is (sh rTape) v_law_made1610, .is rInt v_law_many1611, .is rBool v_law_named1936, .is rInt v_law_order1652, .is (rPair rInt rInt) v_law_owed1992, .is (rPair rInt rInt) v_law_price1659, .is (rPair rInt (sh (rList (rPair rInt rInt)))) v_law_shape1601, .un, .is (sh (rList (rOpt (rPair rInt rInt)))) v_law_told1714, .is rInt x1658, .un]) (fun _ => rfl) (bx_for (Gt := fun (l1995 : (Int × Int)) s (x1996 : (Option (Int × Int))) => [.pn v0 (rList rInt) s, .is (rPair rInt rInt) n1970, .is (sh (rList (rPair rInt rInt))) n1691.1, .is (sh (rList rInt)) v_law_counts1612, .is (rBox bx1653 bx1654 (rList rInt) (rList (rPair rInt rInt))) (n1691.2.1, n1691.2.2), .is (sh rTape) v_law_made1610, .is rInt v_law_many1611, .is rBool v_law_named1936, .is rInt v_law_order1652, .is (rPair rInt rInt) l1995, .is (rPair rInt rInt) v_law_price1659, .is (rPair rInt (sh (rList (rPair rInt rInt)))) v_law_shape1601, .un, .is (sh (rList (rOpt (rPair rInt rInt)))) v_law_told1714, .is rInt x1658, .is (rOpt (rPair rInt rInt)) x1996]) (passes_of rfl) rfl (fun (l1995 : (Int × Int)) s => [.pn v0 (rList rInt) s, .is (rPair rInt rInt) n1970, .is (sh (rList (rPair rInt rInt))) n1691.1, .is (sh (rList rInt)) v_law_counts1612, .is (rBox bx1653 bx1654 (rList rInt) (rList (rPair rInt rInt))) (n1691.2.1, n1691.2.2), .is (sh rTape) v_law_made1610, .is rInt v_law_many1611, .is rBool v_law_named1936, .is rInt v_law_order1652, .is (rPair rInt rInt) l1995, .is (rPair rInt rInt) v_law_price1659, .is (rPair rInt (sh (rList (rPair rInt rInt)))) v_law_shape1601, .un, .is (sh (rList (rOpt (rPair rInt rInt)))) v_law_told1714, .is rInt x1658, .un]) v_law_owed1992 (ei_sh (ex_var 13 cp_sh fun _ => rfl) (cp_opt (cp_pair cp_int cp_int))) (fun _ => (.eq (.eq (.eq (.eq (.eq (.eq (.eq (.eq (.eq (.eq (.eq (.eq (.eq (.eq (.eq (.eq .nil))))))))))))))))) (fun _ _ => trivial) (fun l1995 _ => (eg_name (i := 15) rfl sc__law_td_right.nd)) (fun l1995 x1996 => (bx_nf (fun s => [.pn v0 (rList rInt) s, .is (rPair rInt rInt) n1970, .is (sh (rList (rPair rInt rInt))) n1691.1, .is (sh (rList rInt)) v_law_counts1612, .is (rBox bx1653 bx1654 (rList rInt) (rList (rPair rInt rInt))) (n1691.2.1, n1691.2.2), .is (sh rTape) v_law_made1610, .is rInt v_law_many1611, .is rBool v_law_named1936, .is rInt v_law_order1652, .is (rPair rInt rInt) l1995, .is (rPair rInt rInt) v_law_price1659, .is (rPair rInt (sh (rList (rPair rInt rInt)))) v_law_shape1601, .un, .is (sh (rList (rOpt (rPair rInt rInt)))) v_law_told1714, .is rInt x1658, .is (rOpt (rPair rInt rInt)) x1996]) (fun _ => rfl) (bx_if (GJ := fun (n2030 : (Int × Int)) s => [.pn v0 (rList rInt) s, .is (rPair rInt rInt) n1970, .is (sh (rList (rPair rInt rInt))) n1691.1, .is (sh (rList rInt)) v_law_counts1612, .is (rBox bx1653 bx1654 (rList rInt) (rList (rPair rInt rInt))) (n1691.2.1, n1691.2.2), .is (sh rTape) v_law_made1610, .is rInt v_law_many1611, .is rBool v_law_named1936, .is rInt v_law_order1652, .is (rPair rInt rInt) n2030, .is (rPair rInt rInt) v_law_price1659, .is (rPair rInt (sh (rList (rPair rInt rInt)))) v_law_shape1601, .un, .is (sh (rList (rOpt (rPair rInt rInt)))) v_law_told1714, .is rInt x1658, .is (rOpt (rPair rInt rInt)) x1996]) (et_w (ew_and (et_notN nn_pair (eo_t (ex_var 15 (cp_opt (cp_pair cp_int cp_int)) fun _ => rfl)) fun _ _ => .t) (ew_and1 (et_val (ex_call (E := E) (fun q2020 => (q2020.1, q2020.2.1)) c__law_td_under (hr.mono (by decide)) rfl g__law_td_under k__law_td_under b__law_td_under (by exact passes_call (takes_of rfl rfl rfl rfl) fun _ _ _ _ h => h) (ea_cons (eo_t (ex_var 9 (cp_pair cp_int cp_int) fun _ => rfl)) (ea_cons (eo_t (ex_call (E := E) (fun q2015 => (q2015.1, q2015.2.1)) c__law_td_comes (hr.mono (by decide)) rfl g__law_td_comes k__law_td_comes b__law_td_comes (by exact passes_call (takes_of rfl rfl rfl rfl) fun _ _ _ _ h => h) (ea_cons (eo_t (ex_unopt (ex_var 15 (cp_opt (cp_pair cp_int cp_int)) fun _ => rfl))) (ea_cons (eo_t (ex_var 10 (cp_pair cp_int cp_int) fun _ => rfl)) ea_nil)) (fun _ => rfl) (.inl ⟨(clo_pair clo_int clo_int), fun _ _ => (.cp (cp_pair cp_int cp_int) .t (.cp (cp_pair cp_int cp_int) .t .nil))⟩) (hWE hW) (wios hio fun _ => (.eq (.un (.un (.un (.un (.un (.un (.un (.un (.un (.un (.un (.eq (.un (.un (.un .nil))))))))))))))))))) ea_nil)) (fun _ => rfl) (.inl ⟨clo_bool, fun _ _ => (.cp (cp_pair cp_int cp_int) .t (.cp (cp_pair cp_int cp_int) .t .nil))⟩) (hWE hW) (wios hio fun _ => (.eq (.un (.un (.un (.un (.un (.un (.un (.un (.un (.un (.un (.eq (.un (.un (.un .nil)))))))))))))))))))))) (bx_nf (fun s => [.pn v0 (rList rInt) s, .is (rPair rInt rInt) n1970, .is (sh (rList (rPair rInt rInt))) n1691.1, .is (sh (rList rInt)) v_law_counts1612, .is (rBox bx1653 bx1654 (rList rInt) (rList (rPair rInt rInt))) (n1691.2.1, n1691.2.2), .is (sh rTape) v_law_made1610, .is rInt v_law_many1611, .is rBool v_law_named1936, .is rInt v_law_order1652, .is (rPair rInt rInt) l1995, .is (rPair rInt rInt) v_law_price1659, .is (rPair rInt (sh (rList (rPair rInt rInt)))) v_law_shape1601, .un, .is (sh (rList (rOpt (rPair rInt rInt)))) v_law_told1714, .is rInt x1658, .is (rOpt (rPair rInt rInt)) x1996]) (fun _ => rfl) (bx_asg 9 sc__law_td_right.nd (ex_call (E := E) (fun q2037 => (q2037.1, q2037.2.1)) c__law_td_comes (hr.mono (by decide)) rfl g__law_td_comes k__law_td_comes b__law_td_comes (by exact passes_call (takes_of rfl rfl rfl rfl) fun _ _ _ _ h => h) (ea_cons (eo_t (ex_unopt (ex_var 15 (cp_opt (cp_pair cp_int cp_int)) fun _ => rfl))) (ea_cons (eo_t (ex_var 10 (cp_pair cp_int cp_int) fun _ => rfl)) ea_nil)) (fun _ => rfl) (.inl ⟨(clo_pair clo_int clo_int), fun _ _ => (.cp (cp_pair cp_int cp_int) .t (.cp (cp_pair cp_int cp_int) .t .nil))⟩) (hWE hW) (wios hio fun _ => (.eq (.un (.un (.un (.un (.un (.un (.un (.un (.un (.un (.un (.eq (.un (.un (.un .nil)))))))))))))))))) (fun v_law_owed2031 => (bx_end v_law_owed2031 fun _ => (.eq (.eq (.eq (.eq (.eq (.eq (.eq (.eq (.eq (.eq (.eq (.eq (.eq (.eq (.eq (.eq .nil)))))))))))))))))) inferInstance (fun _ => rfl))) (bx_end l1995 fun _ => (.eq (.eq (.eq (.eq (.eq (.eq (.eq (.eq (.eq (.eq (.eq (.eq (.eq (.eq (.eq (.eq .nil))))))))))))))))) (fun n2030 => (bx_end n2030 fun _ => (.eq (.eq (.eq (.eq (.eq (.eq (.eq (.eq (.eq (.eq (.eq (.eq (.eq (.eq (.eq (.un .nil)))))))))))))))))) inferInstance))) (fun l1995 => (bx_end (n1970, v_law_named1936, l1995) fun _ => (.eq (.eq (.eq (.eq (.eq (.eq (.eq (.eq (.eq (.eq (.eq (.eq (.eq (.eq (.eq (.eq .nil)))))))))))))))))) inferInstance inferInstance))) inferInstance (fun _ => rfl)))) inferInstance))) inferInstance (fun _ => rfl))) (fun n1900 => (bx_nf (fun s => [.pn v0 (rList rInt) s, .is (rPair rInt rInt) n1900.1, .is (sh (rList (rPair rInt rInt))) n1691.1, .is (sh (rList rInt)) v_law_counts1612, .is (rBox bx1653 bx1654 (rList rInt) (rList (rPair rInt rInt))) (n1691.2.1, n1691.2.2), .is (sh rTape) v_law_made1610, .is rInt v_law_many1611, .is rBool n1900.2.1, .is rInt v_law_order1652, .is (rPair rInt rInt) n1900.2.2, .is (rPair rInt rInt) v_law_price1659, .is (rPair rInt (sh (rList (rPair rInt rInt)))) v_law_shape1601, .un, .is (sh (rList (rOpt (rPair rInt rInt)))) v_law_told1714, .is rInt x1658, .un]) (fun _ => rfl) (bx_ifr (GE_ := fun e _ => e.elim) (et_w (ew_or (et_cmp op_ne vo_neS (fun _ _ => stl_ret _) (ex_repr hgd hr.units (eo_t (ex_var 1 (cp_pair cp_int cp_int) fun _ => rfl)) (fun _ _ => .mk (en_P enc_int enc_int) .t) rfl f_repr) (ex_repr hgd hr.units (eo_t (ex_var 9 (cp_pair cp_int cp_int) fun _ => rfl)) (fun _ _ => .mk (en_P enc_int enc_int) .t) rfl f_repr) rfl) (ew_or1 (et_neD hr.units (eo_own (U := Unit) (a := ()) 4 fun _ => rfl) (eo_t (ex_tup2 (ex_var 3 cp_sh fun _ => rfl) (ex_var 2 cp_sh fun _ => rfl))) (fun _ _ => .mk (en_Box (en_L enc_int) (en_L (en_P enc_int enc_int))) (.v rfl)) (fun _ _ => .mk (en_P (en_sh (en_L enc_int)) (en_sh (en_L (en_P enc_int enc_int)))) .t))))) (bx_nf (fun s => [.pn v0 (rList rInt) s, .is (rPair rInt rInt) n1900.1, .is (sh (rList (rPair rInt rInt))) n1691.1, .is (sh (rList rInt)) v_law_counts1612, .is (rBox bx1653 bx1654 (rList rInt) (rList (rPair rInt rInt))) (n1691.2.1, n1691.2.2), .is (sh rTape) v_law_made1610, .is rInt v_law_many1611, .is rBool n1900.2.1, .is rInt v_law_order1652, .is (rPair rInt rInt) n1900.2.2, .is (rPair rInt rInt) v_law_price1659, .is (rPair rInt (sh (rList (rPair rInt rInt)))) v_law_shape1601, .un, .is (sh (rList (rOpt (rPair rInt rInt)))) v_law_told1714, .is rInt x1658, .un]) (fun _ => rfl) (bx_ret ex_bool (wios hio fun _ => (.eq (.un (.un (.un (.un (.un (.un (.un (.un (.un (.un (.un (.eq (.un (.un (.eq .nil))))))))))))))))))) (bx_end (n1691.1, (n1691.2.1, n1691.2.2)) fun _ => (.eq (.un (.eq (.eq (.eq (.eq (.eq (.un (.eq (.un (.un (.eq (.eq (.un (.un (.eq .nil)))))))))))))))))))) inferInstance))) inferInstance (fun _ => rfl)))) inferInstance))) inferInstance (fun _ => rfl)))) (fun l1655 => (bx_nf (fun s => [.pn v0 (rList rInt) s, .un, .is (sh (rList (rPair rInt rInt))) l1655.1, .is (sh (rList rInt)) v_law_counts1612, .is (rBox bx1653 bx1654 (rList rInt) (rList (rPair rInt rInt))) (l1655.2.1, l1655.2.2), .is (sh rTape) v_law_made1610, .is rInt v_law_many1611, .un, .is rInt v_law_order1652, .un, .un, .is (rPair rInt (sh (rList (rPair rInt rInt)))) v_law_shape1601, .un, .un, .un, .un]) (fun _ => rfl) (bx_ret (ex_eqTape t_eq c_Tape_DeqD b_Tape_DeqD (hr.mono (by decide)) (eo_t (ex_var 5 cp_sh fun _ => rfl)) (eo_t (ex_make (E := E) (fun q2069 => (q2069.1, q2069.2.1)) t_mk c_Tape_DinitD (hr.mono (by decide)) rfl g_Tape b_Tape_DinitD (by exact passes_call (takes_of rfl rfl rfl rfl) fun _ _ _ _ h => h) (ea_cons (eo_t (ex_plc (eo_t (ex_var 11 (cp_pair cp_int cp_sh) fun _ => rfl)) plc2_0 cp_int fun _ _ => .t)) (ea_cons (eo_t (ex_plc (eo_t (ex_var 11 (cp_pair cp_int cp_sh) fun _ => rfl)) plc2_1 cp_sh fun _ _ => .t)) ea_nil)) (fun _ => rfl) (fun _ _ => (.cp cp_int (.tc cp_int) (.cp cp_sh (.tc cp_sh) .nil))) (hWE hW) (wios hio fun _ => (.eq (.eq (.un (.un (.un (.un (.un (.eq (.un (.eq (.eq (.un (.eq (.eq (.eq (.eq .nil))))))))))))))))))) (fun _ _ => .t) (fun _ _ => .t) (wios hio fun _ => (.eq (.eq (.un (.un (.un (.un (.un (.eq (.un (.eq (.eq (.un (.eq (.eq (.eq (.eq .nil)))))))))))))))))) (wios hio fun _ => (.eq (.eq (.un (.un (.un (.un (.un (.eq (.un (.eq (.eq (.un (.eq (.eq (.eq (.eq .nil)))))))))))))))))))) inferInstance inferInstance)))) inferInstance inferInstance (fun _ => rfl) (fun _ => rfl)))) inferInstance (fun _ => rfl)))) inferInstance (fun _ => rfl)))) inferInstance inferInstance (fun _ => rfl) (fun _ => rfl)))) inferInstance (fun _ => rfl)))⟩
theorem sc_law : FnScope ["_law_script", "_law_rank"] ["_law_script"] (defScope (Hd.tp 47)) := ⟨rfl, rfl, rfl, by decide +kernel, rfl, by decide +kernel, by decide +kernel⟩
theorem ok_law (f_len : mg "len" = none) (f_max : mg "max" = none) (f_min : mg "min" = none) (f_range : mg "range" = none) {d__law_td_right : FuncData} (c__law_td_right : FnG P w K mg base 7 (ga K "_law_td_right") d__law_td_right ["_law_sack"] (SpI K 1 (rList rInt) (fun u : Unit => []) rBool m__law_td_right)) (g__law_td_right : mg "_law_td_right" = some (.ref (ga K "_law_td_right"))) (k__law_td_right : PySem.W.keepIn K (.ref (ga K "_law_td_right")) = true) (b__law_td_right : Binds K d__law_td_right ["_law_sack"] []) {d__law_td_sack : FuncData} (c__law_td_sack : FnOk P w K mg base (L2.CX P w) 1 (ga K "_law_td_sack") d__law_td_sack ["_law_script", "_law_rank"] (SpP K 2 (fun u : ((List Int) × Int) => [.is rScr u.1, .is rInt u.2]) (rList rInt) m__law_td_sack)) (g__law_td_sack : mg "_law_td_sack" = some (.ref (ga K "_law_td_sack"))) (k__law_td_sack : PySem.W.keepIn K (.ref (ga K "_law_td_sack")) = true) (b__law_td_sack : Binds K d__law_td_sack ["_law_script", "_law_rank"] []) (FD : FunD K "law" "law" (defArgs (Hd.tp 47)) (defBody (Hd.tp 47)) (defScope (Hd.tp 47)) [] [] (ga K "law") fd) : FnG P w K mg base 8 (ga K "law") fd ["_law_script"] (SpP K 1 (fun u : (List Int) => [.is rScr u]) rBool m_law) :=
  fnG_pure (k := 7) FD sc_law o_law (fun _ => rfl) fun u cdv A outer s H E hr hgd F hio hW => ⟨_, (bx_nf (fun s => [.is rScr u, .un]) (fun _ => rfl) (bx_for (Gt := fun (l2072 : Unit) s (x2080 : Int) => [.is rScr u, .is rInt x2080]) (passes_of rfl) rfl (fun (l2072 : Unit) s => [.is rScr u, .un]) () (ei_rng1 (ex_max2 ex_int (ex_min2 ex_int (ex_lenScr (eo_t (ex_var 0 cp_scr fun _ => rfl)) (fun _ _ => .t) rfl f_len) rfl f_min) rfl f_max) rfl f_range) (fun _ => (.eq (.eq .nil))) (fun _ _ => trivial) (fun l2072 _ => (eg_name (i := 1) rfl sc_law.nd)) (fun l2072 x2080 => (bx_nf (fun s => [.is rScr u, .is rInt x2080]) (fun _ => rfl) (bx_ifr (GE_ := fun e _ => e.elim) (et_not (et_val (ex_callIoTG (E := E) hgd (fun q2091 => ()) c__law_td_right (hr.mono (by decide)) rfl g__law_td_right k__law_td_right b__law_td_right (by exact passes_call (takes_of rfl rfl rfl rfl) fun _ _ _ _ h => h) (clo_list clo_int) (ea_cons (eo_t (ex_call (E := E) (fun q2096 => (q2096.1, q2096.2.1)) c__law_td_sack (hr.mono (by decide)) rfl g__law_td_sack k__law_td_sack b__law_td_sack (by exact passes_call (takes_of rfl rfl rfl rfl) fun _ _ _ _ h => h) (ea_cons (eo_t (ex_var 0 cp_scr fun _ => rfl)) (ea_cons (eo_t (ex_var 1 cp_int fun _ => rfl)) ea_nil)) (fun _ => rfl) (.inl ⟨(clo_list clo_int), fun _ _ => (.cp cp_scr .t (.cp cp_int .t .nil))⟩) (hWE hW) (wio hio fun _ => (.un (.un .nil))))) ea_nil) (fun _ => rfl) (fun _ _ => .nil) (hWE hW) (wio hio fun _ => (.un (.un .nil)))))) (bx_nf (fun s => [.is rScr u, .is rInt x2080]) (fun _ => rfl) (bx_ret ex_bool (wio hio fun _ => (.un (.un .nil))))) (bx_end () fun _ => (.eq (.un .nil)))))) (fun l2072 => (bx_nf (fun s => [.is rScr u, .un]) (fun _ => rfl) (bx_ret ex_bool (wio hio fun _ => (.un (.eq .nil)))))) inferInstance inferInstance))⟩
end
end Tk

set_option Elab.async false
set_option linter.all false
set_option maxRecDepth 100000
set_option maxHeartbeats 4000000
namespace Td
/-! ### the mirrors, plainly -/
section
variable {S T U : Type}
theorem bnd_ret (a : T) (f : T → SM S U) : bnd (ret a) f = f a := (rfl)
theorem bnd_assoc {V : Type} (m : SM S T) (f : T → SM S U) (g : U → SM S V) : bnd (bnd m f) g = bnd m fun a => bnd (f a) g := by
  funext s
  unfold bnd
  cases m s <;> rfl
theorem bnd_id (m : SM S T) : bnd m (fun a => ret a) = m := by
  funext s
  unfold bnd
  cases m s <;> rfl
theorem bnd_stk (f : T → SM S U) : bnd stk f = stk := (rfl)
theorem grd_t {c : Prop} [Decidable c] (h : c) : (grd c : SM S Unit) = ret () := by
  funext s
  unfold grd
  rw [if_pos h]; rfl
theorem lft_ret (a : T) : (lft (ret a) : SM S T) = ret a := (rfl)
theorem nxc_ret (a : T) : (nxc (ret a) : SM S T) = ret a := (rfl)
theorem esc_ret {N L R : Type} (b : R) : (esc (ret (.rt b)) : SM S (Fl N L R)) = ret (.rt b) := (rfl)
theorem runB_rt {R : Type} (b : R) : runB (ret (.rt b) : SM S (Fl Empty Empty R)) = ret b := (rfl)
theorem runB_bnd {R : Type} (m : SM S T) (k : T → SM S (Fl Empty Empty R)) : runB (bnd m k) = bnd m fun a => runB (k a) := by unfold runB; rw [bnd_assoc]
theorem bnd_ite {c : Prop} [Decidable c] (a b : SM S T) (f : T → SM S U) : bnd (if c then a else b) f = if c then bnd a f else bnd b f := by split <;> rfl
theorem esc_bnd {N L R : Type} (m : SM S T) (k : T → SM S (Fl Empty L R)) : (esc (bnd m k) : SM S (Fl N L R)) = bnd m fun a => esc (k a) := by unfold esc; rw [bnd_assoc]
theorem thn_bnd {N N' L R : Type} (m : SM S T) (k : T → SM S (Fl N L R)) (f : N → SM S (Fl N' L R)) : thn_ (bnd m k) f = bnd m fun a => thn_ (k a) f := by unfold thn_; rw [bnd_assoc]
theorem thn_nx {N N' L R : Type} (n : N) (f : N → SM S (Fl N' L R)) : thn_ (ret (.nx n)) f = f n := (rfl)
theorem thn_rt {N N' L R : Type} (b : R) (f : N → SM S (Fl N' L R)) : thn_ (ret (.rt b) : SM S (Fl N L R)) f = ret (.rt b) := (rfl)
theorem lpM_dn {N L L' R : Type} (l : L) (k : L → SM S (Fl N L' R)) : lpM (ret (.dn l)) k = k l := (rfl)
theorem lpM_rt {N L L' R : Type} (b : R) (k : L → SM S (Fl N L' R)) : lpM (ret (.rt b) : SM S (Lp L R)) k = ret (.rt b) := (rfl)
/-- what holds behind a computation that raises nothing -/
@[irreducible] def Hw (m : SM S T) (s : S) (P : T → S → Prop) : Prop := (m s).wp P fun _ _ => False
theorem hw_ret {a : T} {s : S} {P : T → S → Prop} (h : P a s) : Hw (ret a) s P := by unfold Hw; exact h
theorem hw_bnd {m : SM S T} {k : T → SM S U} {s : S} {P : U → S → Prop} (h : Hw m s fun a s' => Hw (k a) s' P) : Hw (bnd m k) s P := by
  unfold Hw at h ⊢
  refine bnd_wp (wp_mono h (fun a s' z => ?_) fun _ _ z => z)
  exact z
theorem hw_mono {m : SM S T} {s : S} {P P' : T → S → Prop} (h : Hw m s P) (k : ∀ a s, P a s → P' a s) : Hw m s P' := by unfold Hw at h ⊢; exact wp_mono h k fun _ _ z => z
theorem hw_grd {c : Prop} [Decidable c] {s : S} {P : Unit → S → Prop} (hc : c) (h : P () s) : Hw (grd c) s P := by
  rw [grd_t hc]; exact hw_ret h
theorem hw_ok {m : SM S T} {s : S} {P : T → S → Prop} (h : Hw m s P) : ∃ a s', m s = .ok a s' ∧ P a s' := by
  unfold Hw at h
  cases e : m s with
  | ok a s' => rw [e] at h; exact ⟨a, s', rfl, h⟩
  | exc e' s' => rw [e] at h; exact h.elim
  | stuck => rw [e] at h; exact h.elim
theorem hw_lft {m : SM Unit T} {s : S} {P : T → S → Prop} (h : Hw m () fun a _ => P a s) : Hw (lft m) s P := by
  obtain ⟨a, s', e, hp⟩ := hw_ok h
  unfold Hw lft
  rw [e]; exact hp
theorem hw_sub {S' : Type} {m : SM S' T} {s0 : S'} {s : S} {P : T × S' → S → Prop} (h : Hw m s0 fun a s' => P (a, s') s) : Hw (subM m s0) s P := by
  obtain ⟨a, s', e, hp⟩ := hw_ok h
  unfold Hw subM
  rw [e]; exact hp
/-- a for with an invariant -/
theorem hw_for {A L R : Type} {f : L → A → SM S (Fl L L R)} (J : Nat → L → S → Prop) (Rt : R → S → Prop) : ∀ (xs : List A) (i : Nat) (l : L) (s : S), J i l s →
    (∀ j a l s, xs[j]? = some a → J (i + j) l s → Hw (f l a) s fun fl s' => match fl with | .nx l' => J (i + j + 1) l' s' | .ct l' => J (i + j + 1) l' s' | .bk _ => False | .rt b => Rt b s') →
    Hw (forM_ xs f l) s fun e s' => match e with | .dn l' => J (i + xs.length) l' s' | .rt b => Rt b s'
  | [], i, l, s, h, _ => hw_ret h
  | x :: xs, i, l, s, h, k => by
    refine hw_bnd (hw_mono (k 0 x l s rfl h) fun fl s' hf => ?_)
    have next : ∀ l', J (i + 1) l' s' → Hw (forM_ xs f l') s' fun e s' => match e with | .dn l' => J (i + (xs.length + 1)) l' s' | .rt b => Rt b s' := fun l' hl => by
      have z := hw_for J Rt xs (i + 1) l' s' hl fun j a l s e hj => by
        have y := k (j + 1) a l s (by simpa using e) (by rw [show i + (j + 1) = i + 1 + j by omega]; exact hj)
        rw [show i + (j + 1) + 1 = i + 1 + j + 1 by omega] at y
        exact y
      rw [show i + 1 + xs.length = i + (xs.length + 1) by omega] at z
      exact z
    cases fl with
    | nx l' => exact next l' hf
    | ct l' => exact next l' hf
    | bk l' => exact hf.elim
    | rt b => exact hw_ret hf
end
theorem log2_lt {x : Int} {k : Nat} (h0 : 0 ≤ x) (h : x < 2 ^ k) (hk : 0 < k) : x.natAbs.log2 < k := by
  refine PySem.Flt.log2_lt_of hk ?_
  have e : ((x.natAbs : Nat) : Int) = x := Int.natAbs_of_nonneg h0
  have : ((x.natAbs : Nat) : Int) < ((2 ^ k : Nat) : Int) := by rw [e]; push_cast; exact h
  exact_mod_cast this
/-- a sack of draws, at most n drawn -/
def Gd (n : Nat) (s : List Int) : Prop := ∃ a b c : Int, s = [a, b, c] ∧ 0 ≤ a ∧ (0 ≤ b ∧ b < 10 ^ 37) ∧ 0 ≤ c ∧ c ≤ n
end Td

set_option Elab.async false
set_option linter.all false
set_option maxRecDepth 100000
set_option maxHeartbeats 4000000
namespace Td
theorem runP_nx {S : Type} : runP (ret (.nx ()) : SM S (Fl Unit Empty Unit)) = ret () := (rfl)
theorem runP_bnd {S T : Type} (m : SM S T) (k : T → SM S (Fl Unit Empty Unit)) : runP (bnd m k) = bnd m fun a => runP (k a) := by unfold runP; rw [bnd_assoc]
section
variable {S A B C L R : Type}
/-- a comprehension whose items are plain -/
theorem lcM_ret {f : A → SM S (Option B)} (g : A → Option B) : ∀ (xs : List A) (acc : List B), (∀ x, x ∈ xs → f x = ret (g x)) → acc.length + xs.length ≤ PySem.sizeLine → lcM f acc xs = ret (acc ++ xs.filterMap g)
  | [], acc, _, _ => by unfold lcM; simp
  | x :: xs, acc, h, hz => by
    unfold lcM
    rw [h x (List.mem_cons_self ..), nxc_ret, bnd_ret]
    rw [List.length_cons] at hz
    cases e : g x with
    | none =>
      rw [List.filterMap_cons_none e]
      exact lcM_ret g xs acc (fun y hy => h y (List.mem_cons_of_mem _ hy)) (by omega)
    | some b =>
      simp only
      rw [grd_t (by omega), bnd_ret, lcM_ret g xs (acc ++ [b]) (fun y hy => h y (List.mem_cons_of_mem _ hy)) (by simp; omega), List.filterMap_cons_some e, List.append_assoc]
      rfl
theorem lcIt_ret (k : Bool) (b : B) : lcIt (ret k : SM S Bool) (ret b) = ret (if k then some b else none) := by
  unfold lcIt
  rw [bnd_ret]
  cases k <;> rfl
theorem lcIt_t (b : B) : lcIt (ret true : SM S Bool) (ret b) = ret (some b) := (rfl)
/-- two fors, plain -/
theorem lc2M_ret {mt : A → SM S Bool} {mi : A → SM S (List B)} {f : A → B → SM S (Option C)} (t : A → Bool) (i : A → List B) (g : A → B → Option C) : ∀ (xs : List A) (acc : List C), (∀ x, x ∈ xs → mt x = ret (t x) ∧ mi x = ret (i x) ∧ ∀ y, y ∈ i x → f x y = ret (g x y)) →
    acc.length + (xs.map fun x => (i x).length).sum ≤ PySem.sizeLine → lc2M mt mi f acc xs = ret (acc ++ xs.flatMap fun x => if t x then (i x).filterMap (g x) else [])
  | [], acc, _, _ => by unfold lc2M; simp
  | x :: xs, acc, h, hz => by
    obtain ⟨h1, h2, h3⟩ := h x (List.mem_cons_self ..)
    unfold lc2M
    rw [List.map_cons, List.sum_cons] at hz
    rw [h1, nxc_ret, bnd_ret, List.flatMap_cons]
    have rest : ∀ acc' : List C, acc'.length ≤ acc.length + (i x).length → lc2M mt mi f acc' xs = ret (acc' ++ xs.flatMap fun x => if t x then (i x).filterMap (g x) else []) := fun acc' ha => lc2M_ret t i g xs acc' (fun y hy => h y (List.mem_cons_of_mem _ hy)) (by omega)
    cases e : t x with
    | false =>
      simp only [Bool.false_eq_true, if_false, List.nil_append]
      exact rest acc (by omega)
    | true =>
      simp only [if_true]
      rw [h2, nxc_ret, bnd_ret, lcM_ret (g x) _ _ h3 (by omega), bnd_ret, rest _ (by rw [List.length_append]; have := List.length_filterMap_le (g x) (i x); omega), List.append_assoc]
/-- a for that goes on at each item -/
theorem forM_nx {f : L → A → SM S (Fl L L R)} (h : L → A → L) : ∀ (xs : List A) (l : L), (∀ ys x zs, xs = ys ++ x :: zs → f (ys.foldl h l) x = ret (.nx (h (ys.foldl h l) x))) → forM_ xs f l = ret (.dn (xs.foldl h l))
  | [], l, _ => rfl
  | x :: xs, l, k => by
    unfold forM_
    have z := k [] x xs rfl
    rw [List.foldl_nil] at z
    rw [z, bnd_ret]
    exact forM_nx h xs (h l x) fun ys y zs e => k (x :: ys) y zs (by rw [e]; rfl)
end
end Td

set_option Elab.async false
set_option linter.all false
set_option maxRecDepth 100000
set_option maxHeartbeats 4000000
namespace Td
section
variable {S T U N N' L L' R : Type}
theorem hw_step {m : SM S T} {k : T → SM S U} {s s' : S} {a : T} {P : U → S → Prop} (e : m s = .ok a s') (h : Hw (k a) s' P) : Hw (bnd m k) s P := by
  unfold Hw at h ⊢
  unfold bnd
  rw [e]
  exact h
/-- a first part, then the rest -/
theorem hw_seq {m : SM S T} {k : T → SM S U} {s : S} {Q : T → S → Prop} {P : U → S → Prop} (h : Hw m s Q) (hk : ∀ a s', Q a s' → Hw (k a) s' P) : Hw (bnd m k) s P := by
  obtain ⟨a, s', e, q⟩ := hw_ok h
  exact hw_step e (hk a s' q)
theorem hw_runB {m : SM S (Fl Empty Empty R)} {s : S} {P : R → S → Prop} (h : Hw m s fun fl s' => match fl with | .rt b => P b s' | _ => False) : Hw (runB m) s P := by
  obtain ⟨a, s', e, q⟩ := hw_ok h
  unfold runB
  refine hw_step e ?_
  cases a with
  | nx n => exact n.elim
  | bk n => exact n.elim
  | ct n => exact n.elim
  | rt b => exact hw_ret q
theorem hw_runP {m : SM S (Fl Unit Empty Unit)} {s : S} {P : Unit → S → Prop} (h : Hw m s fun fl s' => P () s') : Hw (runP m) s P := by
  obtain ⟨a, s', e, q⟩ := hw_ok h
  unfold runP
  refine hw_step e ?_
  cases a with
  | nx n => exact hw_ret q
  | bk n => exact n.elim
  | ct n => exact n.elim
  | rt b => exact hw_ret q
theorem hw_lp {m : SM S (Lp L R)} {k : L → SM S (Fl N L' R)} {s : S} {P : Fl N L' R → S → Prop} (h : Hw m s fun e s' => match e with | .dn l => Hw (k l) s' P | .rt b => P (.rt b) s') : Hw (lpM m k) s P := by
  obtain ⟨a, s', e, q⟩ := hw_ok h
  unfold lpM
  refine hw_step e ?_
  cases a with
  | dn l => exact q
  | rt b => exact hw_ret q
theorem hw_thn {m : SM S (Fl N L R)} {k : N → SM S (Fl N' L R)} {s : S} {P : Fl N' L R → S → Prop} (h : Hw m s fun fl s' => match fl with | .nx n => Hw (k n) s' P | .rt b => P (.rt b) s' | .bk l => P (.bk l) s' | .ct l => P (.ct l) s') : Hw (thn_ m k) s P := by
  obtain ⟨a, s', e, q⟩ := hw_ok h
  unfold thn_
  refine hw_step e ?_
  cases a with
  | nx n => exact q
  | rt b => exact hw_ret q
  | bk b => exact hw_ret q
  | ct b => exact hw_ret q
theorem hw_esc {m : SM S (Fl Empty L R)} {s : S} {P : Fl N L R → S → Prop} (h : Hw m s fun fl s' => match fl with | .nx n => False | .rt b => P (.rt b) s' | .bk l => P (.bk l) s' | .ct l => P (.ct l) s') : Hw (esc m) s P := by
  obtain ⟨a, s', e, q⟩ := hw_ok h
  unfold esc
  refine hw_step e ?_
  cases a with
  | nx n => exact n.elim
  | bk l => exact hw_ret q
  | ct l => exact hw_ret q
  | rt b => exact hw_ret q
theorem hw_ite {c : Prop} [Decidable c] {a b : SM S T} {s : S} {P : T → S → Prop} (h1 : c → Hw a s P) (h2 : ¬ c → Hw b s P) : Hw (if c then a else b) s P := by
  by_cases h : c
  · rw [if_pos h]; exact h1 h
  · rw [if_neg h]; exact h2 h
/-- a for whose turns all go on -/
theorem hw_forN {A : Type} {f : L → A → SM S (Fl L L R)} (J : Nat → L → S → Prop) (xs : List A) {l : L} {s : S} (h : J 0 l s) (k : ∀ j a l s, xs[j]? = some a → J j l s → Hw (f l a) s fun fl s' => match fl with | .nx l' => J (j + 1) l' s' | .ct l' => J (j + 1) l' s' | _ => False) :
    Hw (forM_ xs f l) s fun e s' => match e with | .dn l' => J xs.length l' s' | .rt b => False := by
  have z := hw_for (f := f) J (fun _ _ => False) xs 0 l s h fun j a l s e hj => by
    rw [Nat.zero_add] at hj ⊢
    exact hw_mono (k j a l s e hj) fun fl s' q => by cases fl <;> exact q
  rw [Nat.zero_add] at z
  exact hw_mono z fun e s' q => by cases e <;> exact q
end
theorem Gd.le {n m : Nat} {s : List Int} (h : Gd n s) (hm : n ≤ m) : Gd m s := by
  obtain ⟨a, b, c, e, h1, h2, h3, h4⟩ := h
  exact ⟨a, b, c, e, h1, h2, h3, by omega⟩
end Td

set_option Elab.async false
set_option linter.all false
set_option maxRecDepth 100000
set_option maxHeartbeats 4000000
namespace Tk
open Td
theorem powM_ok {S : Type} {i j : Int} (h : CPowV i j) : (powM i j : SM S Int) = ret (i ^ j.toNat) := by unfold powM grdI; rw [grd_t h]; rfl
theorem mulM_ok {S : Type} {i j : Int} (h : L2.CMul i j) : (mulM i j : SM S Int) = ret (i * j) := by unfold mulM grdI; rw [grd_t h]; rfl
theorem mulWM_ok {S : Type} {i j : Int} (h : L2.CMulW i j) : (mulWM i j : SM S Int) = ret (i * j) := by unfold mulWM grdI; rw [grd_t h]; rfl
theorem divWM_ok {S : Type} {i j : Int} (h : L2.CDivW i j) : (divWM i j : SM S Int) = ret (i / j) := by unfold divWM grdI; rw [grd_t h]; rfl
theorem modM_ok {S : Type} {i j : Int} (h : 0 < j) : (modM i j : SM S Int) = ret (i % j) := by
  have h' : j ≠ 0 := by omega
  unfold modM grdI
  rw [grd_t h']
  show ret (i.fmod j) = _
  rw [Int.fmod_eq_emod_of_nonneg i (by omega)]
theorem stIx0 {a b c : Int} : (stIx 0 : SM (List Int) Int) [a, b, c] = .ok a [a, b, c] := rfl
theorem stIx1 {a b c : Int} : (stIx 1 : SM (List Int) Int) [a, b, c] = .ok b [a, b, c] := rfl
theorem stIx2 {a b c : Int} : (stIx 2 : SM (List Int) Int) [a, b, c] = .ok c [a, b, c] := rfl
theorem stSet0 {a b c v : Int} : (stSet 0 v : SM (List Int) Unit) [a, b, c] = .ok () [v, b, c] := rfl
theorem stSet2 {a b c v : Int} : (stSet 2 v : SM (List Int) Unit) [a, b, c] = .ok () [a, b, v] := rfl
theorem hw_ix0 {a b c : Int} {P : Int → List Int → Prop} (h : P a [a, b, c]) : Hw (stIx 0) [a, b, c] P := by unfold Hw; exact h
theorem hw_ix1 {a b c : Int} {P : Int → List Int → Prop} (h : P b [a, b, c]) : Hw (stIx 1) [a, b, c] P := by unfold Hw; exact h
theorem hw_ix2 {a b c : Int} {P : Int → List Int → Prop} (h : P c [a, b, c]) : Hw (stIx 2) [a, b, c] P := by unfold Hw; exact h
theorem hw_set0 {a b c v : Int} {P : Unit → List Int → Prop} (h : P () [v, b, c]) : Hw (stSet 0 v) [a, b, c] P := by unfold Hw; exact h
theorem hw_set2 {a b c v : Int} {P : Unit → List Int → Prop} (h : P () [a, b, v]) : Hw (stSet 2 v) [a, b, c] P := by unfold Hw; exact h
theorem hw_pick {u : Int} {n : Nat} {s : List Int} (h0 : 0 < u) (hu : u < 2 ^ 200) (hn : n < 2 ^ 100) (hg : Gd n s) : Hw (m__law_td_pick u) s fun v s' => (0 ≤ v ∧ v < u) ∧ Gd (n + 1) s' := by
  obtain ⟨a, b, c, e, ha, ⟨hb0, hb1⟩, hc0, hc1⟩ := hg
  subst e
  have cu : L2.CDivW a u := ⟨h0, by have := log2_lt (by omega : 0 ≤ u) hu (by decide); omega⟩
  unfold m__law_td_pick o__law_td_pick
  simp only [bnd_assoc, bnd_ret, runB_bnd]
  refine hw_bnd (hw_ix0 ?_)
  by_cases h1 : decide (1 < a) = true
  · simp only [h1, if_true, esc_bnd, runB_bnd, bnd_assoc, bnd_ret, esc_ret, runB_rt]
    refine hw_bnd (hw_ix0 ?_)
    rw [modM_ok h0, bnd_ret]
    refine hw_bnd (hw_ix0 ?_)
    rw [divWM_ok cu, bnd_ret]
    refine hw_bnd (hw_set0 (hw_ret ⟨⟨Int.emod_nonneg _ (by omega), Int.emod_lt_of_pos _ h0⟩, a / u, b, c, rfl, Int.ediv_nonneg ha (by omega), ⟨hb0, hb1⟩, hc0, by push_cast; omega⟩))
  · simp only [h1, if_false, runB_bnd, bnd_assoc, bnd_ret, runB_rt, Bool.false_eq_true]
    refine hw_bnd (hw_ix2 (hw_bnd (hw_set2 ?_)))
    refine hw_bnd (hw_ix1 (hw_bnd (hw_ix2 ?_)))
    have hN : (n : Int) < 2 ^ 100 := by exact_mod_cast hn
    have hc2 : c + 1 ≤ 2 ^ 100 := by omega
    have lc : (c + 1).natAbs.log2 < 101 := log2_lt (by omega) (by omega) (by decide)
    have cm : ∀ k : Int, 0 ≤ k → k < 2 ^ 40 → L2.CMulW k (c + 1) := fun k k0 k1 => by
      have := log2_lt k0 k1 (by decide)
      unfold L2.CMulW
      omega
    rw [mulWM_ok (cm _ (by decide) (by decide)), bnd_ret]
    have x0 : (0 : Int) ≤ b + 1300190417 * (c + 1) := by omega
    have x1 : b + 1300190417 * (c + 1) < 2 ^ 200 := by omega
    rw [powM_ok ⟨x0, by decide, by have := log2_lt x0 x1 (by decide); show _ * 3 ≤ _; omega⟩, bnd_ret, powM_ok (by decide), bnd_ret, modM_ok (by decide), bnd_ret]
    refine hw_bnd (hw_ix2 ?_)
    rw [mulWM_ok (cm _ (by decide) (by decide)), bnd_ret]
    have y0 := Int.emod_nonneg ((b + 1300190417 * (c + 1)) ^ (3 : Int).toNat) (show ((10 : Int) ^ (40 : Int).toNat + 121) ≠ 0 by decide)
    have y1 := Int.emod_lt_of_pos ((b + 1300190417 * (c + 1)) ^ (3 : Int).toNat) (show 0 < ((10 : Int) ^ (40 : Int).toNat + 121) by decide)
    generalize (b + 1300190417 * (c + 1)) ^ (3 : Int).toNat % ((10 : Int) ^ (40 : Int).toNat + 121) = y at *
    have y2 : y < 2 ^ 150 := Int.lt_trans y1 (by decide)
    have z0 : 0 ≤ y + 15485863 * (c + 1) := by omega
    have z1 : y + 15485863 * (c + 1) < 2 ^ 200 := by omega
    rw [powM_ok ⟨z0, by decide, by have := log2_lt z0 z1 (by decide); show _ * 2 ≤ _; omega⟩, bnd_ret, powM_ok (by decide), bnd_ret, modM_ok (by decide), bnd_ret, divWM_ok ⟨by decide, by decide⟩, bnd_ret, modM_ok h0, bnd_ret]
    exact hw_ret ⟨⟨Int.emod_nonneg _ (by omega), Int.emod_lt_of_pos _ h0⟩, a, b, c + 1, rfl, ha, ⟨hb0, hb1⟩, by omega, by push_cast; omega⟩
end Tk

set_option Elab.async false
set_option linter.all false
set_option maxRecDepth 100000
set_option maxHeartbeats 4000000
namespace Tk
open Td
theorem atI_nn {T : Type} {xs : List T} {i : Int} (h0 : 0 ≤ i) (h1 : i < xs.length) : L2.atI xs i = some (xs[i.toNat]'(by omega)) := by
  unfold L2.atI L2.ixN
  rw [if_pos h0, if_pos h1]
  exact List.getElem?_eq_getElem (by omega)
theorem atI_ng {T : Type} {xs : List T} {i : Int} (h0 : i < 0) (h1 : -(xs.length : Int) ≤ i) : L2.atI xs i = some (xs[(i + xs.length).toNat]'(by omega)) := by
  unfold L2.atI L2.ixN
  rw [if_neg (by omega), if_pos h1]
  exact List.getElem?_eq_getElem (by omega)
theorem ixM_ok {S T : Type} {xs : List T} {i : Int} {a : T} (h : L2.atI xs i = some a) : (ixM xs i : SM S T) = ret a := by unfold ixM; rw [h]
theorem hw_sack {ns : List Int} {r : Int} (h0 : 0 ≤ r) : Hw (m__law_td_sack (ns, r)) () fun s _ => Gd 0 s := by
  unfold m__law_td_sack o__law_td_sack
  simp only [bnd_assoc, bnd_ret, runB_bnd, bnd_ite]
  have main : ∀ cell : Int, Hw (bnd (powM 10 18) fun a631 => bnd (mulM cell 52361) fun a608 => bnd (mulM r 9176429) fun a609 => bnd (powM 10 36) fun a618 => bnd (modM (a608 + a609 + 7919) (a618 + 67)) fun a572 =>
      bnd (lenG [if (if cell < 0 then -cell else cell) - a631 > 0 then (if cell < 0 then -cell else cell) - a631 else 0, a572, 0]) fun _ => runB (ret (Fl.rt [if (if cell < 0 then -cell else cell) - a631 > 0 then (if cell < 0 then -cell else cell) - a631 else 0, a572, 0]) : SM Unit (Fl Empty Empty (List Int)))) () fun s _ => Gd 0 s := by
    intro cell
    rw [powM_ok (by decide), bnd_ret, mulM_ok (.inr (by decide)), bnd_ret, mulM_ok (.inr (by decide)), bnd_ret, powM_ok (by decide), bnd_ret, modM_ok (by decide), bnd_ret, lenG, grd_t (by simp [PySem.sizeLine_eq]), bnd_ret, runB_rt]
    refine hw_ret ⟨_, _, _, rfl, ?_, ⟨Int.emod_nonneg _ (by decide), Int.lt_trans (Int.emod_lt_of_pos _ (by decide)) (by decide)⟩, by decide, by decide⟩
    split <;> omega
  by_cases hk : decide (r < (ns.length : Int)) = true
  · have hlt : r < (ns.length : Int) := of_decide_eq_true hk
    simp only [hk, if_true]
    rw [ixM_ok (atI_nn h0 hlt), bnd_ret]
    simp only [runB_bnd]
    exact main _
  · simp only [hk, if_false, Bool.false_eq_true, runB_bnd]
    exact main 0
end Tk

set_option Elab.async false
set_option linter.all false
namespace Tp
/-! ### rows, plainly -/
abbrev Tape := Int × List (Int × Int)
def bg (t : Tape) (i : Int) : Int := (t.2.getD i.toNat (0, 0)).1
def en (t : Tape) (i : Int) : Int := (t.2.getD i.toNat (0, 0)).2
def inD (f l x : Int) : Bool := if decide (f ≤ x) = true then decide (x ≤ l) else false
theorem inD_iff {f l x : Int} : inD f l x = true ↔ f ≤ x ∧ x ≤ l := by
  unfold inD
  by_cases h : f ≤ x <;> simp [h]
def fr : List Int → List (Int × Int) → List (List Int)
  | u, [] => [u]
  | u, d :: r => u.filter (inD d.1 d.2) :: fr (u.filter fun x => !inD d.1 d.2 x) r
theorem fr_ne (u : List Int) (row : List (Int × Int)) : fr u row ≠ [] := by
  cases row <;> simp [fr]
theorem fr_len : ∀ (u : List Int) (row : List (Int × Int)), (fr u row).length = row.length + 1
  | _, [] => rfl
  | u, d :: r => by simp [fr, fr_len]
theorem fr_mem : ∀ {u : List Int} {row : List (Int × Int)} {run : List Int}, run ∈ fr u row → ∀ {x}, x ∈ run → x ∈ u
  | u, [], run, h, x, hx => by simp [fr] at h; subst h; exact hx
  | u, d :: r, run, h, x, hx => by
    rw [fr, List.mem_cons] at h
    rcases h with h | h
    · subst h; exact (List.mem_filter.mp hx).1
    · exact (List.mem_filter.mp (fr_mem h hx)).1
theorem fr_foldl (row : List (Int × Int)) : ∀ (runs : List (List Int)) (u : List Int),
    (row.foldl (fun (l : List (List Int) × List Int) d => (l.1 ++ [l.2.filter (inD d.1 d.2)], l.2.filter fun x => !inD d.1 d.2 x)) (runs, u)).1 ++ [(row.foldl (fun (l : List (List Int) × List Int) d => (l.1 ++ [l.2.filter (inD d.1 d.2)], l.2.filter fun x => !inD d.1 d.2 x)) (runs, u)).2] = runs ++ fr u row := by
  induction row with
  | nil => intro runs u; rfl
  | cons d r ih =>
    intro runs u
    rw [List.foldl_cons]
    show (List.foldl _ (runs ++ [u.filter (inD d.1 d.2)], u.filter fun x => !inD d.1 d.2 x) r).1 ++ _ = _
    rw [ih]
    simp [fr]
/-- the leftmost file stays unread to the end -/
theorem fr_last : ∀ {row : List (Int × Int)} {u : List Int} {a : Int}, a ∈ u → (∀ d, d ∈ row → a < d.1) → a ∈ (fr u row).getLast (fr_ne _ _)
  | [], u, a, h, _ => by simpa [fr] using h
  | d :: r, u, a, h, k => by
    have h1 : a ∈ u.filter fun x => !inD d.1 d.2 x := by
      rw [List.mem_filter]
      refine ⟨h, ?_⟩
      have : ¬ inD d.1 d.2 a = true := by
        rw [inD_iff]; have := k d (List.mem_cons_self ..); omega
      simpa using this
    have h2 := fr_last (row := r) h1 fun e he => k e (List.mem_cons_of_mem _ he)
    simp only [fr]
    rw [List.getLast_cons (fr_ne _ _)]
    exact h2
/-- each run begins with the first of its detour -/
theorem filter_head {f l : Int} : ∀ {u : List Int}, u.Pairwise (· < ·) → f ∈ u → f ≤ l → ∃ t, u.filter (inD f l) = f :: t
  | [], _, h, _ => by cases h
  | x :: u, hp, h, hl => by
    rw [List.pairwise_cons] at hp
    by_cases e : x = f
    · subst e
      exact ⟨_, List.filter_cons_of_pos (by rw [inD_iff]; omega)⟩
    · have hf : f ∈ u := by
        rcases List.mem_cons.mp h with h | h
        · exact absurd h.symm e
        · exact h
      have : x < f := hp.1 _ hf
      rw [List.filter_cons_of_neg (by rw [inD_iff]; omega)]
      exact filter_head hp.2 hf hl
theorem fr_heads : ∀ {row : List (Int × Int)} {u : List Int}, u.Pairwise (· < ·) → (∀ d, d ∈ row → d.1 ∈ u ∧ d.1 ≤ d.2) → row.Pairwise (fun a b => b.1 < a.1) → ∀ {k : Nat} {d : Int × Int}, row[k]? = some d → ∃ t, (fr u row)[k]? = some (d.1 :: t)
  | [], _, _, _, _, k, d, e => by simp at e
  | c :: r, u, hu, hm, hd, 0, d, e => by
    have e' : c = d := by simpa using e
    subst e'
    obtain ⟨t, ht⟩ := filter_head hu (hm c (List.mem_cons_self ..)).1 (hm c (List.mem_cons_self ..)).2
    exact ⟨t, by simp [fr, ht]⟩
  | c :: r, u, hu, hm, hd, k + 1, d, e => by
    rw [List.pairwise_cons] at hd
    simp only [fr, List.getElem?_cons_succ]
    refine fr_heads (hu.filter _) (fun x hx => ⟨?_, (hm x (List.mem_cons_of_mem _ hx)).2⟩) hd.2 (by simpa using e)
    rw [List.mem_filter]
    refine ⟨(hm x (List.mem_cons_of_mem _ hx)).1, ?_⟩
    have : ¬ inD c.1 c.2 x.1 = true := by
      rw [inD_iff]; have := hd.1 x hx; omega
    simpa using this
/-! ### waits -/
def aI (x : Int) : Int := if x < 0 then -x else x
abbrev Fd := List (Option (Int × Int))
def put (t : Tape) (steps place turns : Int) (run : List Int) (fd : Fd) : Fd := run.foldl (fun fd i => fd.set i.toNat (some (steps + en t i - place, turns))) fd
theorem put_len (t : Tape) (a b c : Int) (run : List Int) : ∀ fd, (put t a b c run fd).length = fd.length := by
  unfold put
  induction run with
  | nil => intro fd; rfl
  | cons x r ih => intro fd; rw [List.foldl_cons, ih, List.length_set]
theorem put_get (t : Tape) (a b c : Int) (run : List Int) (h0 : ∀ x, x ∈ run → 0 ≤ x) : ∀ (fd : Fd) {i : Nat}, i < fd.length → (put t a b c run fd)[i]? = if (i : Int) ∈ run then some (some (a + en t i - b, c)) else fd[i]? := by
  unfold put
  induction run with
  | nil => intro fd i h; simp
  | cons x r ih =>
    intro fd i h
    have hx := h0 x (List.mem_cons_self ..)
    rw [List.foldl_cons, ih (fun y hy => h0 y (List.mem_cons_of_mem _ hy)) _ (by simpa using h)]
    by_cases e : (i : Int) ∈ r
    · rw [if_pos e, if_pos (List.mem_cons_of_mem _ e)]
    · rw [if_neg e]
      by_cases e2 : (i : Int) = x
      · subst e2
        rw [if_pos (List.mem_cons_self ..)]
        simp [h]
      · have : (i : Int) ∉ x :: r := by simp [e, e2]
        rw [if_neg this, List.getElem?_set_ne (by omega)]
def wStep (t : Tape) (runs : List (List Int)) (l : Fd × Int × Int) (x : Int × Int) : Fd × Int × Int :=
  (if x.1 % 2 = 1 then put t l.2.2 l.2.1 x.1 (runs.getD (x.1 / 2).toNat []) l.1 else l.1, x.2, l.2.2 + aI (x.2 - l.2.1))
def enumF : Nat → List Int → List (Int × Int)
  | _, [] => []
  | k, x :: xs => ((k : Int), x) :: enumF (k + 1) xs
theorem enumF_eq : ∀ (k : Nat) (xs : List Int), xs.mapIdx (fun i x => (((k + i : Nat) : Int), x)) = enumF k xs
  | _, [] => rfl
  | k, x :: xs => by
    rw [List.mapIdx_cons, enumF, ← enumF_eq (k + 1) xs]
    congr 2
    funext i y
    congr 2
    omega
abbrev Trs := List ((Int × Int) × List Int)
def wTr (t : Tape) : Trs → Fd → Int → Int → Nat → Fd
  | [], fd, _, _, _ => fd
  | x :: r, fd, place, steps, k => wTr t r (put t (steps + aI (x.1.1 - place)) x.1.1 (2 * k + 1 : Int) x.2 fd) x.1.2 (steps + aI (x.1.1 - place) + aI (x.1.2 - x.1.1)) (k + 1)
theorem wStep_trs (t : Tape) (runs : List (List Int)) : ∀ (trs : Trs) (k : Nat) (fd : Fd) (place steps : Int), (∀ (j : Nat) (x : (Int × Int) × List Int), trs[j]? = some x → runs[k + j]? = some x.2) →
    ((enumF (2 * k) (trs.flatMap fun x => [x.1.1, x.1.2])).foldl (wStep t runs) (fd, place, steps)).1 = wTr t trs fd place steps k
  | [], _, _, _, _, _ => rfl
  | x :: r, k, fd, place, steps, h => by
    have hx := h 0 x rfl
    rw [List.flatMap_cons]
    rw [List.cons_append, List.cons_append, List.nil_append, enumF, enumF, List.foldl_cons, List.foldl_cons, wTr]
    have e1 : wStep t runs (fd, place, steps) (((2 * k : Nat) : Int), x.1.1) = (fd, x.1.1, steps + aI (x.1.1 - place)) := by
      unfold wStep
      rw [if_neg (by show ¬ ((2 * k : Nat) : Int) % 2 = 1; omega)]
    have e2 : ∀ s, wStep t runs (fd, x.1.1, s) (((2 * k + 1 : Nat) : Int), x.1.2) = (put t s x.1.1 (2 * k + 1 : Int) x.2 fd, x.1.2, s + aI (x.1.2 - x.1.1)) := by
      intro s
      unfold wStep
      rw [if_pos (by show ((2 * k + 1 : Nat) : Int) % 2 = 1; omega)]
      have : (((2 * k + 1 : Nat) : Int) / 2).toNat = k := by omega
      simp only [this]
      rw [List.getD_eq_getElem?_getD, show runs[k]? = some x.2 from hx]
      rfl
    rw [e1, e2]
    exact wStep_trs t runs r (k + 1) _ _ _ fun j y hy => by
      have := h (j + 1) y (by simpa using hy)
      rw [show k + 1 + j = k + (j + 1) by omega]; exact this
/-- the wait of a file -/
def lk (t : Tape) : Trs → Int → Int → Nat → Int → Option (Int × Int)
  | [], _, _, _, _ => none
  | x :: r, place, steps, k, i => if i ∈ x.2 then some (steps + aI (x.1.1 - place) + en t i - x.1.1, 2 * k + 1) else lk t r x.1.2 (steps + aI (x.1.1 - place) + aI (x.1.2 - x.1.1)) (k + 1) i
theorem wTr_len (t : Tape) : ∀ (trs : Trs) (fd : Fd) (place steps : Int) (k : Nat), (wTr t trs fd place steps k).length = fd.length
  | [], _, _, _, _ => rfl
  | x :: r, fd, place, steps, k => by rw [wTr, wTr_len, put_len]
theorem wTr_get (t : Tape) : ∀ (trs : Trs) (fd : Fd) (place steps : Int) (k : Nat), (∀ x, x ∈ trs → ∀ y, y ∈ x.2 → 0 ≤ y) → trs.Pairwise (fun a b => ∀ y, y ∈ a.2 → y ∉ b.2) → ∀ {i : Nat}, i < fd.length →
    (wTr t trs fd place steps k)[i]? = match lk t trs place steps k i with | some w => some (some w) | none => fd[i]?
  | [], _, _, _, _, _, _, _, _ => rfl
  | x :: r, fd, place, steps, k, h0, hp, i, hi => by
    rw [List.pairwise_cons] at hp
    rw [wTr, lk, wTr_get t r _ _ _ _ (fun y hy => h0 y (List.mem_cons_of_mem _ hy)) hp.2 (by rw [put_len]; exact hi), put_get _ _ _ _ _ (h0 x (List.mem_cons_self ..)) _ hi]
    by_cases e : (i : Int) ∈ x.2
    · have none_ : ∀ (r : Trs) (p s : Int) (k : Nat), (∀ y, y ∈ r → (i : Int) ∉ y.2) → lk t r p s k i = none := by
        intro r
        induction r with
        | nil => intros; rfl
        | cons y r ih => intro p s k h; rw [lk, if_neg (h y (List.mem_cons_self ..)), ih _ _ _ fun z hz => h z (List.mem_cons_of_mem _ hz)]
      rw [if_pos e, if_pos e, none_ _ _ _ _ fun y hy => hp.1 y hy _ e]
    · rw [if_neg e, if_neg e]
/-- the runs are apart -/
theorem fr_apart : ∀ {u : List Int} {row : List (Int × Int)}, (fr u row).Pairwise (fun a b => ∀ y, y ∈ a → y ∉ b)
  | _, [] => by simp [fr]
  | u, d :: r => by
    rw [fr, List.pairwise_cons]
    refine ⟨fun b hb y hy hyb => ?_, fr_apart⟩
    have h1 := (List.mem_filter.mp hy).2
    have h2 := (List.mem_filter.mp (fr_mem hb hyb)).2
    rw [h1] at h2
    cases h2
end Tp

set_option Elab.async false
set_option linter.all false
namespace Tp
/-! ### rows of equal files -/
def upI : Nat → List Int
  | 0 => []
  | n + 1 => upI n ++ [(n : Int)]
theorem mem_upI {n : Nat} {x : Int} : x ∈ upI n ↔ 0 ≤ x ∧ x < n := by
  induction n with
  | zero => simp [upI]; try omega
  | succ n ih => rw [upI, List.mem_append, ih]; simp; omega
theorem upI_asc (n : Nat) : (upI n).Pairwise (· < ·) := by
  induction n with
  | zero => simp [upI]
  | succ n ih =>
    rw [upI, List.pairwise_append]
    refine ⟨ih, by simp, fun a ha b hb => ?_⟩
    have := (mem_upI.mp ha).2
    simp at hb; omega
theorem upI_len (n : Nat) : (upI n).length = n := by
  induction n with
  | zero => rfl
  | succ n ih => rw [upI, List.length_append, ih]; rfl
theorem upI_range (n : Nat) : (List.range n).map (fun (i : Nat) => (i : Int)) = upI n := by
  induction n with
  | zero => rfl
  | succ n ih => rw [List.range_succ, List.map_append, ih]; rfl
theorem upI_cons (n : Nat) : upI (n + 1) = 0 :: (upI n).map (· + 1) := by
  induction n with
  | zero => rfl
  | succ n ih =>
    have e : (upI (n + 1)).map (· + 1) = (upI n).map (· + 1) ++ [((n + 1 : Nat) : Int)] := by
      rw [show upI (n + 1) = upI n ++ [(n : Int)] from rfl, List.map_append]; simp
    rw [e, show upI (n + 1 + 1) = upI (n + 1) ++ [((n + 1 : Nat) : Int)] from rfl, ih]
    rfl
def dnRow (l : Nat → Int) : Nat → List (Int × Int)
  | 0 => []
  | m + 1 => (((m + 1 : Nat) : Int), l (m + 1)) :: dnRow l m
def dnRuns : Nat → List (List Int)
  | 0 => [[0]]
  | m + 1 => [((m + 1 : Nat) : Int)] :: dnRuns m
theorem filter_top {m : Nat} {l : Int} (hl : (m : Int) ≤ l) : (upI (m + 1)).filter (inD (m : Int) l) = [(m : Int)] ∧ (upI (m + 1)).filter (fun x => !inD (m : Int) l x) = upI m := by
  have h1 : ∀ x, x ∈ upI m → inD (m : Int) l x = false := fun x hx => by
    have := (mem_upI.mp hx).2
    have : ¬ inD (m : Int) l x = true := by rw [inD_iff]; omega
    simpa using this
  have h2 : inD (m : Int) l m = true := by rw [inD_iff]; omega
  rw [upI, List.filter_append, List.filter_append]
  constructor
  · rw [List.filter_eq_nil_iff.mpr (fun x hx => by rw [h1 x hx]; simp)]
    simp [h2]
  · rw [List.filter_eq_self.mpr (fun x hx => by rw [h1 x hx]; rfl)]
    simp [h2]
theorem fr_dn (l : Nat → Int) : ∀ (m : Nat), (∀ j, j ≤ m → (j : Int) ≤ l j) → fr (upI (m + 1)) (dnRow l m) = dnRuns m
  | 0, _ => rfl
  | m + 1, h => by
    obtain ⟨h1, h2⟩ := filter_top (m := m + 1) (h (m + 1) (Nat.le_refl _))
    rw [dnRow, fr, dnRuns]
    show List.filter (inD ((m + 1 : Nat) : Int) (l (m + 1))) _ :: _ = _
    rw [h1]
    show _ :: fr (List.filter (fun x => !inD ((m + 1 : Nat) : Int) (l (m + 1)) x) _) _ = _
    rw [h2, fr_dn l m fun j hj => h j (by omega)]
theorem fr_one {n : Nat} : fr (upI (n + 2)) [(1, ((n + 1 : Nat) : Int))] = [(upI (n + 1)).map (· + 1), [0]] := by
  have e : upI (n + 2) = 0 :: (upI (n + 1)).map (· + 1) := upI_cons (n + 1)
  have h0 : inD 1 ((n + 1 : Nat) : Int) 0 = false := rfl
  have h1 : ∀ x, x ∈ (upI (n + 1)).map (· + 1) → inD 1 ((n + 1 : Nat) : Int) x = true := fun x hx => by
    obtain ⟨y, hy, e⟩ := List.mem_map.mp hx
    have := mem_upI.mp hy
    rw [inD_iff]; omega
  rw [fr, fr, e]
  show [List.filter (inD 1 ((n + 1 : Nat) : Int)) _, List.filter (fun x => !inD 1 ((n + 1 : Nat) : Int) x) _] = _
  rw [List.filter_cons_of_neg (by rw [h0]; simp), List.filter_cons_of_pos (by rw [h0]; rfl), List.filter_eq_self.mpr h1, List.filter_eq_nil_iff.mpr (fun x hx => by rw [h1 x hx]; simp)]
/-- files that are equal, in equal distances -/
structure Eqf (t : Tape) (n : Nat) (size apart front behind : Int) : Prop where
  b : ∀ i : Int, 0 ≤ i → i < n → bg t i = front + i * apart
  e : ∀ i : Int, 0 ≤ i → i < n → en t i = front + i * apart + size
  L : t.1 = front + ((n : Int) - 1) * apart + size + behind
  s0 : 0 < size
  a0 : size ≤ apart
  h0 : 0 ≤ behind
/-- what the head leads over: the detours with their runs, and the last way -/
def dnTrs (t : Tape) (l : Nat → Int) : Nat → Trs
  | 0 => [((bg t 0, en t 0), [0])]
  | m + 1 => ((bg t ((m + 1 : Nat) : Int), en t (l (m + 1))), [((m + 1 : Nat) : Int)]) :: dnTrs t l m
theorem aI_neg {x : Int} (h : x ≤ 0) : aI x = -x := by unfold aI; split <;> omega
theorem aI_pos {x : Int} (h : 0 ≤ x) : aI x = x := by unfold aI; split <;> omega
theorem lk_dn {t : Tape} {n : Nat} {size apart front behind : Int} (h : Eqf t n size apart front behind) (l : Nat → Int) (Sf : Nat → Int) (hl : ∀ j : Nat, 0 < j → j < n → (j : Int) ≤ l j ∧ l j < n) (hS : ∀ k m : Nat, k + m + 2 = n → Sf (k + 1) = Sf k + (en t (l (m + 1)) - bg t ((m + 1 : Nat) : Int)) + (en t (l (m + 1)) - bg t (m : Int))) :
    ∀ (m k : Nat) (place steps : Int), k + m + 1 = n → steps + aI (bg t (m : Int) - place) = Sf k → ∀ i : Nat, i ≤ m → lk t (dnTrs t l m) place steps k (i : Int) = some (Sf (n - 1 - i) + size, 2 * ((n : Int) - 1 - i) + 1)
  | 0, k, place, steps, hk, hs, i, hi => by
    have e : i = 0 := by omega
    subst e
    have hs' : steps + aI (bg t 0 - place) = Sf k := hs
    rw [dnTrs, lk, if_pos (by simp), hs']
    have z : (k : Int) = (n : Int) - 1 := by omega
    rw [show n - 1 - 0 = k by omega]
    show some (Sf k + en t ((0 : Nat) : Int) - bg t 0, 2 * (k : Int) + 1) = _
    rw [h.b 0 (by omega) (by omega), h.e _ (by omega) (by omega), z]
    congr 2 <;> (simp; try omega)
  | m + 1, k, place, steps, hk, hs, i, hi => by
    rw [dnTrs, lk]
    by_cases e : i = m + 1
    · subst e
      dsimp only
      rw [if_pos (by simp), hs, h.b _ (by omega) (by omega), h.e _ (by omega) (by omega)]
      have z : (k : Int) = (n : Int) - 1 - ((m + 1 : Nat) : Int) := by omega
      rw [show n - 1 - (m + 1) = k by omega, z]
      congr 2
      omega
    · rw [if_neg (by simp; omega)]
      have bm : bg t (m : Int) = front + (m : Int) * apart := h.b _ (by omega) (by omega)
      have bm1 : bg t ((m + 1 : Nat) : Int) = front + ((m + 1 : Nat) : Int) * apart := h.b _ (by omega) (by omega)
      obtain ⟨l0, l1⟩ := hl (m + 1) (by omega) (by omega)
      have el : en t (l (m + 1)) = front + l (m + 1) * apart + size := h.e _ (by omega) l1
      have hs0 := h.s0
      have ha0 := h.a0
      have mono : ((m + 1 : Nat) : Int) * apart ≤ l (m + 1) * apart := Int.mul_le_mul_of_nonneg_right l0 (by omega)
      have mono2 : (m : Int) * apart ≤ ((m + 1 : Nat) : Int) * apart := Int.mul_le_mul_of_nonneg_right (by omega) (by omega)
      refine lk_dn h l Sf hl hS m (k + 1) _ _ (by omega) ?_ i (by omega)
      dsimp only
      have x1 : aI (bg t (m : Int) - en t (l (m + 1))) = -(bg t (m : Int) - en t (l (m + 1))) := aI_neg (by rw [bm, el]; omega)
      have x2 : aI (en t (l (m + 1)) - bg t ((m + 1 : Nat) : Int)) = en t (l (m + 1)) - bg t ((m + 1 : Nat) : Int) := aI_pos (by rw [bm1, el]; omega)
      rw [hs, hS k m (by omega), x1, x2]
      omega
end Tp

set_option Elab.async false
set_option linter.all false
namespace Tp
/-! ### fractions -/
def low (x y : Int) : Int × Int := (x / (Int.gcd x y : Int), y / (Int.gcd x y : Int))
def lessF (p q : Int × Int) : Bool := decide (p.1 * q.2 < q.1 * p.2)
theorem gcd_pos {x y : Int} (h : 0 < y) : (0 : Int) < (Int.gcd x y : Int) := by
  have := Int.gcd_pos_of_ne_zero_right x (b := y) (by omega)
  omega
theorem low_x {x y : Int} : (low x y).1 * (Int.gcd x y : Int) = x := Int.ediv_mul_cancel (Int.gcd_dvd_left ..)
theorem low_y {x y : Int} : (low x y).2 * (Int.gcd x y : Int) = y := Int.ediv_mul_cancel (Int.gcd_dvd_right ..)
theorem low_pos {x y : Int} (h : 0 < y) : 0 < (low x y).2 := by
  have h1 := low_y (x := x) (y := y)
  have h2 := gcd_pos (x := x) h
  exact Int.pos_of_mul_pos_left (by rw [h1]; exact h) h2
theorem low_less {x x' y : Int} (h : 0 < y) : lessF (low x y) (low x' y) = decide (x < x') := by
  have g1 := gcd_pos (x := x) h
  have g2 := gcd_pos (x := x') h
  have a1 := low_x (x := x) (y := y)
  have a2 := low_y (x := x) (y := y)
  have b1 := low_x (x := x') (y := y)
  have b2 := low_y (x := x') (y := y)
  unfold lessF
  generalize low x y = p at *
  generalize low x' y = q at *
  generalize (Int.gcd x y : Int) = g at *
  generalize (Int.gcd x' y : Int) = g' at *
  have hg : 0 < g * g' := Int.mul_pos g1 g2
  have e1 : (p.1 * q.2) * (g * g') = x * y := by rw [← a1, ← b2]; simp only [Int.mul_assoc, Int.mul_comm, Int.mul_left_comm]
  have e2 : (q.1 * p.2) * (g * g') = x' * y := by rw [← b1, ← a2]; simp only [Int.mul_assoc, Int.mul_comm, Int.mul_left_comm]
  have : (p.1 * q.2 < q.1 * p.2) ↔ x < x' := by
    constructor
    · intro z
      have := Int.mul_lt_mul_of_pos_right z hg
      rw [e1, e2] at this
      exact Int.lt_of_mul_lt_mul_right this (by omega)
    · intro z
      have := Int.mul_lt_mul_of_pos_right z h
      rw [← e1, ← e2] at this
      exact Int.lt_of_mul_lt_mul_right this (by omega)
  exact decide_eq_decide.mpr this
theorem low_zero {y : Int} (h : 0 < y) : low 0 y = (0, 1) := by
  unfold low
  rw [Int.gcd_zero_left]
  have e : (y.natAbs : Int) = y := Int.natAbs_of_nonneg (by omega)
  rw [e]
  congr 1
  · simp
  · exact Int.ediv_self (by omega)
/-- the number above of what a wait comes to -/
def numr (c : Int × Int) (w : Int × Int) : Int := w.1 * c.2 + w.2 * c.1
def worthL (w c : Int × Int) : Int × Int := low (numr c w) c.2
def maxL (xs : List Int) : Int := xs.foldl (fun m x => if m < x then x else m) 0
def longL (ws : Fd) (c : Int × Int) : Int × Int := ws.foldl (fun m w => match w with
  | some w => if lessF m (worthL w c) = true then worthL w c else m
  | none => m) (0, 1)
theorem longL_eq {c : Int × Int} (h : 0 < c.2) (ws : Fd) : longL ws c = low (maxL ((ws.filterMap id).map (numr c))) c.2 := by
  have main : ∀ (ws : Fd) (m : Int), ws.foldl (fun m w => match w with | some w => if lessF m (worthL w c) = true then worthL w c else m | none => m) (low m c.2) = low (((ws.filterMap id).map (numr c)).foldl (fun m x => if m < x then x else m) m) c.2 := by
    intro ws
    induction ws with
    | nil => intro m; rfl
    | cons w ws ih =>
      intro m
      cases w with
      | none => rw [List.foldl_cons]; exact ih m
      | some w =>
        rw [List.foldl_cons]
        show List.foldl _ (if lessF (low m c.2) (worthL w c) = true then worthL w c else low m c.2) ws = _
        have e : (if lessF (low m c.2) (worthL w c) = true then worthL w c else low m c.2) = low (if m < numr c w then numr c w else m) c.2 := by
          unfold worthL
          rw [low_less h]
          by_cases z : m < numr c w
          · simp [z]
          · simp [z]
        rw [e, ih]
        rfl
  have := main ws 0
  rw [low_zero h] at this
  exact this
theorem maxL_top {xs : List Int} {m : Int} (hm : m ∈ xs) (h0 : 0 ≤ m) (h : ∀ x, x ∈ xs → x ≤ m) : maxL xs = m := by
  have main : ∀ (xs : List Int) (a : Int), a ≤ m → (∀ x, x ∈ xs → x ≤ m) → (a = m ∨ m ∈ xs) → xs.foldl (fun m x => if m < x then x else m) a = m := by
    intro xs
    induction xs with
    | nil => intro a _ _ h; rcases h with h | h; exact h; cases h
    | cons x xs ih =>
      intro a ha hx h
      have h1 := hx x (List.mem_cons_self ..)
      rw [List.foldl_cons]
      refine ih _ (by split <;> omega) (fun y hy => hx y (List.mem_cons_of_mem _ hy)) ?_
      rcases h with h | h
      · left; split <;> omega
      · rcases List.mem_cons.mp h with h | h
        · left; split <;> omega
        · exact .inr h
  exact main xs 0 h0 h (.inr hm)
def totL (asks : List Int) (ws : Fd) : Int × Int := (asks.zip ws).foldl (fun l x => match x.2 with
  | some w => (l.1 + x.1 * w.1, l.2 + x.1 * w.2)
  | none => l) (0, 0)
theorem totL_eq (c : Int) (ks : List (Int × Int)) : totL (ks.map fun _ => c) (ks.map some) = (c * (ks.map (·.1)).sum, c * (ks.map (·.2)).sum) := by
  have main : ∀ (ks : List (Int × Int)) (a b : Int), ((ks.map fun _ => c).zip (ks.map some)).foldl (fun (l : Int × Int) (x : Int × Option (Int × Int)) => match x.2 with | some w => (l.1 + x.1 * w.1, l.2 + x.1 * w.2) | none => l) (a, b) = (a + c * (ks.map (·.1)).sum, b + c * (ks.map (·.2)).sum) := by
    intro ks
    induction ks with
    | nil => intro a b; simp
    | cons k ks ih =>
      intro a b
      simp only [List.map_cons, List.zip_cons_cons, List.foldl_cons, List.sum_cons]
      rw [ih]
      simp only [Int.mul_add, Int.add_assoc]
  have := main ks 0 0
  simp only [Int.zero_add] at this
  exact this
end Tp

set_option Elab.async false
set_option linter.all false
namespace Tp
/-! ### the four kinds of rows over equal files -/
def kindRow (mode n : Nat) : List (Int × Int) := match mode with
  | 0 => []
  | 1 => dnRow (fun m => (m : Int)) (n - 1)
  | 2 => if 1 < n then [(1, (n : Int) - 1)] else []
  | _ => dnRow (fun _ => (n : Int) - 1) (n - 1)
def kw (mode n : Nat) (size apart behind i : Int) : Int × Int :=
  if mode = 0 ∨ n = 1 then (((n : Int) - 1) * apart + size + behind + i * apart + size, 1)
  else if mode = 1 then (behind + 2 * size + ((n : Int) - 1 - i) * (2 * size + apart), 2 * ((n : Int) - 1 - i) + 1)
  else if mode = 2 then (if i = 0 then (behind + 3 * (((n : Int) - 1) * apart + size) - 2 * apart + size, 3) else (behind + (((n : Int) - 1) * apart + size) - apart + (i - 1) * apart + size, 1))
  else (behind + 2 * size + 2 * size * ((n : Int) - 1 - i) + apart * ((n : Int) - 1 - i) * ((n : Int) - 1 - i), 2 * ((n : Int) - 1 - i) + 1)
/-- detours and runs -/
def trsG (t : Tape) (row : List (Int × Int)) (a z : Int) (runs : List (List Int)) : Trs := (row.map (fun d => (bg t d.1, en t d.2)) ++ [(bg t a, en t z)]).zip runs
theorem trsG_dn (t : Tape) (l : Nat → Int) : ∀ m, trsG t (dnRow l m) 0 0 (dnRuns m) = dnTrs t l m
  | 0 => rfl
  | m + 1 => by
    have := trsG_dn t l m
    unfold trsG at this ⊢
    simp only [dnRow, dnRuns, dnTrs, List.map_cons, List.cons_append, List.zip_cons_cons]
    rw [this]
def lastZ (mode n : Nat) : Int := if mode = 0 ∨ n = 1 then (n : Int) - 1 else 0
def kindRuns (mode n : Nat) : List (List Int) := if mode = 0 ∨ n = 1 then [upI n] else if mode = 2 then [(upI (n - 1)).map (· + 1), [0]] else dnRuns (n - 1)
theorem fr_kind {mode n : Nat} (hm : mode < 4) (hn : 0 < n) : fr (upI n) (kindRow mode n) = kindRuns mode n := by
  unfold kindRuns
  match mode, hm with
  | 0, _ => simp [kindRow, fr]
  | 1, _ =>
    obtain ⟨m, rfl⟩ : ∃ m, n = m + 1 := ⟨n - 1, by omega⟩
    rw [show kindRow 1 (m + 1) = dnRow (fun m => (m : Int)) m from rfl, fr_dn _ m (fun j _ => Int.le_refl _)]
    cases m with
    | zero => rfl
    | succ m => simp
  | 2, _ =>
    match n, hn with
    | 1, _ => simp [kindRow, fr]
    | n + 2, _ =>
      have := fr_one (n := n)
      have e : kindRow 2 (n + 2) = [(1, ((n + 1 : Nat) : Int))] := by
        unfold kindRow
        simp only
        rw [if_pos (by omega)]
        congr 2
        omega
      rw [e, this]
      simp
  | 3, _ =>
    obtain ⟨m, rfl⟩ : ∃ m, n = m + 1 := ⟨n - 1, by omega⟩
    rw [show kindRow 3 (m + 1) = dnRow (fun _ => ((m + 1 : Nat) : Int) - 1) m from rfl, fr_dn _ m (fun j hj => by omega)]
    cases m with
    | zero => rfl
    | succ m => simp
theorem lk_kind {t : Tape} {mode n : Nat} {size apart front behind : Int} (h : Eqf t n size apart front behind) (hm : mode < 4) (hn : 0 < n) {i : Nat} (hi : i < n) :
    lk t (trsG t (kindRow mode n) 0 (lastZ mode n) (kindRuns mode n)) t.1 0 0 i = some (kw mode n size apart behind i) := by
  have hs0 := h.s0
  have ha0 := h.a0
  have hh0 := h.h0
  have hL := h.L
  have apart0 : 0 ≤ apart := by omega
  have bi : ∀ j : Nat, j < n → bg t (j : Int) = front + (j : Int) * apart := fun j hj => h.b j (by omega) (by omega)
  have ei : ∀ j : Nat, j < n → en t (j : Int) = front + (j : Int) * apart + size := fun j hj => h.e j (by omega) (by omega)
  have b0 : bg t 0 = front := by have := bi 0 hn; simpa using this
  have e0 : en t 0 = front + size := by have := ei 0 hn; simpa using this
  have pn : 0 ≤ ((n : Int) - 1) * apart := Int.mul_nonneg (by omega) apart0
  have straight : lk t (trsG t [] 0 ((n : Int) - 1) [upI n]) t.1 0 0 i = some (((n : Int) - 1) * apart + size + behind + i * apart + size, 1) := by
    show lk t [((bg t 0, en t ((n : Int) - 1)), upI n)] t.1 0 0 i = _
    rw [lk, if_pos (mem_upI.mpr ⟨by omega, by omega⟩)]
    dsimp only
    rw [b0, ei i hi, hL, aI_neg (by omega)]
    congr 2
    · omega
  by_cases h1 : mode = 0 ∨ n = 1
  · have er : kindRow mode n = [] := by
      rcases h1 with h1 | h1
      · subst h1; rfl
      · subst h1
        match mode, hm with
        | 0, _ => rfl
        | 1, _ => rfl
        | 2, _ => rfl
        | 3, _ => rfl
    unfold kw lastZ kindRuns
    rw [if_pos h1, if_pos h1, if_pos h1, er]
    exact straight
  · have h0 : mode ≠ 0 := fun e => h1 (.inl e)
    have hn2 : 2 ≤ n := by
      have : n ≠ 1 := fun e => h1 (.inr e)
      omega
    obtain ⟨m, rfl⟩ : ∃ m, n = m + 1 := ⟨n - 1, by omega⟩
    unfold kw lastZ kindRuns
    rw [if_neg h1, if_neg h1, if_neg h1]
    have cast_ : ∀ k : Nat, ((m + 1 - 1 - i : Nat) : Int) = ((m + 1 : Nat) : Int) - 1 - i := fun _ => by omega
    match mode, hm, h0 with
    | 1, _, _ =>
      rw [if_neg (by decide), if_pos rfl, show m + 1 - 1 = m from rfl, show kindRow 1 (m + 1) = dnRow (fun m => (m : Int)) m from rfl, trsG_dn]
      rw [lk_dn h (fun m => (m : Int)) (fun k => behind + size + (k : Int) * (2 * size + apart)) (fun j _ hj => ⟨Int.le_refl _, by omega⟩) ?_ m 0 _ _ (by omega) ?_ i (by omega)]
      · rw [cast_ 0]
        congr 2
        omega
      · intro k q hk
        rw [ei _ (by omega), bi _ (by omega), bi _ (by omega)]
        simp only [Int.natCast_add, Int.natCast_one, Int.add_mul, Int.one_mul, Int.mul_add]
        omega
      · rw [bi m (by omega), hL]
        have : ((m + 1 : Nat) : Int) - 1 = m := by omega
        rw [this, aI_neg (by omega)]
        simp
        omega
    | 2, _, _ =>
      rw [if_pos rfl, if_neg (by decide), if_pos rfl]
      have er : kindRow 2 (m + 1) = [(1, (m : Int))] := by
        unfold kindRow
        simp only
        rw [if_pos (by omega)]
        congr 2
        omega
      rw [er, show m + 1 - 1 = m from rfl]
      show lk t [((bg t 1, en t (m : Int)), (upI m).map (· + 1)), ((bg t 0, en t 0), [0])] t.1 0 0 i = _
      have b1 : bg t 1 = front + apart := by have := bi 1 (by omega); simpa using this
      have em := ei m (by omega)
      have e1 : ((m + 1 : Nat) : Int) - 1 = m := by omega
      have pm : apart ≤ (m : Int) * apart := by
        have : (1 : Int) * apart ≤ (m : Int) * apart := Int.mul_le_mul_of_nonneg_right (by omega) apart0
        omega
      rw [e1] at hL
      rw [lk]
      by_cases hi0 : i = 0
      · subst hi0
        have nm : ¬ ((0 : Nat) : Int) ∈ (upI m).map (· + 1) := by
          intro z
          obtain ⟨y, hy, e⟩ := List.mem_map.mp z
          have := mem_upI.mp hy
          omega
        rw [if_neg nm, lk, if_pos (by simp), if_pos (show ((0 : Nat) : Int) = 0 from rfl)]
        dsimp only
        rw [b1, em, b0, hL, aI_neg (by omega), aI_pos (by omega), aI_neg (by omega), e1]
        show some (_ + en t 0 - _, _) = _
        rw [e0]
        congr 2
        omega
      · have nm : (i : Int) ∈ (upI m).map (· + 1) := List.mem_map.mpr ⟨(i : Int) - 1, mem_upI.mpr ⟨by omega, by omega⟩, by omega⟩
        rw [if_pos nm, if_neg (by omega)]
        dsimp only
        rw [b1, hL, aI_neg (by omega), ei i hi, e1]
        simp only [Int.sub_mul, Int.one_mul]
        congr 2
        omega
    | 3, _, _ =>
      rw [if_neg (by decide), if_neg (by decide), if_neg (by decide), show m + 1 - 1 = m from rfl, show kindRow 3 (m + 1) = dnRow (fun _ => ((m + 1 : Nat) : Int) - 1) m from rfl, trsG_dn]
      rw [lk_dn h (fun _ => ((m + 1 : Nat) : Int) - 1) (fun k => behind + size + 2 * size * (k : Int) + apart * (k : Int) * (k : Int)) (fun j _ hj => ⟨by omega, by omega⟩) ?_ m 0 _ _ (by omega) ?_ i (by omega)]
      · rw [cast_ 0]
        congr 2
        omega
      · intro k q hk
        have e1 : ((m + 1 : Nat) : Int) - 1 = ((m : Nat) : Int) := by omega
        rw [e1, ei _ (by omega), bi _ (by omega), bi _ (by omega)]
        have e2 : m = k + q + 1 := by omega
        subst e2
        simp only [Int.natCast_add, Int.natCast_one, Int.add_mul, Int.one_mul, Int.mul_add, Int.mul_one, Int.mul_comm, Int.mul_left_comm]
        omega
      · rw [bi m (by omega), hL]
        have : ((m + 1 : Nat) : Int) - 1 = m := by omega
        rw [this, aI_neg (by omega)]
        simp
        omega
end Tp

set_option Elab.async false
set_option linter.all false
namespace Tp
theorem kw_le {mode n : Nat} {size apart behind : Int} (hm : mode < 4) (hn : 0 < n) (hs : 0 < size) (ha : size ≤ apart) {i : Nat} (hi : i < n) :
    (kw mode n size apart behind i).1 ≤ (kw mode n size apart behind (lastZ mode n)).1 ∧ (kw mode n size apart behind i).2 ≤ (kw mode n size apart behind (lastZ mode n)).2 := by
  have apart0 : 0 ≤ apart := by omega
  unfold kw lastZ
  by_cases h1 : mode = 0 ∨ n = 1
  · rw [if_pos h1, if_pos h1]
    have : (i : Int) * apart ≤ ((n : Int) - 1) * apart := Int.mul_le_mul_of_nonneg_right (by omega) apart0
    simp only [if_pos h1]
    omega
  · rw [if_neg h1, if_neg h1]
    simp only [if_neg h1]
    by_cases h2 : mode = 1
    · simp only [if_pos h2]
      have : ((n : Int) - 1 - i) * (2 * size + apart) ≤ ((n : Int) - 1 - 0) * (2 * size + apart) := Int.mul_le_mul_of_nonneg_right (by omega) (by omega)
      omega
    · simp only [if_neg h2]
      by_cases h3 : mode = 2
      · simp only [if_pos h3, if_true]
        by_cases h4 : (i : Int) = 0
        · rw [if_pos h4]; omega
        · rw [if_neg h4]
          have p1 : ((i : Int) - 1) * apart ≤ ((n : Int) - 1) * apart := Int.mul_le_mul_of_nonneg_right (by omega) apart0
          have p2 : (1 : Int) * apart ≤ ((n : Int) - 1) * apart := Int.mul_le_mul_of_nonneg_right (by omega) apart0
          omega
      · simp only [if_neg h3]
        have p1 : size * ((n : Int) - 1 - i) ≤ size * ((n : Int) - 1 - 0) := Int.mul_le_mul_of_nonneg_left (by omega) (by omega)
        have p2 : apart * ((n : Int) - 1 - i) ≤ apart * ((n : Int) - 1 - 0) := Int.mul_le_mul_of_nonneg_left (by omega) (by omega)
        have p0 : 0 ≤ apart * ((n : Int) - 1 - i) := Int.mul_nonneg (by omega) (by omega)
        have p3 : apart * ((n : Int) - 1 - i) * ((n : Int) - 1 - i) ≤ apart * ((n : Int) - 1 - 0) * ((n : Int) - 1 - 0) := Int.mul_le_mul p2 (by omega) (by omega) (by omega)
        have q1 : 2 * size * ((n : Int) - 1 - i) = 2 * (size * ((n : Int) - 1 - i)) := Int.mul_assoc ..
        have q2 : 2 * size * ((n : Int) - 1 - 0) = 2 * (size * ((n : Int) - 1 - 0)) := Int.mul_assoc ..
        rw [q1, q2]
        omega
theorem kw_pos {mode n : Nat} {size apart behind : Int} (hn : 0 < n) (hs : 0 < size) (ha : size ≤ apart) (hb : 0 ≤ behind) {i : Nat} (hi : i < n) :
    0 ≤ (kw mode n size apart behind i).1 ∧ 0 ≤ (kw mode n size apart behind i).2 := by
  have apart0 : 0 ≤ apart := by omega
  have p0 : 0 ≤ ((n : Int) - 1) * apart := Int.mul_nonneg (by omega) apart0
  unfold kw
  split
  · have : 0 ≤ (i : Int) * apart := Int.mul_nonneg (by omega) apart0
    omega
  · split
    · have : 0 ≤ ((n : Int) - 1 - i) * (2 * size + apart) := Int.mul_nonneg (by omega) (by omega)
      omega
    · split
      · have p1 : (1 : Int) * apart ≤ ((n : Int) - 1) * apart := Int.mul_le_mul_of_nonneg_right (by omega) apart0
        split
        · omega
        · have : 0 ≤ ((i : Int) - 1) * apart := Int.mul_nonneg (by omega) apart0
          omega
      · have p0 : 0 ≤ apart * ((n : Int) - 1 - i) := Int.mul_nonneg (by omega) (by omega)
        have p3 : 0 ≤ apart * ((n : Int) - 1 - i) * ((n : Int) - 1 - i) := Int.mul_nonneg p0 (by omega)
        have p4 : 0 ≤ 2 * size * ((n : Int) - 1 - i) := Int.mul_nonneg (by omega) (by omega)
        omega
/-- the last file of a list -/
def lastI (xs : List Int) : Int := xs.getLast?.getD 0
theorem lastI_up (n : Nat) : lastI (upI (n + 1)) = n := by
  unfold lastI
  rw [show upI (n + 1) = upI n ++ [(n : Int)] from rfl]
  simp
def lastR (runs : List (List Int)) : List Int := runs.getLast?.getD []
theorem dnRuns_last : ∀ m, lastR (dnRuns m) = [0]
  | 0 => rfl
  | m + 1 => by
    have := dnRuns_last m
    unfold lastR at this ⊢
    rw [dnRuns, List.getLast?_cons]
    cases e : (dnRuns m).getLast? with
    | none => cases m <;> simp [dnRuns] at e
    | some x => rw [e] at this; simpa using this
theorem kind_last {mode n : Nat} (hn : 0 < n) : lastI (lastR (kindRuns mode n)) = lastZ mode n := by
  unfold kindRuns lastZ
  obtain ⟨m, rfl⟩ : ∃ m, n = m + 1 := ⟨n - 1, by omega⟩
  split
  · show lastI (upI (m + 1)) = _
    rw [lastI_up]; omega
  · split
    · rfl
    · rw [dnRuns_last]; rfl
/-- trimmed, order -/
def trimL (runs : List (List Int)) (k : Nat) : List (Int × Int) := (runs.take k).map fun r => (r.headD 0, lastI r)
theorem dnRow_len (l : Nat → Int) : ∀ m, (dnRow l m).length = m
  | 0 => rfl
  | m + 1 => by rw [dnRow, List.length_cons, dnRow_len]
theorem trim_dn : ∀ m, trimL (dnRuns m) m = dnRow (fun m => (m : Int)) m
  | 0 => rfl
  | m + 1 => by
    have := trim_dn m
    unfold trimL at this ⊢
    rw [dnRuns, dnRow, List.take_succ_cons, List.map_cons, this]
    rfl
theorem trim_kind {mode n : Nat} (hm : mode < 4) (hn : 0 < n) : trimL (kindRuns mode n) (kindRow mode n).length = kindRow (if mode = 3 then 1 else mode) n := by
  obtain ⟨m, rfl⟩ : ∃ m, n = m + 1 := ⟨n - 1, by omega⟩
  unfold kindRuns
  match mode, hm with
  | 0, _ => rfl
  | 1, _ =>
    cases m with
    | zero => rfl
    | succ m =>
      rw [if_neg (by simp), if_neg (by decide), if_neg (by decide), show kindRow 1 (m + 1 + 1) = dnRow (fun m => (m : Int)) (m + 1) from rfl, dnRow_len]
      exact trim_dn (m + 1)
  | 2, _ =>
    cases m with
    | zero => rfl
    | succ m =>
      have er : kindRow 2 (m + 1 + 1) = [(1, ((m + 1 : Nat) : Int))] := by
        unfold kindRow
        simp only
        rw [if_pos (by omega)]
        congr 2
        omega
      rw [if_neg (by simp), if_pos rfl, if_neg (by decide), er]
      show [(((upI (m + 1)).map (· + 1)).headD 0, lastI ((upI (m + 1)).map (· + 1)))] = _
      have e1 : ((upI (m + 1)).map (· + 1)).headD 0 = 1 := by rw [upI_cons]; rfl
      have e2 : lastI ((upI (m + 1)).map (· + 1)) = ((m + 1 : Nat) : Int) := by
        unfold lastI
        rw [show upI (m + 1) = upI m ++ [(m : Int)] from rfl, List.map_append]
        simp
      rw [e1, e2]
  | 3, _ =>
    cases m with
    | zero => rfl
    | succ m =>
      rw [if_neg (by simp), if_neg (by decide), if_pos rfl, show kindRow 3 (m + 1 + 1) = dnRow (fun _ => ((m + 1 + 1 : Nat) : Int) - 1) (m + 1) from rfl, dnRow_len]
      exact trim_dn (m + 1)
def dnI : Nat → List Int
  | 0 => [0]
  | m + 1 => ((m + 1 : Nat) : Int) :: dnI m
theorem flat_dn : ∀ m, (dnRuns m).flatten = dnI m
  | 0 => rfl
  | m + 1 => by rw [dnRuns, List.flatten_cons, flat_dn]; rfl
def kindOrd (mode n : Nat) : List Int := if mode = 2 then (upI (n - 1)).map (· + 1) ++ [0] else if mode = 1 ∨ mode = 3 then dnI (n - 1) else upI n
theorem ord_kind {mode n : Nat} (hm : mode < 4) (hn : 0 < n) : (kindRuns mode n).flatten = kindOrd mode n := by
  obtain ⟨m, rfl⟩ : ∃ m, n = m + 1 := ⟨n - 1, by omega⟩
  unfold kindRuns kindOrd
  match mode, hm with
  | 0, _ => simp
  | 1, _ =>
    cases m with
    | zero => rfl
    | succ m => simp [flat_dn]
  | 2, _ =>
    cases m with
    | zero => rfl
    | succ m => simp
  | 3, _ =>
    cases m with
    | zero => rfl
    | succ m => simp [flat_dn]
end Tp

set_option Elab.async false
set_option linter.all false
namespace Tp
/-! ### files that lie on a tape -/
def FOk (L : Int) : Int → List (Int × Int) → Prop
  | _, [] => True
  | e, d :: r => e ≤ d.1 ∧ d.1 < d.2 ∧ d.2 ≤ L ∧ FOk L d.2 r
theorem fok_iff {L : Int} : ∀ {fs : List (Int × Int)} {e : Int}, FOk L e fs ↔ (∀ d, d ∈ fs → e ≤ d.1 ∧ d.1 < d.2 ∧ d.2 ≤ L) ∧ fs.Pairwise (fun a b => a.2 ≤ b.1)
  | [], e => by simp [FOk]
  | d :: r, e => by
    rw [FOk, fok_iff, List.pairwise_cons]
    constructor
    · rintro ⟨a, b, c, h, p⟩
      refine ⟨fun x hx => ?_, fun x hx => (h x hx).1, p⟩
      rcases List.mem_cons.mp hx with hx | hx
      · subst hx; exact ⟨a, b, c⟩
      · have := h x hx; omega
    · rintro ⟨h, q, p⟩
      obtain ⟨a, b, c⟩ := h d (List.mem_cons_self ..)
      exact ⟨a, b, c, fun x hx => ⟨q x hx, (h x (List.mem_cons_of_mem _ hx)).2⟩, p⟩
theorem fok_mono {L L' : Int} (h : L ≤ L') {fs : List (Int × Int)} {e : Int} (k : FOk L e fs) : FOk L' e fs := by
  rw [fok_iff] at k ⊢
  exact ⟨fun d hd => by have := k.1 d hd; omega, k.2⟩
theorem fok_snoc {M L : Int} {d : Int × Int} {fs : List (Int × Int)} {e : Int} (h1 : M ≤ d.1) (h2 : d.1 < d.2) (h3 : d.2 ≤ L) (he : e ≤ d.1) (k : FOk M e fs) : FOk L e (fs ++ [d]) := by
  rw [fok_iff] at k ⊢
  refine ⟨fun x hx => ?_, ?_⟩
  · rcases List.mem_append.mp hx with hx | hx
    · have := k.1 x hx; omega
    · rw [List.mem_singleton] at hx; subst hx; exact ⟨he, h2, h3⟩
  · rw [List.pairwise_append]
    refine ⟨k.2, by simp, fun a ha b hb => ?_⟩
    rw [List.mem_singleton] at hb
    subst hb
    have := k.1 a ha
    omega
/-- seen from the other side -/
def mirF (L : Int) (fs : List (Int × Int)) : List (Int × Int) := fs.reverse.map fun d => (L - d.2, L - d.1)
theorem fok_mir {L : Int} {fs : List (Int × Int)} (h : FOk L 0 fs) : FOk L 0 (mirF L fs) := by
  rw [fok_iff] at h ⊢
  refine ⟨fun d hd => ?_, ?_⟩
  · obtain ⟨x, hx, e⟩ := List.mem_map.mp hd
    subst e
    have := h.1 x (List.mem_reverse.mp hx)
    dsimp only
    omega
  · unfold mirF
    rw [List.pairwise_map, List.pairwise_reverse]
    exact h.2.imp fun {a b} q => by dsimp only; omega
theorem mir_mir (L : Int) (fs : List (Int × Int)) : mirF L (mirF L fs) = fs := by
  unfold mirF
  rw [← List.map_reverse, List.reverse_reverse, List.map_map]
  have : ((fun d : Int × Int => (L - d.2, L - d.1)) ∘ fun d => (L - d.2, L - d.1)) = id := by
    funext d
    simp only [Function.comp, id]
    ext <;> dsimp only <;> omega
  rw [this, List.map_id]
theorem mir_len (L : Int) (fs : List (Int × Int)) : (mirF L fs).length = fs.length := by simp [mirF]
/-- a file put between -/
def lowAt (fs : List (Int × Int)) (k : Nat) : Int := (0 :: fs.map (·.2)).getD k 0
def highAt (L : Int) (fs : List (Int × Int)) (k : Nat) : Int := (fs.map (·.1) ++ [L]).getD k 0
theorem fok_ins {L : Int} {fs : List (Int × Int)} (h : FOk L 0 fs) (hL : 0 ≤ L) {k : Nat} (hk : k ≤ fs.length) (hg : lowAt fs k < highAt L fs k) : FOk L 0 (fs.take k ++ [(lowAt fs k, highAt L fs k)] ++ fs.drop k) := by
  have h' := fok_iff.mp h
  have lo : ∀ d, d ∈ fs.take k → d.2 ≤ lowAt fs k := by
    intro d hd
    obtain ⟨i, hi, e⟩ := List.mem_iff_getElem.mp hd
    rw [List.length_take] at hi
    have hi2 : i < k := by omega
    rw [List.getElem_take] at e
    subst e
    unfold lowAt
    obtain ⟨j, rfl⟩ : ∃ j, k = j + 1 := ⟨k - 1, by omega⟩
    rw [List.getD_cons_succ, List.getD_eq_getElem?_getD, List.getElem?_map, List.getElem?_eq_getElem (by omega)]
    show fs[i].2 ≤ fs[j].2
    by_cases e : i = j
    · subst e; exact Int.le_refl _
    · have p := List.pairwise_iff_getElem.mp h'.2 i j (by omega) (by omega) (by omega)
      have := (h'.1 fs[j] (List.getElem_mem _)).2.1
      omega
  have hi : ∀ d, d ∈ fs.drop k → highAt L fs k ≤ d.1 := by
    intro d hd
    obtain ⟨i, hi, e⟩ := List.mem_iff_getElem.mp hd
    rw [List.length_drop] at hi
    rw [List.getElem_drop] at e
    subst e
    unfold highAt
    rw [List.getD_eq_getElem?_getD, List.getElem?_append_left (by simp; omega), List.getElem?_map, List.getElem?_eq_getElem (by omega)]
    show fs[k].1 ≤ fs[k + i].1
    by_cases e : i = 0
    · subst e; exact Int.le_refl _
    · have p := List.pairwise_iff_getElem.mp h'.2 k (k + i) (by omega) (by omega) (by omega)
      have := (h'.1 fs[k] (List.getElem_mem _)).2.1
      omega
  have l0 : 0 ≤ lowAt fs k := by
    unfold lowAt
    cases k with
    | zero => simp
    | succ j =>
      rw [List.getD_cons_succ, List.getD_eq_getElem?_getD, List.getElem?_map, List.getElem?_eq_getElem (by omega)]
      have := h'.1 fs[j] (List.getElem_mem _)
      show 0 ≤ fs[j].2
      omega
  have hl : highAt L fs k ≤ L := by
    unfold highAt
    by_cases e : k < fs.length
    · rw [List.getD_eq_getElem?_getD, List.getElem?_append_left (by simp; omega), List.getElem?_map, List.getElem?_eq_getElem e]
      have := h'.1 fs[k] (List.getElem_mem _)
      show fs[k].1 ≤ L
      omega
    · have : k = fs.length := by omega
      subst this
      rw [List.getD_eq_getElem?_getD, List.getElem?_append_right (by simp)]
      simp
  rw [fok_iff]
  refine ⟨fun d hd => ?_, ?_⟩
  · rcases List.mem_append.mp hd with hd | hd
    · rcases List.mem_append.mp hd with hd | hd
      · exact h'.1 d (List.mem_of_mem_take hd)
      · rw [List.mem_singleton] at hd
        subst hd
        exact ⟨l0, hg, hl⟩
    · exact h'.1 d (List.mem_of_mem_drop hd)
  · rw [List.pairwise_append, List.pairwise_append]
    refine ⟨⟨h'.2.sublist (List.take_sublist ..), by simp, fun a ha b hb => ?_⟩, h'.2.sublist (List.drop_sublist ..), fun a ha b hb => ?_⟩
    · rw [List.mem_singleton] at hb
      subst hb
      exact lo a ha
    · have hb' := hi b hb
      rcases List.mem_append.mp ha with ha | ha
      · have := lo a ha
        omega
      · rw [List.mem_singleton] at ha
        subst ha
        exact hb'
theorem ins_out (fs : List (Int × Int)) (x : Int × Int) {k : Nat} (hk : k ≤ fs.length) : (fs.take k ++ [x] ++ fs.drop k).take k ++ (fs.take k ++ [x] ++ fs.drop k).drop (k + 1) = fs := by
  have hl : (fs.take k).length = k := by rw [List.length_take]; omega
  have e1 : (fs.take k ++ [x] ++ fs.drop k).take k = fs.take k := by
    rw [List.append_assoc, List.take_append_of_le_length (by omega), List.take_of_length_le (by omega)]
  have e2 : (fs.take k ++ [x] ++ fs.drop k).drop (k + 1) = fs.drop k := by
    have : (fs.take k ++ [x]).length = k + 1 := by rw [List.length_append, hl]; rfl
    rw [← this, List.drop_left]
  rw [e1, e2, List.take_append_drop]
/-- places of files -/
structure Lies (t : Tape) : Prop where
  ok : FOk t.1 0 t.2
theorem Lies.at_ {t : Tape} (h : Lies t) {i : Int} (h0 : 0 ≤ i) (h1 : i < t.2.length) : 0 ≤ bg t i ∧ bg t i < en t i ∧ en t i ≤ t.1 := by
  have hi : i.toNat < t.2.length := by omega
  unfold bg en
  rw [List.getD_eq_getElem?_getD, List.getElem?_eq_getElem hi]
  exact (fok_iff.mp h.ok).1 _ (List.getElem_mem hi)
theorem Lies.lt {t : Tape} (h : Lies t) {i j : Int} (h0 : 0 ≤ i) (hij : i < j) (h1 : j < t.2.length) : en t i ≤ bg t j := by
  have hi : i.toNat < t.2.length := by omega
  have hj : j.toNat < t.2.length := by omega
  unfold bg en
  rw [List.getD_eq_getElem?_getD, List.getElem?_eq_getElem hi, List.getD_eq_getElem?_getD, List.getElem?_eq_getElem hj]
  exact List.pairwise_iff_getElem.mp (fok_iff.mp h.ok).2 i.toNat j.toNat hi hj (by omega)
theorem Lies.le {t : Tape} (h : Lies t) {i j : Int} (h0 : 0 ≤ i) (hij : i ≤ j) (h1 : j < t.2.length) : bg t i ≤ en t j := by
  by_cases e : i = j
  · subst e
    have := h.at_ h0 h1
    omega
  · have a := h.lt h0 (show i < j by omega) h1
    have b := h.at_ h0 (show i < t.2.length by omega)
    have c := h.at_ (show 0 ≤ j by omega) h1
    omega
end Tp

set_option Elab.async false
set_option linter.all false
namespace Tp
/-! ### waits reckoned detour by detour -/
def ledLk (t : Tape) : List (Int × Int) → Int → Int → Nat → Int → Option (Int × Int)
  | [], _, _, _, _ => none
  | d :: r, place, steps, k, i => if inD d.1 d.2 i = true then some (steps + place - bg t d.1 + en t i - bg t d.1, 2 * k + 1) else ledLk t r (en t d.2) (steps + place - bg t d.1 + en t d.2 - bg t d.1) (k + 1) i
theorem lk_none (t : Tape) : ∀ (trs : Trs) (place steps : Int) (k : Nat) (i : Int), (∀ x, x ∈ trs → i ∉ x.2) → lk t trs place steps k i = none
  | [], _, _, _, _, _ => rfl
  | x :: r, p, s, k, i, h => by rw [lk, if_neg (h x (List.mem_cons_self ..)), lk_none t r _ _ _ _ fun z hz => h z (List.mem_cons_of_mem _ hz)]
/-- detours that go over files of the tape -/
structure Dts (t : Tape) (a : Int) (row : List (Int × Int)) : Prop where
  m : ∀ d, d ∈ row → a < d.1 ∧ d.1 ≤ d.2 ∧ d.2 < t.2.length
  d : row.Pairwise (fun x y => y.1 < x.1)
theorem lk_led {t : Tape} (ht : Lies t) {a l : Int} (ha : 0 ≤ a) (ha2 : a < t.2.length) (z : Int) : ∀ {row : List (Int × Int)} {u : List Int} {place steps : Int} {k : Nat} {i : Int}, Dts t a row → (∀ d, d ∈ row → bg t d.1 ≤ place) → bg t a ≤ place → i ∈ u → (a ≤ i ∧ i ≤ l) →
    lk t (trsG t row a z (fr u row)) place steps k i = ledLk t (row ++ [(a, l)]) place steps k i
  | [], u, place, steps, k, i, _, _, hp, hi, hl => by
    show lk t [((bg t a, en t z), u)] place steps k i = _
    rw [lk, if_pos hi, List.nil_append, ledLk, if_pos (inD_iff.mpr hl)]
    dsimp only
    rw [aI_neg (by omega)]
    congr 2
    omega
  | d :: r, u, place, steps, k, i, hd, hp, hpa, hi, hl => by
    obtain ⟨d0, d1, d2⟩ := hd.m d (List.mem_cons_self ..)
    have hdp := List.pairwise_cons.mp hd.d
    have e : trsG t (d :: r) a z (fr u (d :: r)) = ((bg t d.1, en t d.2), u.filter (inD d.1 d.2)) :: trsG t r a z (fr (u.filter fun x => !inD d.1 d.2 x) r) := rfl
    have hb := hp d (List.mem_cons_self ..)
    have hbe := ht.le (show 0 ≤ d.1 by omega) d1 d2
    rw [e, lk, List.cons_append, ledLk]
    dsimp only
    by_cases h : inD d.1 d.2 i = true
    · rw [if_pos (List.mem_filter.mpr ⟨hi, h⟩), if_pos h, aI_neg (by omega)]
      congr 2
      omega
    · have hn : i ∉ u.filter (inD d.1 d.2) := fun q => h (List.mem_filter.mp q).2
      rw [if_neg hn, if_neg h, aI_neg (by omega), aI_pos (by omega)]
      have e2 : steps + -(bg t d.1 - place) + (en t d.2 - bg t d.1) = steps + place - bg t d.1 + en t d.2 - bg t d.1 := by omega
      rw [e2]
      refine lk_led ht ha ha2 z ⟨fun x hx => hd.m x (List.mem_cons_of_mem _ hx), hdp.2⟩ (fun x hx => ?_) (ht.le ha (by omega) d2) (List.mem_filter.mpr ⟨hi, by simpa using h⟩) hl
      have h1 := hd.m x (List.mem_cons_of_mem _ hx)
      have h2 := hdp.1 x hx
      exact ht.le (by omega) (by omega) d2
/-- the law's own reckoning -/
def ledPut (t : Tape) (f l steps turns : Int) (asked : List Int) (fd : Fd) : Fd := asked.foldl (fun fd n => if (inD f l n && (fd.getD n.toNat none).isNone) = true then fd.set n.toNat (some (steps + en t n - bg t f, turns)) else fd) fd
theorem ledPut_len (t : Tape) (f l s c : Int) (asked : List Int) : ∀ fd, (ledPut t f l s c asked fd).length = fd.length := by
  unfold ledPut
  induction asked with
  | nil => intro fd; rfl
  | cons x r ih =>
    intro fd
    rw [List.foldl_cons, ih]
    split
    · rw [List.length_set]
    · rfl
theorem ledPut_get (t : Tape) (f l s c : Int) (asked : List Int) (h0 : ∀ x, x ∈ asked → 0 ≤ x) : ∀ (fd : Fd) {i : Nat} {w : Option (Int × Int)}, fd[i]? = some w →
    (ledPut t f l s c asked fd)[i]? = some (if w.isNone = true ∧ (i : Int) ∈ asked ∧ inD f l i = true then some (s + en t i - bg t f, c) else w) := by
  unfold ledPut
  induction asked with
  | nil => intro fd i w h; simp [h]
  | cons x r ih =>
    intro fd i w h
    have hi : i < fd.length := (List.getElem?_eq_some_iff.mp h).1
    have hx := h0 x (List.mem_cons_self ..)
    have ih := ih fun y hy => h0 y (List.mem_cons_of_mem _ hy)
    rw [List.foldl_cons]
    by_cases e : (i : Int) = x
    · subst e
      have eg : fd.getD (i : Int).toNat none = w := by
        rw [List.getD_eq_getElem?_getD, show ((i : Int)).toNat = i by omega, h]; rfl
      rw [eg]
      by_cases hw : w.isNone = true
      · by_cases hD : inD f l i = true
        · rw [if_pos (by rw [hD, hw]; rfl), ih _ (w := some (s + en t i - bg t f, c)) (by rw [show ((i : Int)).toNat = i by omega]; simp [hi])]
          rw [if_neg (by simp), if_pos ⟨hw, List.mem_cons_self .., hD⟩]
        · rw [if_neg (by simp [hD]), ih _ h, if_neg (fun q => hD q.2.2), if_neg (fun q => hD q.2.2)]
      · rw [if_neg (by simp [hw]), ih _ h, if_neg (fun q => hw q.1), if_neg (fun q => hw q.1)]
    · have ne : x.toNat ≠ i := by omega
      have hm : (w.isNone = true ∧ (i : Int) ∈ x :: r ∧ inD f l i = true) ↔ (w.isNone = true ∧ (i : Int) ∈ r ∧ inD f l i = true) := by
        simp [e]
      have : ∀ fd' : Fd, fd'[i]? = some w → (r.foldl (fun fd n => if (inD f l n && (fd.getD n.toNat none).isNone) = true then fd.set n.toNat (some (s + en t n - bg t f, c)) else fd) fd')[i]? = some (if w.isNone = true ∧ (i : Int) ∈ x :: r ∧ inD f l i = true then some (s + en t i - bg t f, c) else w) := fun fd' h' => by
        rw [ih _ h']
        simp only [hm]
      split
      · exact this _ (by rw [List.getElem?_set_ne ne]; exact h)
      · exact this _ h
def ledGo (t : Tape) (asked : List Int) : List (Int × Int) → Fd → Int → Int → Nat → Fd
  | [], fd, _, _, _ => fd
  | d :: r, fd, place, steps, k => ledGo t asked r (ledPut t d.1 d.2 (steps + place - bg t d.1) (2 * k + 1) asked fd) (en t d.2) (steps + place - bg t d.1 + en t d.2 - bg t d.1) (k + 1)
theorem ledGo_len (t : Tape) (asked : List Int) : ∀ (row : List (Int × Int)) (fd : Fd) (p s : Int) (k : Nat), (ledGo t asked row fd p s k).length = fd.length
  | [], _, _, _, _ => rfl
  | d :: r, fd, p, s, k => by rw [ledGo, ledGo_len, ledPut_len]
theorem ledGo_get (t : Tape) (asked : List Int) (h0 : ∀ x, x ∈ asked → 0 ≤ x) : ∀ (row : List (Int × Int)) (fd : Fd) (p s : Int) (k : Nat) {i : Nat} {w : Option (Int × Int)}, fd[i]? = some w →
    (ledGo t asked row fd p s k)[i]? = some (if w.isNone = true ∧ (i : Int) ∈ asked then ledLk t row p s k i else w)
  | [], fd, p, s, k, i, w, h => by
    rw [ledGo, h]
    cases w with
    | none => simp [ledLk]
    | some w => simp
  | d :: r, fd, p, s, k, i, w, h => by
    rw [ledGo, ledGo_get t asked h0 r _ _ _ _ (ledPut_get t _ _ _ _ asked h0 fd h), ledLk]
    congr 1
    by_cases hw : w.isNone = true
    · by_cases ha : (i : Int) ∈ asked
      · by_cases hD : inD d.1 d.2 i = true
        · simp [hw, ha, hD]
        · simp [hw, ha, hD]
      · simp [ha]
    · simp [hw]
end Tp

set_option Elab.async false
set_option linter.all false
set_option maxRecDepth 100000
set_option maxHeartbeats 4000000
namespace Td
open PySem
/-- data of one form: may be laid, of a depth, == says when two are one -/
structure Ed {A : Type} (f : A → PyData) (k : Nat) : Prop where
  c : ∀ x, (f x).canLay0 = true
  d : ∀ x, (f x).depth ≤ k
  e : ∀ x y, PyData.eqv (f x) (f y) = true ↔ x = y
  d0 : ∀ x, (f x).hasDict = false
theorem ed_int : Ed PyData.int 0 := ⟨fun _ => rfl, fun _ => (by simp [PyData.depth]), fun x y => by simp [PyData.eqv], fun _ => rfl⟩
theorem ed_bool : Ed PyData.bool 0 := ⟨fun _ => rfl, fun _ => (by simp [PyData.depth]), fun x y => by simp [PyData.eqv], fun _ => rfl⟩
section
variable {A B C : Type} {f : A → PyData} {g : B → PyData} {h : C → PyData} {k l m : Nat}
theorem Ed.P (hf : Ed f k) (hg : Ed g l) : Ed (dP f g) (max k l + 1) :=
  ⟨fun x => by show ((f x.1).canLay0 && ((g x.2).canLay0 && true)) = true; rw [hf.c, hg.c]; rfl,
   fun x => by
    show (PyData.tuple [f x.1, g x.2]).depth ≤ _
    have := hf.d x.1; have := hg.d x.2
    simp only [PyData.depth, PyData.depthAll]
    omega,
   fun x y => by
    show (PyData.eqv (f x.1) (f y.1) && (PyData.eqv (g x.2) (g y.2) && true)) = true ↔ x = y
    rw [Bool.and_true, Bool.and_eq_true, hf.e, hg.e]
    exact ⟨fun ⟨a, b⟩ => Prod.ext a b, fun e => by subst e; exact ⟨rfl, rfl⟩⟩,
   fun x => by show ((f x.1).hasDict || ((g x.2).hasDict || false)) = false; rw [hf.d0, hg.d0]; rfl⟩
theorem ed_all (hf : Ed f k) : ∀ xs : List A, PyData.canLayAll0 (xs.map f) = true ∧ PyData.depthAll (xs.map f) ≤ k ∧ PyData.hasDictAll (xs.map f) = false
  | [] => ⟨rfl, by simp [PyData.depthAll], rfl⟩
  | x :: xs => by
    obtain ⟨a, b, c⟩ := ed_all hf xs
    refine ⟨?_, ?_, ?_⟩
    · show ((f x).canLay0 && PyData.canLayAll0 (xs.map f)) = true; rw [hf.c, a]; rfl
    · show PyData.depthAll (f x :: xs.map f) ≤ _
      have := hf.d x
      simp only [PyData.depthAll]
      omega
    · show ((f x).hasDict || PyData.hasDictAll (xs.map f)) = false; rw [hf.d0, c]; rfl
theorem ed_eqAll (hf : Ed f k) : ∀ xs ys : List A, PyData.eqvAll (xs.map f) (ys.map f) = true ↔ xs = ys
  | [], [] => ⟨fun _ => rfl, fun _ => by simp [PyData.eqvAll]⟩
  | [], y :: ys => by simp [PyData.eqvAll]
  | x :: xs, [] => by simp [PyData.eqvAll]
  | x :: xs, y :: ys => by
    rw [List.map_cons, List.map_cons, PyData.eqvAll, Bool.and_eq_true, hf.e, ed_eqAll hf xs ys, List.cons.injEq]
theorem Ed.L (hf : Ed f k) : Ed (dL f) (k + 1) :=
  ⟨fun xs => (ed_all hf xs).1, fun xs => by
    show (PyData.list (xs.map f)).depth ≤ _
    have := (ed_all hf xs).2.1
    rw [PyData.depth]
    omega, fun xs ys => by
    show PyData.eqv (.list (xs.map f)) (.list (ys.map f)) = true ↔ _
    rw [PyData.eqv]; exact ed_eqAll hf xs ys, fun xs => (ed_all hf xs).2.2⟩
theorem Ed.TL (hf : Ed f k) : Ed (dTL f) (k + 1) :=
  ⟨fun xs => (ed_all hf xs).1, fun xs => by
    show (PyData.tuple (xs.map f)).depth ≤ _
    have := (ed_all hf xs).2.1
    rw [PyData.depth]
    omega, fun xs ys => by
    show PyData.eqv (.tuple (xs.map f)) (.tuple (ys.map f)) = true ↔ _
    rw [PyData.eqv]; exact ed_eqAll hf xs ys, fun xs => (ed_all hf xs).2.2⟩
theorem Ed.shaped (hf : Ed f k) (hk : k ≤ 64) (x : A) : SeqAt.shaped (f x) = true := by
  show ((f x).canLay0 && decide ((f x).depth ≤ 64)) = true
  rw [hf.c, decide_eq_true (Nat.le_trans (hf.d x) hk)]
  rfl
theorem Ed.eqD {S : Type} [DecidableEq A] (hf : Ed f k) (hk : k ≤ 64) (x y : A) : (eqD (f x) (f y) : SM S Bool) = ret (decide (x = y)) := by
  unfold Td.eqD
  rw [grd_t ⟨hf.shaped hk x, hf.shaped hk y⟩, bnd_ret]
  congr 1
  by_cases e : x = y
  · rw [decide_eq_true e]; exact (hf.e x y).mpr e
  · rw [decide_eq_false e]
    cases h : PyData.eqv (f x) (f y) with
    | false => rfl
    | true => exact absurd ((hf.e x y).mp h) e
theorem Ed.neD {S : Type} [DecidableEq A] (hf : Ed f k) (hk : k ≤ 64) (x y : A) : (neD (f x) (f y) : SM S Bool) = ret (!decide (x = y)) := by
  unfold Td.neD
  rw [grd_t ⟨hf.shaped hk x, hf.shaped hk y⟩, bnd_ret]
  congr 2
  by_cases e : x = y
  · rw [decide_eq_true e]; exact (hf.e x y).mpr e
  · rw [decide_eq_false e]
    cases h : PyData.eqv (f x) (f y) with
    | false => rfl
    | true => exact absurd ((hf.e x y).mp h) e
end
end Td

set_option Elab.async false
set_option linter.all false
set_option maxRecDepth 100000
set_option maxHeartbeats 4000000
namespace Td
open Tp
section
variable {S T U : Type}
theorem ite_ret {c : Prop} [Decidable c] (a b : T) : (if c then (ret a : SM S T) else ret b) = ret (if c then a else b) := by split <;> rfl
theorem and_ret {b c : Bool} : (if b = true then (ret c : SM S Bool) else ret false) = ret (b && c) := by cases b <;> rfl
theorem or_ret {b c : Bool} : (if b = true then (ret true : SM S Bool) else ret c) = ret (b || c) := by cases b <;> rfl
theorem lcM_filter {A : Type} {f : A → SM S (Option A)} (g : A → Bool) (xs : List A) (h : ∀ x, x ∈ xs → f x = ret (if g x = true then some x else none)) (hz : xs.length ≤ PySem.sizeLine) : lcM f [] xs = ret (xs.filter g) := by
  rw [lcM_ret (fun x => if g x = true then some x else none) xs [] h (by simpa using hz), List.nil_append]
  congr 1
  clear h hz
  induction xs with
  | nil => rfl
  | cons x xs ih =>
    cases e : g x with
    | true => rw [List.filter_cons_of_pos (by rw [e]), List.filterMap_cons_some (b := x) (by simp [e]), ih]
    | false => rw [List.filter_cons_of_neg (by simp [e]), List.filterMap_cons_none (by simp [e]), ih]
theorem lcM_map {A B : Type} {f : A → SM S (Option B)} (g : A → B) (xs : List A) (h : ∀ x, x ∈ xs → f x = ret (some (g x))) (hz : xs.length ≤ PySem.sizeLine) : lcM f [] xs = ret (xs.map g) := by
  rw [lcM_ret (fun x => some (g x)) xs [] h (by simpa using hz), List.nil_append]
  congr 1
  clear h hz
  induction xs with
  | nil => rfl
  | cons x xs ih => rw [List.filterMap_cons_some (f := fun x => some (g x)) (b := g x) rfl, ih]; rfl
theorem lenG_ok {xs : List T} (h : xs.length ≤ PySem.sizeLine) : (lenG xs : SM S Unit) = ret () := by unfold lenG; exact grd_t h
theorem catM_ok {xs ys : List T} (h : xs.length + ys.length ≤ PySem.sizeLine) : (catM xs ys : SM S (List T)) = ret (xs ++ ys) := by unfold catM; rw [lenG_ok (by simpa using h)]; rfl
theorem pushM_ok {xs : List T} {y : T} (h : xs.length < PySem.sizeLine) : (pushM xs y : SM S (List T)) = ret (xs ++ [y]) := by unfold pushM; rw [grd_t h]; rfl
theorem rngG_ok {j : Int} (h : -(2 ^ 62) ≤ j ∧ j < 2 ^ 62) : (rngG j : SM S Unit) = ret () := by unfold rngG; exact grd_t h
theorem setM_ok {xs : List T} {i : Int} {v : T} (h0 : 0 ≤ i) (h1 : i < xs.length) : (setM xs i v : SM S (List T)) = ret (xs.set i.toNat v) := by
  unfold setM L2.ixN
  rw [if_pos h0, if_pos h1]
theorem hz_small {n k : Nat} (h : n ≤ k) (hk : k ≤ 16777216) : n ≤ PySem.sizeLine := by rw [PySem.sizeLine_eq]; omega
theorem upto_up (n : Nat) : upto 0 n = upI n := by
  unfold upto
  rw [← upI_range]
  congr 1
  funext i
  simp
theorem enum_enumF (xs : List Int) : enum xs = enumF 0 xs := by
  unfold enum
  rw [← enumF_eq]
  congr 1
  funext i x
  simp
/-- what an item is got by -/
theorem atI_get {xs : List T} {i : Int} {d : T} (h0 : 0 ≤ i) (h1 : i < xs.length) : L2.atI xs i = some (xs.getD i.toNat d) := by
  unfold L2.atI L2.ixN
  rw [if_pos h0, if_pos h1]
  show xs[i.toNat]? = _
  rw [List.getD_eq_getElem?_getD, List.getElem?_eq_getElem (by omega)]
  rfl
theorem ixM_get (d : T) {xs : List T} {i : Int} (h0 : 0 ≤ i) (h1 : i < xs.length) : (ixM xs i : SM S T) = ret (xs.getD i.toNat d) := by unfold ixM; rw [atI_get (d := d) h0 h1]
theorem ixM_last {xs : List T} {d : T} (h : xs ≠ []) : (ixM xs (-1) : SM S T) = ret (xs.getLast?.getD d) := by
  have hl : 0 < xs.length := List.length_pos_iff.mpr h
  unfold ixM L2.atI L2.ixN
  rw [if_neg (by decide), if_pos (by omega)]
  show (match xs[((-1 : Int) + xs.length).toNat]? with | some a => ret a | none => stk) = _
  rw [show ((-1 : Int) + xs.length).toNat = xs.length - 1 by omega, List.getLast?_eq_getElem?, List.getElem?_eq_getElem (by omega)]
  rfl
end
end Td

set_option Elab.async false
set_option linter.all false
set_option maxRecDepth 100000
set_option maxHeartbeats 4000000
namespace Tk
open Td Tp
/-! ### the program's own defs, plainly -/
theorem tix {t : TapeV} {i : Int} (h0 : 0 ≤ i) (h1 : i < t.2.length) : m_Tape_DgetitemD (t, i) = ret (t.2.getD i.toNat (0, 0)) := by
  unfold m_Tape_DgetitemD o_Tape_DgetitemD
  simp only [bnd_assoc, bnd_ret, bnd_ite, decide_eq_true h0, decide_eq_true h1, if_true, Bool.not_true, Bool.false_eq_true, if_false, ixM_get (0, 0) h0 h1, runB_rt]
theorem tln (t : TapeV) : m_Tape_DlenD t = ret (t.2.length : Int) := by
  unfold m_Tape_DlenD o_Tape_DlenD
  simp only [bnd_assoc, bnd_ret, runB_rt]
theorem tlen (t : TapeV) : m_Tape_length t = ret t.1 := by
  unfold m_Tape_length o_Tape_length
  simp only [bnd_assoc, bnd_ret, runB_rt]
/-- the files that are asked for -/
def askedL (asks : List Int) : List Int := (enum asks).filterMap fun x => if 0 < x.2 then some x.1 else none
theorem asked_eq {asks : List Int} (h : asks.length ≤ PySem.sizeLine) : m_asked_files asks = ret (askedL asks) := by
  unfold m_asked_files o_asked_files
  simp only [bnd_assoc, bnd_ret, lcIt_ret]
  rw [lcM_ret (fun (x : Int × Int) => if decide (0 < x.2) = true then some x.1 else none) _ _ (fun x _ => rfl) (by rw [enum_len]; simpa using h), bnd_ret, runB_rt, List.nil_append]
  unfold askedL
  simp only [decide_eq_true_eq]
def areAsks (k : Int) (asks : List Int) : Bool := decide ((asks.length : Int) = k) && (asks.map fun c => decide (0 ≤ c)).all id
theorem are_asks_eq {k : Int} {asks : List Int} (h : asks.length ≤ PySem.sizeLine) : m_are_asks (k, asks) = ret (areAsks k asks) := by
  unfold m_are_asks o_are_asks
  simp only [bnd_assoc, bnd_ret, lcIt_t]
  rw [lcM_map (fun (x : Int) => decide (0 ≤ x)) _ (fun x _ => rfl) h, bnd_ret, and_ret, bnd_ret, runB_rt]
  rfl
theorem small63 {n : Nat} (h : n ≤ PySem.sizeLine) : (0 : Int) ≤ (n : Int) ∧ (n : Int) < 2 ^ 63 := by
  have e : PySem.sizeLine = 16777216 := PySem.sizeLine_eq
  generalize PySem.sizeLine = z at *
  subst e
  omega
theorem check_asks_eq {t : TapeV} {asks : List Int} (h : asks.length ≤ PySem.sizeLine) (ht : t.2.length ≤ PySem.sizeLine) (ok : areAsks t.2.length asks = true) : m_check_asks (t, asks) = ret () := by
  unfold m_check_asks o_check_asks
  simp only [bnd_assoc, bnd_ret, tln, lft_ret, nxc_ret]
  rw [grd_t (small63 ht), bnd_ret, are_asks_eq h, lft_ret, bnd_ret, ok]
  simp only [Bool.not_true, Bool.false_eq_true, if_false]
  exact runP_nx
/-- a list of detours is a row -/
def rowGo (asks asked : List Int) : Int → List (Int × Int) → Bool
  | _, [] => true
  | edge, d :: r => if asked.isEmpty = true then false else if (decide (asked.headD 0 < d.1) && (decide (d.1 ≤ d.2) && decide (d.2 < asks.length))) = false then false else if edge ≤ d.1 then false
    else if asks.getD d.1.toNat 0 = 0 then false else if asks.getD d.2.toNat 0 = 0 then false else rowGo asks asked d.1 r
theorem asked_nn {asks : List Int} : ∀ x, x ∈ askedL asks → 0 ≤ x ∧ x < asks.length := by
  intro x hx
  unfold askedL enum at hx
  obtain ⟨y, hy, e⟩ := List.mem_filterMap.mp hx
  obtain ⟨i, hi, e2⟩ := List.mem_mapIdx.mp hy
  subst e2
  split at e
  · cases e; simp; omega
  · cases e
theorem is_row_eq {asks : List Int} {row : List (Int × Int)} (h : asks.length ≤ PySem.sizeLine) : m_is_row (asks, row) = ret (rowGo asks (askedL asks) asks.length row) := by
  unfold m_is_row o_is_row
  simp only [bnd_assoc, bnd_ret, asked_eq h, lft_ret]
  have main : ∀ (row : List (Int × Int)) (edge : Int) (f : Int → (Int × Int) → SM Unit (Fl Int Int Bool)),
      (∀ edge d, f edge d = if (askedL asks).isEmpty = true then ret (.rt false) else if (decide ((askedL asks).headD 0 < d.1) && (decide (d.1 ≤ d.2) && decide (d.2 < asks.length))) = false then ret (.rt false) else if edge ≤ d.1 then ret (.rt false)
        else if asks.getD d.1.toNat 0 = 0 then ret (.rt false) else if asks.getD d.2.toNat 0 = 0 then ret (.rt false) else ret (.nx d.1)) →
      ∃ z, forM_ row f edge = ret (if rowGo asks (askedL asks) edge row = true then .dn z else .rt false) := by
    intro row
    induction row with
    | nil => intro edge f _; exact ⟨edge, rfl⟩
    | cons d row ih =>
      intro edge f hf
      unfold forM_
      rw [hf, rowGo]
      by_cases e1 : (askedL asks).isEmpty = true
      · rw [if_pos e1, if_pos e1]; exact ⟨0, rfl⟩
      · rw [if_neg e1, if_neg e1]
        by_cases e2 : (decide ((askedL asks).headD 0 < d.1) && (decide (d.1 ≤ d.2) && decide (d.2 < asks.length))) = false
        · rw [if_pos e2, if_pos e2]; exact ⟨0, rfl⟩
        · rw [if_neg e2, if_neg e2]
          by_cases e3 : edge ≤ d.1
          · rw [if_pos e3, if_pos e3]; exact ⟨0, rfl⟩
          · rw [if_neg e3, if_neg e3]
            by_cases e4 : asks.getD d.1.toNat 0 = 0
            · rw [if_pos e4, if_pos e4]; exact ⟨0, rfl⟩
            · rw [if_neg e4, if_neg e4]
              by_cases e5 : asks.getD d.2.toNat 0 = 0
              · rw [if_pos e5, if_pos e5]; exact ⟨0, rfl⟩
              · rw [if_neg e5, if_neg e5, bnd_ret]
                exact ih d.1 f hf
  suffices hs : ∃ z, forM_ row _ (asks.length : Int) = ret (if rowGo asks (askedL asks) asks.length row = true then .dn z else .rt false) by
    obtain ⟨z, hz⟩ := hs
    rw [hz]
    cases e : rowGo asks (askedL asks) asks.length row with
    | true => rw [if_pos rfl, lpM_dn, runB_rt]
    | false => rw [if_neg (by simp), lpM_rt, runB_rt]
  refine main row _ _ ?_
  · intro edge d
    have hz := hz_small (n := 0) (k := 0) (by omega) (by omega)
    cases e1 : (askedL asks).isEmpty with
    | true => simp [e1, bnd_ret, esc_ret]
    | false =>
      have hne : askedL asks ≠ [] := by intro z; rw [z] at e1; cases e1
      have hl : 0 < (askedL asks).length := List.length_pos_iff.mpr hne
      have hh : (ixM (askedL asks) 0 : SM Unit Int) = ret ((askedL asks).headD 0) := by
        rw [ixM_get 0 (by omega) (by omega)]
        cases h : askedL asks with
        | nil => exact absurd h hne
        | cons a l => rfl
      simp only [hh, bnd_ret, Bool.not_false, Bool.not_true, Bool.false_eq_true, if_false]
      have hge : (askedL asks).headD 0 ≥ 0 := by
        cases h : askedL asks with
        | nil => exact absurd h hne
        | cons a l => exact (asked_nn a (by rw [h]; exact List.mem_cons_self ..)).1
      simp only [and_ret, bnd_ret]
      by_cases c1 : (decide ((askedL asks).headD 0 < d.1) && (decide (d.1 ≤ d.2) && decide (d.2 < asks.length))) = true
      · have c := c1
        simp only [Bool.and_eq_true, decide_eq_true_eq] at c
        have i1 : (ixM asks d.1 : SM Unit Int) = ret (asks.getD d.1.toNat 0) := ixM_get 0 (by omega) (by omega)
        have i2 : (ixM asks d.2 : SM Unit Int) = ret (asks.getD d.2.toNat 0) := ixM_get 0 (by omega) (by omega)
        simp only [c1, i1, i2, bnd_ret, Bool.not_true, Bool.false_eq_true, Bool.true_eq_false, if_false, or_ret]
        by_cases c2 : edge ≤ d.1
        · simp only [c2, decide_true, if_true, bnd_ret, esc_ret]
        · simp only [c2, decide_false, Bool.false_eq_true, if_false]
          by_cases c3 : asks.getD d.1.toNat 0 = 0
          · simp only [c3, decide_true, Bool.true_or, if_true, bnd_ret, esc_ret]
          · simp only [c3, decide_false, Bool.false_or, if_false]
            by_cases c4 : asks.getD d.2.toNat 0 = 0
            · simp only [c4, decide_true, if_true, bnd_ret, esc_ret]
            · simp only [c4, decide_false, Bool.false_eq_true, if_false]
      · have c2 : (decide ((askedL asks).headD 0 < d.1) && (decide (d.1 ≤ d.2) && decide (d.2 < asks.length))) = false := by simpa using c1
        simp only [c2, Bool.not_false, if_true, bnd_ret, esc_ret]
theorem check_row_eq {asks : List Int} {row : List (Int × Int)} (h : asks.length ≤ PySem.sizeLine) (ok : rowGo asks (askedL asks) asks.length row = true) : m_check_row (asks, row) = ret () := by
  unfold m_check_row o_check_row
  simp only [bnd_assoc, bnd_ret, is_row_eq h, lft_ret, ok]
  simp only [Bool.not_true, Bool.false_eq_true, if_false]
  exact runP_nx
end Tk

set_option Elab.async false
set_option linter.all false
set_option maxRecDepth 100000
set_option maxHeartbeats 4000000
namespace Tk
open Td Tp
theorem filter_lcM {S : Type} {u : List Int} {f : Int → SM S (Option Int)} (g : Int → Bool) (h : ∀ x, f x = ret (if g x = true then some x else none)) (hz : u.length ≤ PySem.sizeLine) : lcM f [] u = ret (u.filter g) := lcM_filter g u (fun x _ => h x) hz
theorem asked_len {asks : List Int} : (askedL asks).length ≤ asks.length := by
  unfold askedL
  exact Nat.le_trans (List.length_filterMap_le ..) (by rw [enum_len]; exact Nat.le_refl _)
theorem fresh_eq {asks : List Int} {row : List (Int × Int)} (h : asks.length ≤ PySem.sizeLine) (hr : row.length < PySem.sizeLine) : m_fresh_runs (asks, row) = ret (fr (askedL asks) row) := by
  unfold m_fresh_runs o_fresh_runs
  simp only [bnd_assoc, bnd_ret, asked_eq h, lft_ret]
  rw [lenG_ok (by simp), bnd_ret]
  rw [forM_nx (fun (l : List (List Int) × List Int) d => (l.1 ++ [l.2.filter (inD d.1 d.2)], l.2.filter fun x => !inD d.1 d.2 x)) row ([], askedL asks) ?_]
  · rw [lpM_dn, fr_foldl, List.nil_append, lenG_ok (by rw [fr_len]; exact hr), bnd_ret, runB_rt]
  · intro ys d zs e
    have inv : ∀ (ys : List (Int × Int)) (l : List (List Int) × List Int), (ys.foldl (fun (l : List (List Int) × List Int) d => (l.1 ++ [l.2.filter (inD d.1 d.2)], l.2.filter fun x => !inD d.1 d.2 x)) l).1.length = l.1.length + ys.length ∧ (ys.foldl (fun (l : List (List Int) × List Int) d => (l.1 ++ [l.2.filter (inD d.1 d.2)], l.2.filter fun x => !inD d.1 d.2 x)) l).2.length ≤ l.2.length := by
      intro ys
      induction ys with
      | nil => intro l; exact ⟨rfl, Nat.le_refl _⟩
      | cons y ys ih =>
        intro l
        obtain ⟨a, b⟩ := ih (l.1 ++ [l.2.filter (inD y.1 y.2)], l.2.filter fun x => !inD y.1 y.2 x)
        refine ⟨?_, Nat.le_trans b (List.length_filter_le ..)⟩
        rw [List.foldl_cons, a, List.length_append, List.length_cons]
        simp only [List.length_cons, List.length_nil]
        omega
    obtain ⟨i1, i2⟩ := inv ys ([], askedL asks)
    have hl : ys.length < row.length := by rw [e]; simp
    generalize ys.foldl _ ([], askedL asks) = l at *
    have hz : l.2.length ≤ PySem.sizeLine := Nat.le_trans i2 (Nat.le_trans asked_len h)
    have hz2 : l.1.length < PySem.sizeLine := by rw [i1]; simp only [List.length_nil]; omega
    rw [filter_lcM (inD d.1 d.2) (fun x => by simp only [lcIt_ret, ite_ret]; rfl) hz, bnd_ret, pushM_ok hz2, bnd_ret]
    rw [filter_lcM (fun x => !inD d.1 d.2 x) (fun x => by simp only [lcIt_ret, ite_ret, bnd_ret]; rfl) hz, bnd_ret]
/-- a row that stands on a tape -/
structure Fit (t : TapeV) (asks : List Int) (row : List (Int × Int)) : Prop where
  len : t.2.length = asks.length
  small : asks.length ≤ 60
  rsmall : row.length ≤ 1000
  ok : areAsks t.2.length asks = true
  row : rowGo asks (askedL asks) asks.length row = true
theorem Fit.z {t : TapeV} {asks : List Int} {row : List (Int × Int)} (h : Fit t asks row) : asks.length ≤ PySem.sizeLine := hz_small h.small (by omega)
theorem Fit.zr {t : TapeV} {asks : List Int} {row : List (Int × Int)} (h : Fit t asks row) : row.length < PySem.sizeLine := by
  have := hz_small (n := row.length + 1) (k := 1001) (by have := h.rsmall; omega) (by omega)
  omega
/-- what a row says -/
structure RowP (asks : List Int) (row : List (Int × Int)) : Prop where
  m : ∀ d, d ∈ row → d.1 ∈ askedL asks ∧ d.2 ∈ askedL asks ∧ d.1 ≤ d.2 ∧ (askedL asks).headD 0 < d.1
  d : row.Pairwise (fun a b => b.1 < a.1)
theorem mem_asked {asks : List Int} {i : Int} : i ∈ askedL asks ↔ 0 ≤ i ∧ i < asks.length ∧ 0 < asks.getD i.toNat 0 := by
  unfold askedL enum
  rw [List.mem_filterMap]
  constructor
  · rintro ⟨y, hy, e⟩
    obtain ⟨j, hj, e2⟩ := List.mem_mapIdx.mp hy
    subst e2
    dsimp only at e
    by_cases hc : 0 < asks[j]
    · rw [if_pos hc] at e
      cases e
      refine ⟨by omega, by omega, ?_⟩
      rw [List.getD_eq_getElem?_getD, List.getElem?_eq_getElem (by omega)]
      exact hc
    · rw [if_neg hc] at e; cases e
  · rintro ⟨h0, h1, h2⟩
    have hj : i.toNat < asks.length := by omega
    rw [List.getD_eq_getElem?_getD, List.getElem?_eq_getElem hj] at h2
    refine ⟨((i.toNat : Int), asks[i.toNat]), List.mem_mapIdx.mpr ⟨i.toNat, hj, rfl⟩, ?_⟩
    dsimp only
    rw [if_pos (by simpa using h2)]
    congr 1
    omega
theorem asked_asc (asks : List Int) : (askedL asks).Pairwise (· < ·) := by
  unfold askedL enum
  rw [List.pairwise_filterMap]
  rw [List.pairwise_iff_getElem]
  intro i j hi hj hij b hb c hc
  simp only [List.getElem_mapIdx] at hb hc
  split at hb
  · split at hc
    · cases hb; cases hc; omega
    · cases hc
  · cases hb
theorem rowGo_p {asks : List Int} (h0 : ∀ c, c ∈ asks → 0 ≤ c) : ∀ {row : List (Int × Int)} {edge : Int}, rowGo asks (askedL asks) edge row = true → RowP asks row ∧ askedL asks ≠ [] ∨ row = []
  | [], _, _ => .inr rfl
  | d :: r, edge, h => by
    left
    have main : ∀ {row : List (Int × Int)} {edge : Int}, rowGo asks (askedL asks) edge row = true → (∀ d, d ∈ row → d.1 < edge ∧ (d.1 ∈ askedL asks ∧ d.2 ∈ askedL asks ∧ d.1 ≤ d.2 ∧ (askedL asks).headD 0 < d.1) ∧ askedL asks ≠ []) ∧ row.Pairwise (fun a b => b.1 < a.1) := by
      intro row
      induction row with
      | nil => intro edge _; exact ⟨fun d hd => (by cases hd), .nil⟩
      | cons d r ih =>
        intro edge h
        rw [rowGo] at h
        split at h
        · cases h
        · rename_i e1
          split at h
          · cases h
          · rename_i e2
            split at h
            · cases h
            · rename_i e3
              split at h
              · cases h
              · rename_i e4
                split at h
                · cases h
                · rename_i e5
                  have e2' : (decide ((askedL asks).headD 0 < d.1) && (decide (d.1 ≤ d.2) && decide (d.2 < asks.length))) = true := by simpa using e2
                  simp only [Bool.and_eq_true, decide_eq_true_eq] at e2'
                  have hne : askedL asks ≠ [] := by intro z; rw [z] at e1; exact e1 rfl
                  have hh : 0 ≤ (askedL asks).headD 0 := by
                    cases h : askedL asks with
                    | nil => exact absurd h hne
                    | cons a l => exact (asked_nn a (by rw [h]; exact List.mem_cons_self ..)).1
                  have nn : ∀ i : Int, 0 ≤ i → i < asks.length → asks.getD i.toNat 0 ≠ 0 → i ∈ askedL asks := fun i h1 h2 h3 => by
                    rw [mem_asked]
                    refine ⟨h1, h2, ?_⟩
                    have hj : i.toNat < asks.length := by omega
                    rw [List.getD_eq_getElem?_getD, List.getElem?_eq_getElem hj] at h3 ⊢
                    have := h0 _ (List.getElem_mem hj)
                    simp only [Option.getD_some] at h3 ⊢
                    omega
                  have hd : d.1 < edge ∧ (d.1 ∈ askedL asks ∧ d.2 ∈ askedL asks ∧ d.1 ≤ d.2 ∧ (askedL asks).headD 0 < d.1) ∧ askedL asks ≠ [] := ⟨by omega, ⟨nn _ (by omega) (by omega) e4, nn _ (by omega) (by omega) e5, by omega, by omega⟩, hne⟩
                  obtain ⟨i1, i2⟩ := ih h
                  refine ⟨fun x hx => ?_, ?_⟩
                  · rcases List.mem_cons.mp hx with hx | hx
                    · subst hx; exact hd
                    · have := i1 x hx
                      exact ⟨by omega, this.2⟩
                  · rw [List.pairwise_cons]
                    exact ⟨fun x hx => (i1 x hx).1, i2⟩
    obtain ⟨i1, i2⟩ := main h
    exact ⟨⟨fun x hx => (i1 x hx).2.1, i2⟩, (i1 d (List.mem_cons_self ..)).2.2⟩
end Tk

set_option Elab.async false
set_option linter.all false
set_option maxRecDepth 100000
set_option maxHeartbeats 4000000
namespace Tk
open Td Tp
theorem Fit.zt {t : TapeV} {asks : List Int} {row : List (Int × Int)} (h : Fit t asks row) : t.2.length ≤ PySem.sizeLine := by rw [h.len]; exact h.z
theorem Fit.nn {t : TapeV} {asks : List Int} {row : List (Int × Int)} (h : Fit t asks row) : ∀ c, c ∈ asks → 0 ≤ c := fun c hc => by
  have := h.ok
  unfold areAsks at this
  simp only [Bool.and_eq_true, List.all_eq_true, List.mem_map] at this
  have := this.2 (decide (0 ≤ c)) ⟨c, hc, rfl⟩
  simpa using this
theorem Fit.rp {t : TapeV} {asks : List Int} {row : List (Int × Int)} (h : Fit t asks row) : RowP asks row := by
  rcases rowGo_p h.nn h.row with z | z
  · exact z.1
  · subst z; exact ⟨fun d hd => (by cases hd), .nil⟩
theorem Fit.ix {t : TapeV} {asks : List Int} {row : List (Int × Int)} (h : Fit t asks row) {i : Int} (hi : i ∈ askedL asks) : m_Tape_DgetitemD (t, i) = ret (t.2.getD i.toNat (0, 0)) := by
  have := asked_nn i hi
  exact tix this.1 (by rw [h.len]; exact this.2)
def wayL (t : TapeV) (asks : List Int) (row : List (Int × Int)) : List Int := if (askedL asks).isEmpty = true then [t.1] else
  (row.flatMap fun d => [bg t d.1, en t d.2]) ++ [bg t ((askedL asks).headD 0), en t (lastI (lastR (fr (askedL asks) row)))]
theorem foldl_flat {A B : Type} (g : A → List B) : ∀ (xs : List A) (l : List B), xs.foldl (fun l x => l ++ g x) l = l ++ xs.flatMap g
  | [], l => by simp
  | x :: xs, l => by rw [List.foldl_cons, foldl_flat g xs, List.flatMap_cons, List.append_assoc]
theorem last_mem {u : List Int} {row : List (Int × Int)} (hu : u ≠ []) (h : ∀ d, d ∈ row → u.headD 0 < d.1) : lastR (fr u row) ≠ [] ∧ lastI (lastR (fr u row)) ∈ u := by
  cases u with
  | nil => exact absurd rfl hu
  | cons a u =>
    have h1 := fr_last (row := row) (u := a :: u) (List.mem_cons_self ..) h
    have e : lastR (fr (a :: u) row) = (fr (a :: u) row).getLast (fr_ne _ _) := by
      unfold lastR
      rw [List.getLast?_eq_some_getLast (fr_ne _ _)]
      rfl
    rw [e]
    have hne : (fr (a :: u) row).getLast (fr_ne _ _) ≠ [] := List.ne_nil_of_mem h1
    refine ⟨hne, ?_⟩
    unfold lastI
    rw [List.getLast?_eq_some_getLast hne]
    exact fr_mem (List.getLast_mem (fr_ne _ _)) (List.getLast_mem hne)
theorem way_eq {t : TapeV} {asks : List Int} {row : List (Int × Int)} (h : Fit t asks row) : m_way (t, asks, row) = ret (wayL t asks row) := by
  have hp := h.rp
  have hsz : PySem.sizeLine = 16777216 := PySem.sizeLine_eq
  unfold m_way o_way wayL
  simp only [bnd_assoc, bnd_ret, check_asks_eq h.z h.zt h.ok, check_row_eq h.z h.row, asked_eq h.z, fresh_eq h.z h.zr, lft_ret, nxc_ret, tlen]
  cases e1 : (askedL asks).isEmpty with
  | true =>
    simp only [Bool.not_true, Bool.not_false, if_true]
    rw [lenG_ok (hz_small (k := 1) (Nat.le_refl _) (by omega)), bnd_ret, esc_ret, runB_rt]
  | false =>
    have hne : askedL asks ≠ [] := by intro z; rw [z] at e1; cases e1
    have hl : 0 < (askedL asks).length := List.length_pos_iff.mpr hne
    have hh : (ixM (askedL asks) 0 : SM Unit Int) = ret ((askedL asks).headD 0) := by
      rw [ixM_get 0 (by omega) (by omega)]
      cases h : askedL asks with
      | nil => exact absurd h hne
      | cons a l => rfl
    have hm : (askedL asks).headD 0 ∈ askedL asks := by
      cases h : askedL asks with
      | nil => exact absurd h hne
      | cons a l => exact List.mem_cons_self ..
    obtain ⟨l1, l2⟩ := last_mem hne fun d hd => (hp.m d hd).2.2.2
    simp only [Bool.not_true, Bool.not_false, Bool.false_eq_true, if_false]
    rw [lenG_ok (by simp), bnd_ret]
    have hr := h.rsmall
    have fl2 : ∀ (row : List (Int × Int)), (row.flatMap fun d => [bg t d.1, en t d.2]).length = 2 * row.length := by
      intro row
      induction row with
      | nil => rfl
      | cons d r ih => rw [List.flatMap_cons, List.length_append, ih, List.length_cons]; simp only [List.length_cons, List.length_nil]; omega
    rw [forM_nx (fun (l : List Int) (d : Int × Int) => l ++ [bg t d.1, en t d.2]) row [] ?_]
    · rw [lpM_dn, hh, bnd_ret, h.ix hm, lft_ret, nxc_ret, bnd_ret]
      rw [ixM_last (d := []) (fr_ne _ _), bnd_ret]
      have e2 : (fr (askedL asks) row).getLast?.getD [] = lastR (fr (askedL asks) row) := rfl
      rw [e2, ixM_last (d := 0) l1, bnd_ret]
      have e3 : (lastR (fr (askedL asks) row)).getLast?.getD 0 = lastI (lastR (fr (askedL asks) row)) := rfl
      rw [e3, h.ix l2, lft_ret, nxc_ret, bnd_ret]
      rw [foldl_flat, List.nil_append, lenG_ok, bnd_ret, runB_rt]
      · rfl
      · rw [List.length_append, fl2]
        exact hz_small (k := 2010) (by simp only [List.length_cons, List.length_nil]; omega) (by omega)
    · intro ys d zs e
      have hd : d ∈ row := by rw [e]; simp
      obtain ⟨d1, d2, _⟩ := hp.m d hd
      have hy : ys.length < row.length := by rw [e]; simp
      rw [h.ix d1, lft_ret, nxc_ret, bnd_ret, h.ix d2, lft_ret, nxc_ret, bnd_ret, lenG_ok (hz_small (k := 2) (Nat.le_refl _) (by omega)), bnd_ret, foldl_flat, List.nil_append, catM_ok ?_, bnd_ret]
      · rfl
      · rw [fl2]
        exact hz_small (k := 2010) (by simp only [List.length_cons, List.length_nil]; omega) (by omega)
def waitsL (t : TapeV) (asks : List Int) (row : List (Int × Int)) : Fd := ((enumF 0 (wayL t asks row)).foldl (wStep t (fr (askedL asks) row)) (asks.map fun _ => none, t.1, 0)).1
theorem enumF_mem : ∀ {xs : List Int} {k : Nat} {x : Int × Int}, x ∈ enumF k xs → (k : Int) ≤ x.1 ∧ x.1 < k + xs.length
  | [], _, _, h => by cases h
  | y :: ys, k, x, h => by
    rw [enumF] at h
    rcases List.mem_cons.mp h with h | h
    · subst h; simp; omega
    · have := enumF_mem h
      simp at this ⊢; omega
theorem way_len {t : TapeV} {asks : List Int} {row : List (Int × Int)} : (wayL t asks row).length = if (askedL asks).isEmpty = true then 1 else 2 * (row.length + 1) := by
  unfold wayL
  split
  · rfl
  · have fl2 : ∀ (row : List (Int × Int)), (row.flatMap fun d => [bg t d.1, en t d.2]).length = 2 * row.length := by
      intro row
      induction row with
      | nil => rfl
      | cons d r ih => rw [List.flatMap_cons, List.length_append, ih, List.length_cons]; simp only [List.length_cons, List.length_nil]; omega
    rw [List.length_append, fl2]; simp only [List.length_cons, List.length_nil]; omega
theorem wStep_len (t : TapeV) (runs : List (List Int)) (l : Fd × Int × Int) (x : Int × Int) : (wStep t runs l x).1.length = l.1.length := by
  unfold wStep
  dsimp only
  split
  · exact put_len ..
  · rfl
theorem divM2 {S : Type} {i : Int} : (divM i 2 : SM S Int) = ret (i / 2) := by
  unfold divM grdI
  rw [grd_t (by unfold L2.CDivN; decide)]
  show ret (i.fdiv 2) = _
  rw [Int.fdiv_eq_ediv_of_nonneg i (by omega)]
theorem waits_eq {t : TapeV} {asks : List Int} {row : List (Int × Int)} (h : Fit t asks row) : m_waits (t, asks, row) = ret (waitsL t asks row) := by
  unfold m_waits o_waits waitsL
  simp only [bnd_assoc, bnd_ret, way_eq h, fresh_eq h.z h.zr, lft_ret, nxc_ret, tlen, lcIt_t]
  rw [lcM_map (fun _ => (none : Option (Int × Int))) _ (fun x _ => rfl) h.z, bnd_ret, enum_enumF]
  rw [forM_nx (fun (l : Fd × Int × Int) x => wStep t (fr (askedL asks) row) l x) (enumF 0 (wayL t asks row)) _ ?_]
  · rw [lpM_dn, runB_rt]
  · intro ys x zs e
    have inv : ∀ (ys : List (Int × Int)) (l : Fd × Int × Int), (ys.foldl (fun (l : Fd × Int × Int) x => wStep t (fr (askedL asks) row) l x) l).1.length = l.1.length := by
      intro ys
      induction ys with
      | nil => intro l; rfl
      | cons y ys ih => intro l; rw [List.foldl_cons, ih, wStep_len]
    have hlen := inv ys (asks.map fun _ => none, t.1, 0)
    rw [List.length_map] at hlen
    have hx := enumF_mem (xs := wayL t asks row) (k := 0) (x := x) (by rw [e]; simp)
    generalize ys.foldl (fun (l : Fd × Int × Int) x => wStep t (fr (askedL asks) row) l x) _ = l at *
    simp only [modM_ok (show (0 : Int) < 2 by decide), bnd_ret, ite_ret]
    have tail : ∀ fd : Fd, (bnd (ret (if x.2 - l.2.1 < 0 then -(x.2 - l.2.1) else x.2 - l.2.1)) fun a => (ret (Fl.nx (fd, x.2, l.2.2 + a)) : SM Unit (Fl (Fd × Int × Int) (Fd × Int × Int) Fd))) = ret (Fl.nx (fd, x.2, l.2.2 + aI (x.2 - l.2.1))) := fun fd => by
      rw [bnd_ret]; rfl
    by_cases hodd : x.1 % 2 = 1
    · have ne : (askedL asks).isEmpty = false := by
        cases e2 : (askedL asks).isEmpty with
        | false => rfl
        | true => rw [way_len, if_pos e2] at hx; omega
      rw [way_len, if_neg (by simp [ne])] at hx
      have hrl : (x.1 / 2).toNat < (fr (askedL asks) row).length := by rw [fr_len]; omega
      simp only [hodd, decide_true, if_true, divM2, bnd_ret]
      rw [ixM_get [] (by omega) (by rw [fr_len]; omega), bnd_ret]
      have hmem : ∀ i, i ∈ (fr (askedL asks) row).getD (x.1 / 2).toNat [] → i ∈ askedL asks := fun i hi => by
        rw [List.getD_eq_getElem?_getD, List.getElem?_eq_getElem hrl] at hi
        exact fr_mem (List.getElem_mem hrl) hi
      rw [forM_nx (fun (fd : Fd) i => fd.set i.toNat (some (l.2.2 + en t i - l.2.1, x.1))) _ _ ?_]
      · rw [lpM_dn, thn_nx]
        unfold wStep
        rw [if_pos hodd]
        rfl
      · intro as i bs e3
        have hi : i ∈ askedL asks := hmem i (by rw [e3]; simp)
        have := asked_nn i hi
        have il : ∀ (as : List Int) (fd : Fd), (as.foldl (fun (fd : Fd) i => fd.set i.toNat (some (l.2.2 + en t i - l.2.1, x.1))) fd).length = fd.length := by
          intro as
          induction as with
          | nil => intro fd; rfl
          | cons a as ih => intro fd; rw [List.foldl_cons, ih, List.length_set]
        rw [h.ix hi, lft_ret, nxc_ret, bnd_ret, setM_ok this.1 (by rw [il, hlen]; exact this.2), bnd_ret]
        rfl
    · simp only [hodd, decide_false, Bool.false_eq_true, if_false, thn_nx]
      unfold wStep
      rw [if_neg hodd]
      rfl
end Tk

set_option Elab.async false
set_option linter.all false
set_option maxRecDepth 100000
set_option maxHeartbeats 4000000
namespace Tk
open Td Tp L2
theorem put_all {P : Int × Int → Prop} (t : Tape) (a b c : Int) (run : List Int) (h : ∀ i, i ∈ run → P (a + en t i - b, c)) : ∀ (fd : Fd), (∀ w, some w ∈ fd → P w) → ∀ w, some w ∈ put t a b c run fd → P w := by
  unfold put
  induction run with
  | nil => intro fd h; exact h
  | cons x r ih =>
    intro fd hfd
    rw [List.foldl_cons]
    refine ih (fun i hi => h i (List.mem_cons_of_mem _ hi)) _ fun w hw => ?_
    rcases List.mem_or_eq_of_mem_set hw with z | z
    · exact hfd w z
    · cases z; exact h x (List.mem_cons_self ..)
/-- how large waits may be: any bound of the places -/
def Sml (c : Int) : Prop := -(2 ^ 64) < c ∧ c < 2 ^ 64
theorem mulM_sm {S : Type} {i j : Int} (h : Sml i) : (mulM i j : SM S Int) = ret (i * j) := mulM_ok (.inl h)
theorem mulM_sm2 {S : Type} {i j : Int} (h : Sml j) : (mulM i j : SM S Int) = ret (i * j) := mulM_ok (.inr h)
theorem total_eq {t : TapeV} {asks : List Int} {row : List (Int × Int)} (h : Fit t asks row) (ha : ∀ c, c ∈ asks → Sml c) : m_total (t, asks, row) = ret (totL asks (waitsL t asks row)) := by
  unfold m_total o_total totL
  simp only [bnd_assoc, bnd_ret, waits_eq h, lft_ret]
  rw [forM_nx (fun (l : Int × Int) (x : Int × Option (Int × Int)) => match x.2 with | some w => (l.1 + x.1 * w.1, l.2 + x.1 * w.2) | none => l) _ _ ?_]
  · rw [lpM_dn]; exact runB_rt _
  · intro ys x zs e
    have hx : x.1 ∈ asks := (List.of_mem_zip (a := x.1) (b := x.2) (by rw [e]; simp)).1
    generalize ys.foldl _ _ = l
    obtain ⟨c, w⟩ := x
    cases w with
    | none => rfl
    | some w =>
      simp only [Option.isSome_some, if_true, optM, bnd_ret, mulM_sm (ha c hx), thn_nx]
theorem wh_euclid {S : Type} {fuel : Nat} (f : Int × Int → SM S (Fl (Int × Int) (Int × Int) (Int × Int))) (tst : Int × Int → SM S Bool) (ht : ∀ l, tst l = ret (l.2 != 0)) (hf : ∀ l : Int × Int, 0 < l.2 → f l = ret (.nx (l.2, l.1 % l.2))) : ∀ {x y : Int}, 0 ≤ x → 0 ≤ y → y.toNat < fuel →
    (whileM_ fuel tst f (x, y) : SM S (Lp (Int × Int) (Int × Int))) = ret (.dn ((Int.gcd x y : Int), 0)) := by
  induction fuel with
  | zero => intro x y _ _ h; omega
  | succ fuel ih =>
    intro x y hx hy h
    unfold whileM_
    rw [ht, bnd_ret]
    by_cases h0 : y = 0
    · subst h0
      have e : Int.gcd x 0 = x.natAbs := Int.gcd_zero_right x
      rw [if_neg (by simp), e, Int.natAbs_of_nonneg hx]
    · have hp : 0 < y := by omega
      rw [if_pos (by simp [h0]), hf _ hp, bnd_ret]
      have hm0 := Int.emod_nonneg x h0
      have hm1 := Int.emod_lt_of_pos x hp
      have z := ih (x := y) (y := x % y) hy hm0 (by omega)
      have eg : Int.gcd y (x % y) = Int.gcd x y := by
        unfold Int.gcd
        rw [Int.natAbs_emod_of_nonneg hx, Nat.gcd_comm, ← Nat.gcd_rec, Nat.gcd_comm]
      rw [eg] at z
      exact z
theorem divM_pos {S : Type} {i j : Int} (h : 0 < j) (h2 : j < 2 ^ 30) : (divM i j : SM S Int) = ret (i / j) := by
  unfold divM grdI
  rw [grd_t (by unfold L2.CDivN; omega)]
  show ret (i.fdiv j) = _
  rw [Int.fdiv_eq_ediv_of_nonneg i (by omega)]
theorem gcd_abs {x y : Int} : Int.gcd (if x < 0 then -x else x) (if y < 0 then -y else y) = Int.gcd x y := by
  split <;> split <;> simp [Int.neg_gcd, Int.gcd_neg]
theorem gcd_le {x y : Int} (h : 0 < y) : (Int.gcd x y : Int) ≤ y := Int.le_of_dvd h (Int.gcd_dvd_right ..)
theorem lowest_eq {x y : Int} (h : 0 < y) (h2 : y < 2 ^ 30) : m_lowest (x, y) = ret (low x y) := by
  unfold m_lowest o_lowest low
  simp only [bnd_assoc, bnd_ret]
  rw [wh_euclid _ _ (fun l => rfl) (fun l hl => by rw [modM_ok hl, bnd_ret]) (by split <;> omega) (by split <;> omega) (by rw [if_neg (by omega)]; omega), gcd_abs]
  have hg := gcd_pos (x := x) h
  simp only [lpM_dn, bnd_ret, h, decide_true, if_true, mulM_sm (show Sml 1 by unfold Sml; decide), Int.one_mul, divM_pos hg (Int.lt_of_le_of_lt (gcd_le h) h2), runB_rt]
theorem is_less_eq {p q : Int × Int} (h : Sml p.2) (h2 : Sml q.2) : m_is_less (p, q) = ret (lessF p q) := by
  unfold m_is_less o_is_less lessF
  simp only [bnd_assoc, bnd_ret, mulM_sm2 h, mulM_sm2 h2, runB_rt]
theorem worth_eq {w c : Int × Int} (h : Sml c.1) (h2 : c.2 < 2 ^ 30) (hp : 0 < c.2) : m_worth (w, c) = ret (worthL w c) := by
  unfold m_worth o_worth worthL
  simp only [bnd_assoc, bnd_ret, mulM_sm2 h, mulM_sm2 (show Sml c.2 by unfold Sml; omega), lowest_eq hp h2, lft_ret, runB_rt]
  rfl
/-- a right cost, reduced -/
structure Cost (c : Int × Int) : Prop where
  n : 0 ≤ c.1
  p : 0 < c.2
  s1 : Sml c.1
  s2 : c.2 < 2 ^ 30
  g : low c.1 c.2 = c
theorem eqD_ok {S : Type} {x y : PySem.PyData} (h : PySem.SeqAt.shaped x = true ∧ PySem.SeqAt.shaped y = true) : (eqD x y : SM S Bool) = ret (PySem.PyData.eqv x y) := by
  unfold eqD
  rw [grd_t h, bnd_ret]
theorem is_fraction_eq {c : Int × Int} (h : Cost c) : m_is_fraction c = ret true := by
  have e1 : decide (1 ≤ c.2) = true := decide_eq_true (by have := h.p; omega)
  unfold m_is_fraction o_is_fraction
  simp only [bnd_assoc, bnd_ret, e1, if_true]
  rw [lowest_eq h.p h.s2, lft_ret, bnd_ret, h.g]
  rw [eqD_ok (by constructor <;> rfl), bnd_ret, runB_rt]
  congr 1
  exact PySem.SeqAt.eqv_refl _ rfl
theorem is_cost_eq {c : Int × Int} (h : Cost c) : m_is_cost c = ret true := by
  unfold m_is_cost o_is_cost
  simp only [bnd_assoc, bnd_ret, is_fraction_eq h, lft_ret, if_true, decide_eq_true h.n, runB_rt]
theorem check_cost_eq {c : Int × Int} (h : Cost c) : m_check_cost c = ret () := by
  unfold m_check_cost o_check_cost
  simp only [bnd_assoc, bnd_ret, is_cost_eq h, lft_ret, Bool.not_true, Bool.false_eq_true, if_false]
  exact runP_nx
theorem low_le {x y : Int} (h : 0 < y) : (low x y).2 ≤ y := by
  unfold low
  exact Int.ediv_le_self _ (by omega)
theorem longest_eq {t : TapeV} {asks : List Int} {row : List (Int × Int)} {c : Int × Int} (h : Fit t asks row) (hc : Cost c) : m_longest (t, asks, row, c) = ret (longL (waitsL t asks row) c) := by
  unfold m_longest o_longest longL
  simp only [bnd_assoc, bnd_ret, waits_eq h, check_cost_eq hc, lft_ret]
  rw [forM_nx (fun (m : Int × Int) (w : Option (Int × Int)) => match w with | some w => if lessF m (worthL w c) = true then worthL w c else m | none => m) _ _ ?_]
  · rw [lpM_dn]; exact runB_rt _
  · intro ys x zs e
    have hp := hc.p
    have inv : ∀ (ys : Fd) (m : Int × Int), 0 < m.2 ∧ m.2 ≤ c.2 → 0 < (ys.foldl (fun (m : Int × Int) (w : Option (Int × Int)) => match w with | some w => if lessF m (worthL w c) = true then worthL w c else m | none => m) m).2 ∧ (ys.foldl (fun (m : Int × Int) (w : Option (Int × Int)) => match w with | some w => if lessF m (worthL w c) = true then worthL w c else m | none => m) m).2 ≤ c.2 := by
      intro ys
      induction ys with
      | nil => intro m h; exact h
      | cons y ys ih =>
        intro m h
        rw [List.foldl_cons]
        refine ih _ ?_
        cases y with
        | none => exact h
        | some w =>
          dsimp only
          split
          · exact ⟨low_pos hc.p, low_le hc.p⟩
          · exact h
    have hm := inv ys (0, 1) ⟨by decide, by show (1 : Int) ≤ c.2; omega⟩
    generalize ys.foldl _ _ = m at *
    have h30 := hc.s2
    cases x with
    | none => simp only [Option.isSome_none, Bool.false_eq_true, if_false, bnd_ret, thn_nx]
    | some w =>
      have h1 := low_le (x := numr c w) hc.p
      have h2 := low_pos (x := numr c w) hc.p
      simp only [Option.isSome_some, if_true, optM, bnd_ret, worth_eq hc.s1 hc.s2 hc.p, lft_ret]
      rw [is_less_eq (by unfold Sml; omega) (by unfold Sml worthL; omega), lft_ret, bnd_ret]
      cases lessF m (worthL w c) with
      | true => simp only [if_true, bnd_ret, thn_nx]
      | false => simp only [Bool.false_eq_true, if_false, bnd_ret, thn_nx]
theorem head_get {xs : List Int} (h : xs ≠ []) {S : Type} : (ixM xs 0 : SM S Int) = ret (xs.headD 0) := by
  have : 0 < xs.length := List.length_pos_iff.mpr h
  rw [ixM_get 0 (by omega) (by omega)]
  cases xs with
  | nil => exact absurd rfl h
  | cons a l => rfl
theorem last_get {xs : List Int} (h : xs ≠ []) {S : Type} : (ixM xs (-1) : SM S Int) = ret (lastI xs) := ixM_last h
theorem cut_take {T : Type} {xs : List T} {n : Nat} (h : n ≤ xs.length) : cutL xs none (some (n : Int)) = xs.take n := by
  unfold cutL
  rw [HT.sIx_none, HT.sIx_nat, Nat.min_eq_left h]
  rfl
end Tk

set_option Elab.async false
set_option linter.all false
set_option maxRecDepth 100000
set_option maxHeartbeats 4000000
namespace Tk
open Td Tp L2
/-! ### the law's own defs -/
theorem eu {S : Type} {A : Type} (f : Int × Int → A → SM S (Fl (Int × Int) (Int × Int) (Int × Int))) (h0 : ∀ l a, l.2 = 0 → f l a = ret (.bk l)) (h1 : ∀ l a, 0 < l.2 → f l a = ret (.nx (l.2, l.1 % l.2))) :
    ∀ (xs : List A) (x y : Int) (k : Nat), 0 ≤ y → y ≤ x → x * y < 2 ^ k → k + 1 ≤ xs.length → forM_ xs f (x, y) = ret (.dn ((Int.gcd x y : Int), 0))
  | [], _, _, _, _, _, _, h => by simp at h
  | a :: xs, x, y, k, hy, hxy, hk, hl => by
    unfold forM_
    by_cases e : y = 0
    · subst e
      rw [h0 _ _ rfl, bnd_ret]
      have e : Int.gcd x 0 = x.natAbs := Int.gcd_zero_right x
      rw [e, Int.natAbs_of_nonneg (by omega)]
    · have hp : 0 < y := by omega
      rw [h1 _ _ hp, bnd_ret]
      have m0 := Int.emod_nonneg x e
      have m1 := Int.emod_lt_of_pos x hp
      have eg : Int.gcd y (x % y) = Int.gcd x y := by
        unfold Int.gcd
        rw [Int.natAbs_emod_of_nonneg (by omega), Nat.gcd_comm, ← Nat.gcd_rec, Nat.gcd_comm]
      rw [← eg]
      match k, hk, hl with
      | 0, hk, _ =>
        have : 0 < x * y := Int.mul_pos (by omega) hp
        simp at hk
        omega
      | k + 1, hk, hl =>
        refine eu f h0 h1 xs y (x % y) k m0 (by omega) ?_ (by simpa using hl)
        have hd : x = y * (x / y) + x % y := (Int.mul_ediv_add_emod x y).symm
        have hq : 1 ≤ x / y := (Int.le_ediv_iff_mul_le hp).mpr (by omega)
        have hyq : y * 1 ≤ y * (x / y) := Int.mul_le_mul_of_nonneg_left hq (by omega)
        have h2 : 2 * (x % y) < x := by omega
        have h3 : y * (2 * (x % y)) < y * x := Int.mul_lt_mul_of_pos_left h2 hp
        rw [Int.pow_succ] at hk
        have e1 : y * (2 * (x % y)) = 2 * (y * (x % y)) := Int.mul_left_comm ..
        have e2 : y * x = x * y := Int.mul_comm ..
        omega
theorem eu2 {S : Type} {A : Type} (f : Int × Int → A → SM S (Fl (Int × Int) (Int × Int) (Int × Int))) (h0 : ∀ l a, l.2 = 0 → f l a = ret (.bk l)) (h1 : ∀ l a, 0 < l.2 → f l a = ret (.nx (l.2, l.1 % l.2))) (xs : List A) {x y : Int} (hx : 0 ≤ x) (hy : 0 ≤ y) (h : y * y < 2 ^ 400) (hl : 402 ≤ xs.length) : forM_ xs f (x, y) = ret (.dn ((Int.gcd x y : Int), 0)) := by
  match xs, hl with
  | a :: xs, hl =>
    unfold forM_
    by_cases e : y = 0
    · subst e
      rw [h0 _ _ rfl, bnd_ret]
      have e : Int.gcd x 0 = x.natAbs := Int.gcd_zero_right x
      rw [e, Int.natAbs_of_nonneg hx]
    · have hp : 0 < y := by omega
      rw [h1 _ _ hp, bnd_ret]
      have m0 := Int.emod_nonneg x e
      have m1 := Int.emod_lt_of_pos x hp
      have eg : Int.gcd y (x % y) = Int.gcd x y := by
        unfold Int.gcd
        rw [Int.natAbs_emod_of_nonneg hx, Nat.gcd_comm, ← Nat.gcd_rec, Nat.gcd_comm]
      have z := eu f h0 h1 xs y (x % y) 400 m0 (by omega) (Int.lt_of_le_of_lt (Int.mul_le_mul_of_nonneg_left (by omega) (by omega)) h) (by simpa using hl)
      rw [← eg]
      exact z
theorem ratio_eq {x y : Int} (h : 0 < y) (h2 : y < 2 ^ 30) : m__law_td_ratio (x, y) = ret (low x y) := by
  unfold m__law_td_ratio o__law_td_ratio low
  simp only [bnd_assoc, bnd_ret, rngG_ok (show -(2 ^ 62) ≤ (500 : Int) ∧ (500 : Int) < 2 ^ 62 by decide)]
  have hyy : y * y < 2 ^ 400 := by
    have : y * y < 2 ^ 30 * 2 ^ 30 := Int.mul_lt_mul h2 (by omega) (by omega) (by decide)
    exact Int.lt_trans this (by decide)
  have ey : (if y < 0 then -y else y) = y := if_neg (by omega)
  rw [eu2 _ (fun l a e => by rw [decide_eq_true e, if_pos rfl]; rfl) (fun l a hl => by
    have e : ¬ l.2 = 0 := by omega
    simp only [e, decide_false, Bool.false_eq_true, if_false, modM_ok hl, bnd_ret]) (upto 0 (Int.toNat 500)) (by split <;> omega) (by rw [ey]; omega) (by rw [ey]; exact hyy) (by decide), gcd_abs]
  have hg := gcd_pos (x := x) h
  simp only [lpM_dn, bnd_ret, h, decide_true, if_true, mulM_sm (show Sml 1 by unfold Sml; decide), Int.one_mul, divM_pos hg (Int.lt_of_le_of_lt (gcd_le h) h2), runB_rt]
theorem comes_eq {w c : Int × Int} (h : Sml c.1) (h2 : c.2 < 2 ^ 30) (hp : 0 < c.2) : m__law_td_comes (w, c) = ret (worthL w c) := by
  unfold m__law_td_comes o__law_td_comes worthL
  simp only [bnd_assoc, bnd_ret, mulM_sm2 h, mulM_sm2 (show Sml c.2 by unfold Sml; omega), ratio_eq hp h2, lft_ret, runB_rt]
  rfl
theorem low_low {x y : Int} (h : 0 < y) : low (low x y).1 (low x y).2 = low x y := by
  have hg := gcd_pos (x := x) h
  have : Int.gcd (low x y).1 (low x y).2 = 1 := by
    unfold low
    exact Int.gcd_ediv_gcd_ediv_gcd (by omega)
  unfold low at this ⊢
  dsimp only at this ⊢
  rw [this]
  simp
theorem low_n {x y : Int} (h0 : 0 ≤ x) : 0 ≤ (low x y).1 ∧ (low x y).1 ≤ x := by
  unfold low
  exact ⟨Int.ediv_nonneg h0 (by omega), Int.ediv_le_self _ h0⟩
theorem low_cost {x y : Int} (h0 : 0 ≤ x) (h1 : x < 2 ^ 30) (h2 : 0 < y) (h3 : y < 2 ^ 30) : Cost (low x y) := by
  have a := low_n (y := y) h0
  have b := low_le (x := x) h2
  exact ⟨a.1, low_pos h2, by unfold Sml; omega, by omega, low_low h2⟩
theorem hw_price {n : Nat} {s : List Int} (hn : n < 2 ^ 90) (hg : Gd n s) : Hw (m__law_td_price ()) s fun c s' => Cost c ∧ Gd (n + 4) s' := by
  unfold m__law_td_price o__law_td_price
  simp only [bnd_assoc, bnd_ret, runB_bnd]
  rw [lenG_ok (hz_small (k := 3) (Nat.le_refl _) (by omega)), bnd_ret]
  refine hw_bnd (hw_mono (hw_pick (by decide) (by decide) (by omega) hg) fun v s ⟨hv, hg⟩ => ?_)
  have p1 : ∀ v : Int, 0 ≤ v ∧ v < 3 → ∃ z : Int, (ixM [1, 6, 101] v : SM (List Int) Int) = ret z ∧ 0 < z ∧ z ≤ 101 := fun v hv => by
    rcases (show v = 0 ∨ v = 1 ∨ v = 2 by omega) with e | e | e <;> subst e
    · exact ⟨1, rfl, by decide, by decide⟩
    · exact ⟨6, rfl, by decide, by decide⟩
    · exact ⟨101, rfl, by decide, by decide⟩
  have p2 : ∀ v : Int, 0 ≤ v ∧ v < 3 → ∃ z : Int, (ixM [1, 5, 100] v : SM (List Int) Int) = ret z ∧ 0 < z ∧ z ≤ 101 := fun v hv => by
    rcases (show v = 0 ∨ v = 1 ∨ v = 2 by omega) with e | e | e <;> subst e
    · exact ⟨1, rfl, by decide, by decide⟩
    · exact ⟨5, rfl, by decide, by decide⟩
    · exact ⟨100, rfl, by decide, by decide⟩
  obtain ⟨z, e, z0, z1⟩ := p1 v hv
  rw [e, bnd_ret]
  refine hw_bnd (hw_mono (hw_pick z0 (by omega) (by omega) hg) fun a s ⟨ha, hg⟩ => ?_)
  rw [lenG_ok (hz_small (k := 3) (Nat.le_refl _) (by omega)), bnd_ret]
  refine hw_bnd (hw_mono (hw_pick (by decide) (by decide) (by omega) hg) fun v s ⟨hv, hg⟩ => ?_)
  obtain ⟨y, e, y0, y1⟩ := p2 v hv
  rw [e, bnd_ret]
  refine hw_bnd (hw_mono (hw_pick y0 (by omega) (by omega) hg) fun b s ⟨hb, hg⟩ => ?_)
  rw [ratio_eq (by omega) (by omega), lft_ret, bnd_ret, runB_rt]
  exact hw_ret ⟨low_cost (by omega) (by omega) (by omega) (by omega), hg⟩
end Tk

set_option Elab.async false
set_option linter.all false
set_option maxRecDepth 100000
set_option maxHeartbeats 4000000
namespace Tk
open Td Tp L2 PySem
theorem init_eq {L : Int} {fs : List (Int × Int)} (h : 1 ≤ L) (hf : FOk L 0 fs) : m_Tape_DinitD (L, fs) TS0.new = .ok () (.full (L, fs)) := by
  unfold m_Tape_DinitD o_Tape_DinitD
  have e1 : decide (L < 1) = false := decide_eq_false (by omega)
  simp only [bnd_assoc, bnd_ret, e1, Bool.false_eq_true, if_false]
  have main : ∀ (fs : List (Int × Int)) (e : Int) (f : Int → Int × Int → SM TS0 (Fl Int Int Unit)), (∀ (e : Int) (d : Int × Int), e ≤ d.1 → d.1 < d.2 → d.2 ≤ L → f e d = ret (.nx d.2)) → FOk L e fs → ∃ z, forM_ fs f e = ret (.dn z) := by
    intro fs
    induction fs with
    | nil => intro e f _ _; exact ⟨e, rfl⟩
    | cons d r ih =>
      intro e f hf h
      obtain ⟨a, b, c, k⟩ := h
      unfold forM_
      rw [hf e d a b c, bnd_ret]
      exact ih d.2 f hf k
  suffices hs : ∃ z, forM_ fs _ (0 : Int) = ret (.dn z) by
    obtain ⟨z, hz⟩ := hs
    rw [hz, lpM_dn]
    rfl
  refine main fs 0 _ (fun e d a b c => ?_) hf
  simp only [decide_eq_true a, decide_eq_true b, decide_eq_true c, if_true, bnd_ret, Bool.not_true, Bool.false_eq_true, if_false]
theorem make_eq {S : Type} {L : Int} {fs : List (Int × Int)} (h : 1 ≤ L) (hf : FOk L 0 fs) {U : Type} (k : TapeV → SM S U) : (bnd (subM (m_Tape_DinitD (L, fs)) TS0.new) fun r => bnd (tapeM r.2) k) = k (L, fs) := by
  have : (subM (m_Tape_DinitD (L, fs)) TS0.new : SM S (Unit × TS0)) = ret ((), .full (L, fs)) := by
    funext s
    unfold subM
    rw [init_eq h hf]
    rfl
  rw [this, bnd_ret]
  rfl
theorem dnto_cons (m : Nat) : dnto ((m + 1 : Nat) : Int) (m + 1) = ((m + 1 : Nat) : Int) :: dnto (m : Int) m := by
  unfold dnto
  rw [List.range_succ_eq_map, List.map_cons, List.map_map]
  congr 1
  apply List.map_congr_left
  intro i _
  simp only [Function.comp]
  omega
theorem dnto_row (l : Nat → Int) : ∀ (m : Nat) (g : Int → Int × Int), (∀ j : Nat, 0 < j → j ≤ m → g (j : Int) = ((j : Int), l j)) → (dnto (m : Int) m).map g = dnRow l m
  | 0, _, _ => rfl
  | m + 1, g, h => by
    rw [dnto_cons, List.map_cons, h (m + 1) (by omega) (by omega), dnRow, dnto_row l m g fun j h0 h1 => h j h0 (by omega)]
theorem dnto_dn : ∀ m : Nat, dnto (m : Int) (m + 1) = dnI m
  | 0 => rfl
  | m + 1 => by
    have h : dnto ((m + 1 : Nat) : Int) (m + 1 + 1) = ((m + 1 : Nat) : Int) :: dnto (m : Int) (m + 1) := by
      unfold dnto
      rw [List.range_succ_eq_map, List.map_cons, List.map_map]
      congr 1
      apply List.map_congr_left
      intro i _
      simp only [Function.comp]
      omega
    rw [h, dnto_dn m]
    rfl
theorem up1 (n : Nat) : upto 1 n = (upI n).map (· + 1) := by
  rw [← upto_up]
  unfold upto
  rw [List.map_map]
  apply List.map_congr_left
  intro i _
  simp only [Function.comp]
  omega
theorem reprM_pair {S : Type} {x : Int × Int} (h1 : x.1.natAbs.log2 < 1920) (h2 : x.2.natAbs.log2 < 1920) : (reprM (dP PyData.int PyData.int x) : SM S Str) = ret (PyData.shown (dP PyData.int PyData.int x)) := by
  unfold reprM
  rw [grd_t, bnd_ret]
  refine ⟨?_, rfl, (by show PyData.depth (.tuple [.int x.1, .int x.2]) ≤ 60; simp [PyData.depth, PyData.depthAll]), ?_⟩
  · show (PyData.showable (.int x.1) && (PyData.showable (.int x.2) && true)) = true
    simp [PyData.showable, h1, h2]
  · have l : PyData.leavesShort 1921 (dP PyData.int PyData.int x) = true := by
      show (decide ((PyData.shown (.int x.1)).length ≤ 1921) && (decide ((PyData.shown (.int x.2)).length ≤ 1921) && true)) = true
      have a := PyProof.Rows.int_text_len_1921 h1
      have b := PyProof.Rows.int_text_len_1921 h2
      rw [Bool.and_true, Bool.and_eq_true, decide_eq_true_eq, decide_eq_true_eq]
      exact ⟨a, b⟩
    refine Nat.le_trans (PyData.shown_le 1921 (by decide) _ l) ?_
    have w : PyData.weight (dP PyData.int PyData.int x) ≤ 3850 := by
      show PyData.weight (.int x.1) + 1 + (PyData.weight (.int x.2) + 1 + 0) ≤ 3850
      unfold PyData.weight
      split <;> split <;> omega
    have : (1921 + 2) * PyData.weight (dP PyData.int PyData.int x) + 1921 ≤ 8000000 := by
      generalize PyData.weight (dP PyData.int PyData.int x) = z at *
      omega
    exact hz_small this (by omega)
theorem log2_sm {x : Int} (h : -(2 ^ 200) < x ∧ x < 2 ^ 200) : x.natAbs.log2 < 1920 := by
  have : x.natAbs < 2 ^ 1920 := Nat.lt_of_lt_of_le (show x.natAbs < 2 ^ 200 by omega) (Nat.pow_le_pow_right (by decide) (by decide))
  exact Flt.log2_lt_of (by decide) this
/-! ### waits by lookup -/
theorem zip_flat {A B C : Type} (f : A → List C) : ∀ (xs : List A) (ys : List B), xs.length = ys.length → ((xs.zip ys).flatMap fun x => f x.1) = xs.flatMap f
  | [], _, _ => rfl
  | x :: xs, y :: ys, h => by rw [List.zip_cons_cons, List.flatMap_cons, List.flatMap_cons, zip_flat f xs ys (by simpa using h)]
theorem trsG_flat (t : Tape) (row : List (Int × Int)) (a z : Int) (runs : List (List Int)) (h : runs.length = row.length + 1) : ((trsG t row a z runs).flatMap fun x => [x.1.1, x.1.2]) = (row.flatMap fun d => [bg t d.1, en t d.2]) ++ [bg t a, en t z] := by
  unfold trsG
  rw [zip_flat (fun x : Int × Int => [x.1, x.2]) _ _ (by simp [h]), List.flatMap_append, List.flatMap_map]
  simp
theorem waits_get {t : TapeV} {asks : List Int} {row : List (Int × Int)} (h : Fit t asks row) (hne : askedL asks ≠ []) {i : Nat} (hi : i < asks.length) :
    (waitsL t asks row)[i]? = match lk t (trsG t row ((askedL asks).headD 0) (lastI (lastR (fr (askedL asks) row))) (fr (askedL asks) row)) t.1 0 0 i with | some w => some (some w) | none => some none := by
  have ew : wayL t asks row = (trsG t row ((askedL asks).headD 0) (lastI (lastR (fr (askedL asks) row))) (fr (askedL asks) row)).flatMap fun x => [x.1.1, x.1.2] := by
    rw [trsG_flat _ _ _ _ _ (fr_len _ _)]
    unfold wayL
    rw [if_neg (by simpa using hne)]
  unfold waitsL
  rw [ew, show (0 : Nat) = 2 * 0 from rfl, wStep_trs t _ _ 0 _ _ _ ?_, wTr_get]
  · rw [List.getElem?_map, List.getElem?_eq_getElem hi]
    rfl
  · intro x hx y hy
    have : x.2 ∈ fr (askedL asks) row := by
      unfold trsG at hx
      exact (List.of_mem_zip (a := x.1) (b := x.2) hx).2
    exact (asked_nn y (fr_mem this hy)).1
  · have hp := fr_apart (u := askedL asks) (row := row)
    have e : (trsG t row ((askedL asks).headD 0) (lastI (lastR (fr (askedL asks) row))) (fr (askedL asks) row)).map (·.2) = fr (askedL asks) row := by
      unfold trsG
      rw [List.map_snd_zip]
      simp [fr_len]
    rw [← e] at hp
    exact List.pairwise_map.mp hp
  · rw [List.length_map]; exact hi
  · intro j x hx
    unfold trsG at hx
    rw [List.getElem?_zip_eq_some] at hx
    rw [Nat.zero_add]
    exact hx.2
end Tk

set_option Elab.async false
set_option linter.all false
set_option maxRecDepth 100000
set_option maxHeartbeats 4000000
namespace Tk
open Td Tp L2
theorem pick_step {U : Type} {u : Int} {n : Nat} {s : List Int} {k : Int → SM (List Int) U} {P : U → List Int → Prop} (h0 : 0 < u) (hu : u ≤ 2 ^ 190) (hn : n ≤ 100000) (hg : Gd n s) (h : ∀ v s', 0 ≤ v → v < u → Gd (n + 1) s' → Hw (k v) s' P) : Hw (bnd (m__law_td_pick u) k) s P := by
  have hu' : u < 2 ^ 200 := Int.lt_of_le_of_lt hu (by decide)
  have hn' : n < 2 ^ 100 := Nat.lt_of_le_of_lt hn (by decide)
  exact hw_seq (hw_pick h0 hu' hn' hg) fun v s' q => h v s' q.1.1 q.1.2 q.2
theorem len2 {S : Type} (a b : Int) : (lenG [a, b] : SM S Unit) = Td.ret () := lenG_ok (hz_small (k := 2) (Nat.le_refl _) (by omega))
theorem len3 {S : Type} (a b c : Int) : (lenG [a, b, c] : SM S Unit) = Td.ret () := lenG_ok (hz_small (k := 3) (Nat.le_refl _) (by omega))
theorem len5 {S : Type} (a b c d e : Int) : (lenG [a, b, c, d, e] : SM S Unit) = Td.ret () := lenG_ok (hz_small (k := 5) (Nat.le_refl _) (by omega))
theorem len0 {S T : Type} : (lenG ([] : List T) : SM S Unit) = Td.ret () := lenG_ok (by simp)
theorem len1 {S T : Type} (a : T) : (lenG [a] : SM S Unit) = Td.ret () := lenG_ok (hz_small (k := 1) (Nat.le_refl _) (by omega))
theorem ix2 {S : Type} {a b v : Int} (h0 : 0 ≤ v) (h1 : v < 2) : (ixM [a, b] v : SM S Int) = Td.ret (if v = 0 then a else b) := by
  rcases (show v = 0 ∨ v = 1 by omega) with e | e <;> subst e <;> rfl
theorem ix3 {S : Type} {a b c v : Int} (h0 : 0 ≤ v) (h1 : v < 3) : (ixM [a, b, c] v : SM S Int) = Td.ret (if v = 0 then a else if v = 1 then b else c) := by
  rcases (show v = 0 ∨ v = 1 ∨ v = 2 by omega) with e | e | e <;> subst e <;> rfl
/-- a tape's length and files, drawn -/
structure Shp (m : Nat) (sh : Int × List (Int × Int)) : Prop where
  f : FOk sh.1 0 sh.2
  m : sh.2.length ≤ m
  l : 1 ≤ sh.1
  h : sh.1 ≤ 2000000
theorem hw_shape {n : Nat} {s : List Int} {most : Int} (h0 : 0 ≤ most) (h8 : most ≤ 8) (hn : n ≤ 1000) (hg : Gd n s) : Hw (m__law_td_shape most) s fun sh s' => Shp 8 sh ∧ Gd (n + 40) s' := by
  unfold m__law_td_shape o__law_td_shape
  simp only [bnd_assoc, bnd_ret, runB_bnd]
  refine pick_step (by omega) (by omega) (by omega) hg fun many s hm0 hm1 hg => ?_
  have ht : ∃ top : Int, (divM 54 (if many > 1 then many else 1) : SM (List Int) Int) = Td.ret top ∧ 6 ≤ top ∧ top ≤ 54 := by
    refine ⟨54 / (if many > 1 then many else 1), divM_pos (by split <;> omega) (by split <;> omega), ?_, ?_⟩
    · exact (Int.le_ediv_iff_mul_le (by split <;> omega)).mpr (by split <;> omega)
    · exact Int.ediv_le_self _ (by omega)
  obtain ⟨top, et, t0, t1⟩ := ht
  rw [et, bnd_ret]
  refine pick_step (by omega) (by omega) (by omega) hg fun spot s hs0 hs1 hg => ?_
  rw [len0, bnd_ret, rngG_ok (by omega), bnd_ret, upto_up]
  obtain ⟨k, hk⟩ : ∃ k : Nat, many = (k : Int) := ⟨many.toNat, by omega⟩
  subst hk
  rw [show (Int.toNat (k : Int)) = k by omega]
  refine hw_runB (hw_lp ?_)
  refine hw_mono (hw_forN (fun j (l : List (Int × Int) × Int) s => FOk l.2 0 l.1 ∧ l.1.length = j ∧ 0 ≤ l.2 ∧ l.2 ≤ 3 + 60 * j ∧ Gd (n + 2 + 4 * j) s) (upI k) ⟨trivial, rfl, hs0, by omega, hg⟩ fun j a l s ha hj => ?_) fun e s q => ?_
  · obtain ⟨f1, f2, f3, f4, hg⟩ := hj
    have hjk : j < k := by
      have := (List.getElem?_eq_some_iff.mp ha).1
      rwa [upI_len] at this
    rw [len2, bnd_ret]
    refine pick_step (by omega) (by omega) (by omega) hg fun v s v0 v1 hg => ?_
    rw [ix2 v0 v1, bnd_ret]
    refine pick_step (by split <;> omega) (by split <;> omega) (by omega) hg fun z s z0 z1 hg => ?_
    have z2 : z < 54 := by split at z1 <;> omega
    rw [pushM_ok (hz_small (n := l.1.length + 1) (k := 100) (by omega) (by omega)), bnd_ret]
    refine pick_step (by omega) (by omega) (by omega) hg fun g s g0 g1 hg => ?_
    rw [len2, bnd_ret]
    refine pick_step (by omega) (by omega) (by omega) hg fun b s b0 b1 hg => ?_
    rw [ix2 b0 b1, bnd_ret]
    refine hw_ret ⟨fok_snoc (d := (l.2, l.2 + (1 + z))) (Int.le_refl _) (by dsimp only; omega) (by dsimp only; split <;> omega) f3 f1, by rw [List.length_append, f2]; rfl, by dsimp only; split <;> omega, by dsimp only; push_cast; split <;> omega, ?_⟩
    exact hg.le (by omega)
  · cases e with
    | rt b => exact q.elim
    | dn l =>
      obtain ⟨f1, f2, f3, f4, hg⟩ := q
      rw [upI_len] at f2 f4 hg
      refine pick_step (by omega) (by omega) (by omega) hg fun v s v0 v1 hg => ?_
      refine hw_ret ⟨⟨fok_mono (by dsimp only; split <;> omega) f1, by dsimp only; omega, by dsimp only; split <;> omega, by dsimp only; split <;> omega⟩, hg.le (by omega)⟩
end Tk

set_option Elab.async false
set_option linter.all false
set_option maxRecDepth 100000
set_option maxHeartbeats 4000000
namespace Tk
open Td Tp L2
theorem hw_wide {n : Nat} {s : List Int} (hn : n ≤ 1000) (hg : Gd n s) : Hw (m__law_td_wide_shape ()) s fun sh s' => Shp 60 sh ∧ Gd (n + 200) s' := by
  unfold m__law_td_wide_shape o__law_td_wide_shape
  simp only [bnd_assoc, bnd_ret, runB_bnd]
  refine pick_step (by omega) (by omega) (by omega) hg fun spot s hs0 hs1 hg => ?_
  rw [len0, bnd_ret]
  refine pick_step (by omega) (by omega) (by omega) hg fun m1 s m10 m11 hg => ?_
  rw [len2, bnd_ret]
  refine pick_step (by omega) (by omega) (by omega) hg fun m2 s m20 m21 hg => ?_
  rw [ix2 m20 m21, bnd_ret]
  obtain ⟨k, hk, hk60⟩ : ∃ k : Nat, (if m2 = 0 then m1 else 60) = (k : Int) ∧ k ≤ 60 := ⟨(if m2 = 0 then m1 else 60).toNat, by split <;> omega, by split <;> omega⟩
  rw [hk, rngG_ok (by omega), bnd_ret, upto_up]
  rw [show (Int.toNat (k : Int)) = k by omega]
  refine hw_runB (hw_lp ?_)
  refine hw_mono (hw_forN (fun j (l : List (Int × Int) × Int) s => FOk l.2 0 l.1 ∧ l.1.length = j ∧ 0 ≤ l.2 ∧ l.2 ≤ 9000 + 16000 * j ∧ Gd (n + 3 + 3 * j) s) (upI k) ⟨trivial, rfl, hs0, by omega, hg⟩ fun j a l s ha hj => ?_) fun e s q => ?_
  · obtain ⟨f1, f2, f3, f4, hg⟩ := hj
    have hjk : j < k := by
      have := (List.getElem?_eq_some_iff.mp ha).1
      rwa [upI_len] at this
    refine pick_step (by omega) (by omega) (by omega) hg fun z s z0 z1 hg => ?_
    rw [pushM_ok (hz_small (n := l.1.length + 1) (k := 100) (by omega) (by omega)), bnd_ret]
    refine pick_step (by omega) (by omega) (by omega) hg fun g s g0 g1 hg => ?_
    rw [len2, bnd_ret]
    refine pick_step (by omega) (by omega) (by omega) hg fun b s b0 b1 hg => ?_
    rw [ix2 b0 b1, bnd_ret]
    refine hw_ret ⟨fok_snoc (d := (l.2, l.2 + (1 + z))) (Int.le_refl _) (by dsimp only; omega) (by dsimp only; split <;> omega) f3 f1, by rw [List.length_append, f2]; rfl, by dsimp only; split <;> omega, by dsimp only; push_cast; split <;> omega, ?_⟩
    exact hg.le (by omega)
  · cases e with
    | rt b => exact q.elim
    | dn l =>
      obtain ⟨f1, f2, f3, f4, hg⟩ := q
      rw [upI_len] at f2 f4 hg
      refine pick_step (by omega) (by omega) (by omega) hg fun v s v0 v1 hg => ?_
      refine hw_ret ⟨⟨fok_mono (by dsimp only; split <;> omega) f1, by dsimp only; omega, by dsimp only; split <;> omega, by dsimp only; split <;> omega⟩, hg.le (by omega)⟩
theorem hw_any {n : Nat} {s : List Int} (hn : n ≤ 900) (hg : Gd n s) : Hw (m__law_td_any_shape ()) s fun sh s' => Shp 60 sh ∧ Gd (n + 250) s' := by
  unfold m__law_td_any_shape o__law_td_any_shape
  simp only [bnd_assoc, bnd_ret, runB_bnd]
  refine pick_step (by omega) (by omega) (by omega) hg fun v s v0 v1 hg => ?_
  refine hw_runB (hw_ite (fun _ => hw_esc ?_) fun _ => ?_)
  · exact hw_seq (hw_wide (by omega) hg) fun sh s q => hw_ret ⟨q.1, q.2.le (by omega)⟩
  · exact hw_seq (hw_shape (by omega) (by omega) (by omega) hg) fun sh s q => hw_ret ⟨⟨q.1.f, by have := q.1.m; omega, q.1.l, q.1.h⟩, q.2.le (by omega)⟩
theorem hw_counts {n m : Nat} {s : List Int} {top most : Int} (hm : m ≤ 60) (ht : 0 < top) (ht2 : top ≤ 20) (hn : n ≤ 1000) (hg : Gd n s) : Hw (m__law_td_counts ((m : Int), top, most)) s fun cs s' => (cs.length = m ∧ ∀ c, c ∈ cs → 0 ≤ c ∧ c ≤ 20) ∧ Gd (n + 200) s' := by
  unfold m__law_td_counts o__law_td_counts
  simp only [bnd_assoc, bnd_ret]
  rw [len0, bnd_ret, rngG_ok (by omega), bnd_ret, upto_up]
  rw [show (Int.toNat (m : Int)) = m by omega]
  refine hw_runB (hw_lp ?_)
  refine hw_mono (hw_forN (fun j (l : List Int) s => (l.length = j ∧ ∀ c, c ∈ l → 0 ≤ c ∧ c ≤ 20) ∧ Gd (n + 2 * j) s) (upI m) ⟨⟨rfl, fun c hc => by cases hc⟩, hg⟩ fun j a l s ha hj => ?_) fun e s q => ?_
  · obtain ⟨⟨f1, f2⟩, hg⟩ := hj
    have hjk : j < m := by
      have := (List.getElem?_eq_some_iff.mp ha).1
      rwa [upI_len] at this
    refine pick_step (by omega) (by omega) (by omega) hg fun v s v0 v1 hg => ?_
    rw [len3, bnd_ret]
    refine pick_step (by omega) (by omega) (by omega) hg fun b s b0 b1 hg => ?_
    rw [ix3 b0 b1, bnd_ret]
    rw [lcM_filter (fun x => decide (0 < x)) l (fun x _ => by rw [lcIt_ret]) (hz_small (k := 100) (by omega) (by omega)), bnd_ret, ite_ret, bnd_ret, pushM_ok (hz_small (n := l.length + 1) (k := 100) (by omega) (by omega)), bnd_ret]
    refine hw_ret ⟨⟨by rw [List.length_append, f1]; rfl, fun c hc => ?_⟩, hg.le (by omega)⟩
    rcases List.mem_append.mp hc with hc | hc
    · exact f2 c hc
    · rw [List.mem_singleton] at hc
      subst hc
      repeat' split
      all_goals omega
  · cases e with
    | rt b => exact q.elim
    | dn l =>
      obtain ⟨f, hg⟩ := q
      rw [upI_len] at f hg
      exact hw_ret ⟨f, hg.le (by omega)⟩
theorem lasked_eq {asks : List Int} (h : asks.length ≤ PySem.sizeLine) : m__law_td_asked asks = Td.ret (askedL asks) := by
  unfold m__law_td_asked o__law_td_asked
  simp only [bnd_assoc, bnd_ret, lcIt_ret]
  rw [lcM_ret (fun (x : Int × Int) => if decide (0 < x.2) = true then some x.1 else none) _ _ (fun x _ => rfl) (by rw [enum_len]; simpa using h), bnd_ret, runB_rt, List.nil_append]
  unfold askedL
  simp only [decide_eq_true_eq]
/-- a row of these asks passes the program's look -/
theorem rowGo_of {asks : List Int} : ∀ {row : List (Int × Int)} {edge : Int}, RowP asks row → (∀ d, d ∈ row → d.1 < edge) → rowGo asks (askedL asks) edge row = true
  | [], _, _, _ => rfl
  | d :: r, edge, h, he => by
    obtain ⟨a, b, c, k⟩ := h.m d (List.mem_cons_self ..)
    have hd := List.pairwise_cons.mp h.d
    have a1 := mem_asked.mp a
    have b1 := mem_asked.mp b
    have e := he d (List.mem_cons_self ..)
    have ne : ¬ (askedL asks).isEmpty = true := by
      intro z
      rw [List.isEmpty_iff] at z
      rw [z] at a
      cases a
    rw [rowGo, if_neg ne, if_neg (by simp only [Bool.and_eq_false_iff, decide_eq_false_iff_not]; omega), if_neg (by omega), if_neg (by omega), if_neg (by omega)]
    exact rowGo_of ⟨fun x hx => h.m x (List.mem_cons_of_mem _ hx), hd.2⟩ fun x hx => hd.1 x hx
theorem RowP.sub {asks : List Int} {row row' : List (Int × Int)} (h : RowP asks row) (hs : row'.Sublist row) : RowP asks row' := ⟨fun d hd => h.m d (hs.subset hd), h.d.sublist hs⟩
theorem rowP_len {asks : List Int} {row : List (Int × Int)} (h : RowP asks row) : row.length ≤ asks.length := by
  have main : ∀ (row : List (Int × Int)) (m : Nat), (∀ d, d ∈ row → 0 ≤ d.1 ∧ d.1 < m) → row.Pairwise (fun a b => b.1 < a.1) → row.length ≤ m := by
    intro row
    induction row with
    | nil => intro m _ _; simp
    | cons d r ih =>
      intro m hm hp
      rw [List.pairwise_cons] at hp
      have := hm d (List.mem_cons_self ..)
      have z := ih d.1.toNat (fun x hx => by
        have h1 := hm x (List.mem_cons_of_mem _ hx)
        have h2 := hp.1 x hx
        omega) hp.2
      rw [List.length_cons]
      omega
  exact main row asks.length (fun d hd => by have := mem_asked.mp (h.m d hd).1; omega) h.d
end Tk

set_option Elab.async false
set_option linter.all false
set_option maxRecDepth 100000
set_option maxHeartbeats 4000000
namespace Tk
open Td Tp L2
theorem dnto_get {m : Nat} {hi : Int} {j : Nat} {a : Int} (h : (dnto hi m)[j]? = some a) : j < m ∧ a = hi - j := by
  unfold dnto at h
  rw [List.getElem?_map] at h
  by_cases hj : j < m
  · rw [List.getElem?_range hj] at h
    simp at h
    exact ⟨hj, by omega⟩
  · rw [List.getElem?_eq_none (by rw [List.length_range]; omega)] at h
    cases h
theorem asked_at {asks : List Int} {i : Int} (h0 : 0 ≤ i) (h1 : i < (askedL asks).length) : (askedL asks).getD i.toNat 0 ∈ askedL asks := by
  rw [List.getD_eq_getElem?_getD, List.getElem?_eq_getElem (by omega)]
  exact List.getElem_mem _
theorem asked_lt {asks : List Int} {i j : Int} (h0 : 0 ≤ i) (hij : i < j) (h1 : j < (askedL asks).length) : (askedL asks).getD i.toNat 0 < (askedL asks).getD j.toNat 0 := by
  rw [List.getD_eq_getElem?_getD, List.getElem?_eq_getElem (by omega), List.getD_eq_getElem?_getD, List.getElem?_eq_getElem (by omega)]
  exact List.pairwise_iff_getElem.mp (asked_asc asks) i.toNat j.toNat (by omega) (by omega) (by omega)
theorem headD_get (xs : List Int) : xs.headD 0 = xs.getD (0 : Int).toNat 0 := by cases xs <;> rfl
theorem hw_bends {n : Nat} {s : List Int} {asks : List Int} (hm : asks.length ≤ 60) (hn : n ≤ 1000) (hg : Gd n s) : Hw (m__law_td_bends asks) s fun row s' => RowP asks row ∧ Gd (n + 200) s' := by
  have hz : asks.length ≤ PySem.sizeLine := hz_small hm (by omega)
  have hal := asked_len (asks := asks)
  unfold m__law_td_bends o__law_td_bends
  simp only [bnd_assoc, bnd_ret, lasked_eq hz, lft_ret]
  rw [len0, bnd_ret]
  simp only [runB_bnd]
  refine pick_step (by omega) (by omega) (by omega) hg fun often s _ _ hg => ?_
  refine pick_step (by omega) (by omega) (by omega) hg fun far s fa0 fa1 hg => ?_
  rw [rngG_ok (by omega), bnd_ret, rngG_ok (by omega), bnd_ret]
  refine hw_runB (hw_lp ?_)
  have hdl : (dnto (((askedL asks).length : Int) - 1) (((askedL asks).length : Int) - 1 - 0).toNat).length = (((askedL asks).length : Int) - 1 - 0).toNat := by unfold dnto; simp
  refine hw_mono (hw_forN (fun j (l : List (Int × Int)) s => (RowP asks l ∧ (∀ d, d ∈ l → ∃ r : Int, ((askedL asks).length : Int) - j ≤ r ∧ r < (askedL asks).length ∧ d.1 = (askedL asks).getD r.toNat 0) ∧ l.length ≤ j) ∧ Gd (n + 2 + 2 * j) s) _ ⟨⟨⟨fun d hd => (by cases hd), .nil⟩, fun d hd => (by cases hd), by simp⟩, hg⟩ fun j a l s ha hj => ?_) fun e s q => ?_
  · obtain ⟨⟨f1, f2, f3⟩, hg⟩ := hj
    obtain ⟨hj1, ea⟩ := dnto_get ha
    have hj2 : (j : Int) < ((askedL asks).length : Int) - 1 := by omega
    refine pick_step (by omega) (by omega) (by omega) hg fun v s v0 v1 hg => ?_
    refine hw_thn (hw_ite (fun _ => ?_) fun _ => ?_)
    · refine pick_step (by omega) (by omega) (by omega) hg fun more s m0 m1 hg => ?_
      rw [ixM_get 0 (by omega) (by omega), bnd_ret, len3, bnd_ret, ix3 fa0 fa1, bnd_ret, ixM_get 0 (by split <;> (try split) <;> omega) (by split <;> (try split) <;> omega), bnd_ret, pushM_ok (hz_small (n := l.length + 1) (k := 100) (by omega) (by omega)), bnd_ret]
      refine hw_ret (hw_ret ⟨⟨⟨fun d hd => ?_, ?_⟩, fun d hd => ?_, by rw [List.length_append]; simp only [List.length_cons, List.length_nil]; omega⟩, hg.le (by omega)⟩)
      · rcases List.mem_append.mp hd with hd | hd
        · exact f1.m d hd
        · rw [List.mem_singleton] at hd
          subst hd
          refine ⟨asked_at (by omega) (by omega), asked_at (by split <;> (try split) <;> omega) (by split <;> (try split) <;> omega), ?_, by rw [headD_get]; exact asked_lt (by omega) (by omega) (by omega)⟩
          dsimp only
          generalize hx : (if far = 0 then more else if far = 1 then 0 else ((askedL asks).length : Int) - 1 - a) = x
          have hx0 : 0 ≤ x := by subst hx; split <;> (try split) <;> omega
          have hx1 : a + x < (askedL asks).length := by subst hx; split <;> (try split) <;> omega
          by_cases e : x = 0
          · subst e; simp
          · have := asked_lt (asks := asks) (i := a) (j := a + x) (by omega) (by omega) hx1
            omega
      · rw [List.pairwise_append]
        refine ⟨f1.d, by simp, fun d hd b hb => ?_⟩
        rw [List.mem_singleton] at hb
        subst hb
        obtain ⟨r, r0, r1, er⟩ := f2 d hd
        rw [er]
        exact asked_lt (by omega) (by omega) r1
      · rcases List.mem_append.mp hd with hd | hd
        · obtain ⟨r, r0, r1, er⟩ := f2 d hd
          exact ⟨r, by push_cast; omega, r1, er⟩
        · rw [List.mem_singleton] at hd
          subst hd
          exact ⟨a, by push_cast; omega, by omega, rfl⟩
    · refine hw_ret (hw_ret ⟨⟨f1, fun d hd => ?_, by omega⟩, hg.le (by omega)⟩)
      obtain ⟨r, r0, r1, er⟩ := f2 d hd
      exact ⟨r, by push_cast; omega, r1, er⟩
  · cases e with
    | rt b => exact q.elim
    | dn l =>
      obtain ⟨⟨f1, f2, f3⟩, hg⟩ := q
      rw [hdl] at hg
      exact hw_ret ⟨f1, hg.le (by omega)⟩
/-- rows drawn stand on the tape -/
theorem fit_of {t : TapeV} {asks : List Int} {row : List (Int × Int)} (hl : t.2.length = asks.length) (hs : asks.length ≤ 60) (h0 : ∀ c, c ∈ asks → 0 ≤ c) (hr : RowP asks row) : Fit t asks row := by
  refine ⟨hl, hs, by have := rowP_len hr; omega, ?_, rowGo_of hr fun d hd => (mem_asked.mp (hr.m d hd).1).2.1⟩
  unfold areAsks
  rw [hl]
  simp only [Bool.and_eq_true, List.all_eq_true, List.mem_map, decide_eq_true_eq]
  refine ⟨trivial, ?_⟩
  rintro b ⟨c, hc, e⟩
  subst e
  exact decide_eq_true (h0 c hc)
end Tk

set_option Elab.async false
set_option linter.all false
set_option maxRecDepth 100000
set_option maxHeartbeats 4000000
namespace Tk
open Td Tp L2
theorem fok_sub {L : Int} {fs gs : List (Int × Int)} (h : FOk L 0 fs) (hs : gs.Sublist fs) : FOk L 0 gs := by
  rw [fok_iff] at h ⊢
  exact ⟨fun d hd => h.1 d (hs.subset hd), h.2.sublist hs⟩
theorem cutT {T : Type} {xs : List T} {i : Int} (h0 : 0 ≤ i) (h1 : i ≤ xs.length) : cutL xs none (some i) = xs.take i.toNat := by
  obtain ⟨n, rfl⟩ : ∃ n : Nat, i = (n : Int) := ⟨i.toNat, by omega⟩
  rw [cut_take (by omega), Int.toNat_natCast]
theorem cutD {T : Type} {xs : List T} {i : Int} (h0 : 0 ≤ i) (h1 : i ≤ xs.length) : cutL xs (some i) none = xs.drop i.toNat := by
  obtain ⟨n, rfl⟩ : ∃ n : Nat, i = (n : Int) := ⟨i.toNat, by omega⟩
  unfold cutL
  rw [HT.sIx_none, HT.sIx_nat, Int.toNat_natCast, Nat.min_eq_left (by omega), List.take_of_length_le (by rw [List.length_drop]; omega)]
theorem eqTape_eq (a b : TapeV) : m_Tape_DeqD (a, b) = Td.ret (decide (a = b)) := by
  unfold m_Tape_DeqD o_Tape_DeqD
  simp only [bnd_assoc, bnd_ret, if_true]
  rw [((ed_int.P ed_int).TL).eqD (by decide)]
  have : (decide (a = b)) = (decide (a.1 = b.1) && decide (a.2 = b.2)) := by
    rw [← Bool.decide_and]
    exact decide_eq_decide.mpr Prod.ext_iff
  rw [this, and_ret, bnd_ret, runB_rt]
/-- tapes that may be made -/
structure Tp_ (t : TapeV) : Prop where
  f : FOk t.1 0 t.2
  l : 1 ≤ t.1
  n : t.2.length ≤ 61
theorem Tp_.z {t : TapeV} (h : Tp_ t) : t.2.length ≤ PySem.sizeLine := hz_small h.n (by omega)
theorem turned_eq {t : TapeV} (h : Tp_ t) : m_Tape_turned t = Td.ret (t.1, mirF t.1 t.2) := by
  unfold m_Tape_turned o_Tape_turned
  simp only [bnd_assoc, bnd_ret, lcIt_t]
  rw [lcM_map (fun d : Int × Int => (t.1 - d.2, t.1 - d.1)) _ (fun x _ => rfl) (by rw [List.length_reverse]; exact h.z), bnd_ret]
  have e : t.2.reverse.map (fun d : Int × Int => (t.1 - d.2, t.1 - d.1)) = mirF t.1 t.2 := rfl
  rw [e, make_eq h.l (fok_mir h.f), runB_rt]
theorem without_eq {t : TapeV} {i : Int} (h : Tp_ t) (h0 : 0 ≤ i) (h1 : i < t.2.length) : m_Tape_without (t, i) = Td.ret (t.1, t.2.take i.toNat ++ t.2.drop (i.toNat + 1)) := by
  unfold m_Tape_without o_Tape_without
  simp only [bnd_assoc, bnd_ret, decide_eq_true h0, decide_eq_true h1, if_true, Bool.not_true, Bool.false_eq_true, if_false]
  rw [cutT h0 (by omega), cutD (by omega) (by omega), List.append_nil, show (i + 1).toNat = i.toNat + 1 by omega]
  have hs : (t.2.take i.toNat ++ t.2.drop (i.toNat + 1)).Sublist t.2 := by
    have := List.Sublist.append (List.Sublist.refl (t.2.take i.toNat)) (List.drop_sublist_drop_left t.2 (show i.toNat ≤ i.toNat + 1 by omega))
    rwa [List.take_append_drop] at this
  rw [lenG_ok (Nat.le_trans hs.length_le h.z), bnd_ret, make_eq h.l (fok_sub h.f hs), runB_rt]
theorem ltape_eq {t : TapeV} (h : Tp_ t) : m__law_td_tape t = Td.ret t := by
  unfold m__law_td_tape o__law_td_tape
  simp only [bnd_assoc, bnd_ret]
  rw [make_eq h.l h.f, pushM_ok (hz_small (n := t.2.length + 1) (k := 62) (by have := h.n; omega) (by omega)), bnd_ret, runB_rt]
theorem Shp.tp {sh : Int × List (Int × Int)} (h : Shp 60 sh) : Tp_ sh := ⟨h.f, h.l, by have := h.m; omega⟩
/-- all roads lead to the tape of the shape -/
theorem hw_road {n : Nat} {s : List Int} {sh : TapeV} (hs : Shp 60 sh) (hn : n ≤ 2000) (hg : Gd n s) : Hw (m__law_td_road sh) s fun t s' => t = sh ∧ Gd (n + 2) s' := by
  have ht := hs.tp
  have hm := hs.m
  unfold m__law_td_road o__law_td_road
  simp only [bnd_assoc, bnd_ret, runB_bnd]
  refine pick_step (by omega) (by omega) (by omega) hg fun mode s m0 m1 hg => ?_
  refine hw_runB (hw_ite (fun _ => hw_esc ?_) fun _ => ?_)
  · rw [lcM_map (fun d : Int × Int => (sh.1 - d.2, sh.1 - d.1)) _ (fun x _ => by simp only [lcIt_t]) (by rw [List.length_reverse]; exact ht.z), bnd_ret]
    have fm := fok_mir ht.f
    have e : sh.2.reverse.map (fun d : Int × Int => (sh.1 - d.2, sh.1 - d.1)) = mirF sh.1 sh.2 := rfl
    rw [e, make_eq ht.l fm, turned_eq (t := (sh.1, mirF sh.1 sh.2)) ⟨fm, ht.l, by rw [mir_len]; exact ht.n⟩, lft_ret, bnd_ret]
    dsimp only
    rw [mir_mir]
    exact hw_ret ⟨rfl, hg.le (by omega)⟩
  · rw [len1, bnd_ret, lcM_map (fun d : Int × Int => d.2) _ (fun x _ => by simp only [lcIt_t]) ht.z, bnd_ret, catM_ok (hz_small (k := 62) (by rw [List.length_map]; simp only [List.length_cons, List.length_nil]; omega) (by omega)), bnd_ret]
    rw [lcM_map (fun d : Int × Int => d.1) _ (fun x _ => by simp only [lcIt_t]) ht.z, bnd_ret, len1, bnd_ret, catM_ok (hz_small (k := 62) (by rw [List.length_map]; simp only [List.length_cons, List.length_nil]; omega) (by omega)), bnd_ret]
    rw [rngG_ok (by omega), bnd_ret, upto_up]
    have ek : ((sh.2.length : Int) + 1).toNat = sh.2.length + 1 := by omega
    rw [ek]
    have ll : ([0] ++ sh.2.map fun d : Int × Int => d.2).length = sh.2.length + 1 := by simp
    have lh : ((sh.2.map fun d : Int × Int => d.1) ++ [sh.1]).length = sh.2.length + 1 := by simp
    rw [lcM_filter (fun x => decide (lowAt sh.2 x.toNat < highAt sh.1 sh.2 x.toNat)) _ (fun x hx => by
      have := mem_upI.mp hx
      rw [ixM_get 0 this.1 (by rw [ll]; omega), bnd_ret, ixM_get 0 this.1 (by rw [lh]; omega), bnd_ret, lcIt_ret]
      rfl) (hz_small (k := 61) (by rw [upI_len]; omega) (by omega)), bnd_ret]
    generalize hgp : (upI (sh.2.length + 1)).filter (fun x => decide (lowAt sh.2 x.toNat < highAt sh.1 sh.2 x.toNat)) = gaps
    rw [len0, bnd_ret, ed_int.L.eqD (by decide), bnd_ret]
    simp only [ite_ret, bnd_ret]
    refine hw_ite (fun _ => hw_esc ?_) fun hc => ?_
    · rw [ltape_eq ht, lft_ret, bnd_ret]
      exact hw_ret ⟨rfl, hg.le (by omega)⟩
    · have hgn : gaps ≠ [] ∧ sh.2.length ≤ 59 := by
        by_cases e1 : decide (mode = 0) = true
        · rw [if_pos e1] at hc; exact absurd rfl hc
        · rw [if_neg e1] at hc
          by_cases e2 : gaps = []
          · rw [if_pos (decide_eq_true e2)] at hc; exact absurd rfl hc
          · rw [if_neg (by simpa using e2)] at hc
            exact ⟨e2, by simp at hc; omega⟩
      have hgl : 0 < gaps.length := List.length_pos_iff.mpr hgn.1
      have hgl2 : gaps.length ≤ 61 := by
        rw [← hgp]
        refine Nat.le_trans (List.length_filter_le ..) (by rw [upI_len]; omega)
      refine pick_step (by omega) (by omega) (by omega) hg fun v s v0 v1 hg => ?_
      have hv : v.toNat < gaps.length := by omega
      rw [ixM_get 0 v0 (by omega), bnd_ret]
      have hr : gaps.getD v.toNat 0 ∈ gaps := by
        rw [List.getD_eq_getElem?_getD, List.getElem?_eq_getElem hv]
        exact List.getElem_mem _
      generalize gaps.getD v.toNat 0 = rank at hr
      rw [← hgp, List.mem_filter] at hr
      obtain ⟨hr1, hr2⟩ := hr
      have hr1 := mem_upI.mp hr1
      have hr2 : lowAt sh.2 rank.toNat < highAt sh.1 sh.2 rank.toNat := by simpa using hr2
      obtain ⟨k, rfl⟩ : ∃ k : Nat, rank = (k : Int) := ⟨rank.toNat, by omega⟩
      rw [Int.toNat_natCast] at hr2
      have hk : k ≤ sh.2.length := by omega
      rw [cutT (by omega) (by omega), cutD (by omega) (by omega), ixM_get 0 (by omega) (by rw [ll]; omega), bnd_ret, ixM_get 0 (by omega) (by rw [lh]; omega), bnd_ret, len1, bnd_ret, Int.toNat_natCast]
      have hfi := fok_ins ht.f (by have := ht.l; omega) hk hr2
      have e1 : (([0] ++ sh.2.map fun d : Int × Int => d.2).getD k 0, ((sh.2.map fun d : Int × Int => d.1) ++ [sh.1]).getD k 0) = (lowAt sh.2 k, highAt sh.1 sh.2 k) := rfl
      rw [e1]
      have tl : (sh.2.take k).length = k := by rw [List.length_take]; omega
      have dl : (sh.2.drop k).length = sh.2.length - k := by rw [List.length_drop]
      rw [catM_ok (hz_small (k := 61) (by rw [tl]; simp only [List.length_cons, List.length_nil]; omega) (by omega)), bnd_ret, catM_ok (hz_small (k := 61) (by rw [List.length_append, tl, dl]; simp only [List.length_cons, List.length_nil]; omega) (by omega)), bnd_ret]
      rw [make_eq ht.l hfi]
      have el : (sh.2.take k ++ [(lowAt sh.2 k, highAt sh.1 sh.2 k)] ++ sh.2.drop k).length = sh.2.length + 1 := by
        rw [List.length_append, List.length_append, tl, dl]
        simp only [List.length_cons, List.length_nil]
        omega
      rw [lcM_map (fun _ => (1 : Int)) _ (fun x _ => by simp only [lcIt_t]) (hz_small (k := 61) (by rw [upI_len]; omega) (by omega)), bnd_ret, len0, bnd_ret]
      have F : Fit (sh.1, sh.2.take k ++ [(lowAt sh.2 k, highAt sh.1 sh.2 k)] ++ sh.2.drop k) ((upI (sh.2.length + 1)).map fun _ => (1 : Int)) [] :=
        fit_of (by dsimp only; rw [el, List.length_map, upI_len]) (by rw [List.length_map, upI_len]; omega) (fun c hc => by obtain ⟨_, _, e⟩ := List.mem_map.mp hc; omega) ⟨fun d hd => (by cases hd), .nil⟩
      rw [waits_eq F, lft_ret, bnd_ret, without_eq (t := (sh.1, sh.2.take k ++ [(lowAt sh.2 k, highAt sh.1 sh.2 k)] ++ sh.2.drop k)) ⟨hfi, ht.l, by dsimp only; rw [el]; omega⟩ (by omega) (by dsimp only; rw [el]; omega), lft_ret, bnd_ret]
      dsimp only
      rw [Int.toNat_natCast, ins_out _ _ hk]
      exact hw_ret ⟨rfl, hg.le (by omega)⟩
end Tk

set_option Elab.async false
set_option linter.all false
set_option maxRecDepth 100000
set_option maxHeartbeats 4000000
namespace Tk
open Td Tp L2
theorem asc_head : ∀ {xs : List Int}, xs.Pairwise (· < ·) → ∀ {i}, i ∈ xs → xs.headD 0 ≤ i
  | x :: xs, h, i, hi => by
    rw [List.pairwise_cons] at h
    rcases List.mem_cons.mp hi with e | e
    · subst e; exact Int.le_refl _
    · have := h.1 i e
      show x ≤ i
      omega
theorem asc_last : ∀ {xs : List Int}, xs.Pairwise (· < ·) → ∀ {i}, i ∈ xs → i ≤ lastI xs
  | x :: xs, h, i, hi => by
    rw [List.pairwise_cons] at h
    cases hx : xs with
    | nil =>
      subst hx
      have : i = x := by simpa using hi
      subst this
      exact Int.le_refl _
    | cons y ys =>
      have e : lastI (x :: xs) = lastI xs := by
        unfold lastI
        rw [hx, List.getLast?_cons_cons]
      rw [← hx, e]
      rcases List.mem_cons.mp hi with e2 | e2
      · subst e2
        have hy : y ∈ xs := by rw [hx]; exact List.mem_cons_self ..
        have := asc_last h.2 hy
        have := h.1 y hy
        omega
      · exact asc_last h.2 e2
theorem led_fold (t : Tape) (asked : List Int) : ∀ (row : List (Int × Int)) (k : Nat) (fd : Fd) (p s : Int),
    ((row.mapIdx fun i d => (((k + i : Nat) : Int), d)).foldl (fun (l : Fd × Int × Int) (x : Int × (Int × Int)) => (ledPut t x.2.1 x.2.2 (l.2.2 + l.2.1 - bg t x.2.1) (2 * x.1 + 1) asked l.1, en t x.2.2, l.2.2 + l.2.1 - bg t x.2.1 + en t x.2.2 - bg t x.2.1)) (fd, p, s)).1 = ledGo t asked row fd p s k
  | [], _, _, _, _ => rfl
  | d :: r, k, fd, p, s => by
    rw [List.mapIdx_cons, List.foldl_cons, ledGo, ← led_fold t asked r (k + 1)]
    have e : (fun (i : Nat) (d : Int × Int) => (((k + (i + 1) : Nat) : Int), d)) = fun i d => (((k + 1 + i : Nat) : Int), d) := by
      funext i d
      congr 2
      omega
    rw [e]
    rfl
theorem led_eq {t : TapeV} {asks : List Int} {row : List (Int × Int)} (h : Fit t asks row) (ht : Lies t) : m__law_td_led (t, asks, row) = Td.ret (waitsL t asks row) := by
  have hp := h.rp
  have hal := asked_len (asks := asks)
  have hs := h.small
  unfold m__law_td_led o__law_td_led
  simp only [bnd_assoc, bnd_ret, lasked_eq h.z, lft_ret, lcIt_t]
  rw [lcM_map (fun _ => (none : Option (Int × Int))) _ (fun x _ => rfl) h.z, bnd_ret, len0, bnd_ret, ed_int.L.eqD (by decide), bnd_ret]
  by_cases he : askedL asks = []
  · rw [if_pos (decide_eq_true he), esc_ret, runB_rt]
    unfold waitsL wayL
    rw [he]
    rfl
  · rw [if_neg (by simpa using he), head_get he, bnd_ret, last_get he, bnd_ret, lenG_ok (hz_small (k := 1) (Nat.le_refl _) (by omega)), bnd_ret, catM_ok (hz_small (k := 1001) (by have := h.rsmall; simp only [List.length_cons, List.length_nil]; omega) (by omega)), bnd_ret]
    have hm : (askedL asks).headD 0 ∈ askedL asks := by
      cases h : askedL asks with
      | nil => exact absurd h he
      | cons a l => exact List.mem_cons_self ..
    have hlm : lastI (askedL asks) ∈ askedL asks := by
      unfold lastI
      rw [List.getLast?_eq_some_getLast he]
      exact List.getLast_mem he
    have tix2 : ∀ i, i ∈ askedL asks → (ixM t.2 i : SM Unit (Int × Int)) = Td.ret (t.2.getD i.toNat (0, 0)) := fun i hi => by
      have := asked_nn i hi
      exact ixM_get (0, 0) this.1 (by rw [h.len]; exact this.2)
    rw [forM_nx (fun (l : Fd × Int × Int) (x : Int × (Int × Int)) => (ledPut t x.2.1 x.2.2 (l.2.2 + l.2.1 - bg t x.2.1) (2 * x.1 + 1) (askedL asks) l.1, en t x.2.2, l.2.2 + l.2.1 - bg t x.2.1 + en t x.2.2 - bg t x.2.1)) (enum (row ++ [((askedL asks).headD 0, lastI (askedL asks))])) _ ?_]
    · rw [lpM_dn, runB_rt]
      congr 1
      have ee : enum (row ++ [((askedL asks).headD 0, lastI (askedL asks))]) = (row ++ [((askedL asks).headD 0, lastI (askedL asks))]).mapIdx fun i d => (((0 + i : Nat) : Int), d) := by
        unfold enum
        congr 1
        funext i d
        simp
      rw [ee, led_fold]
      have hlw : (waitsL t asks row).length = asks.length := by
        unfold waitsL
        have : ∀ (ys : List (Int × Int)) (l : Fd × Int × Int), (ys.foldl (wStep t (fr (askedL asks) row)) l).1.length = l.1.length := by
          intro ys
          induction ys with
          | nil => intro l; rfl
          | cons y ys ih => intro l; rw [List.foldl_cons, ih, wStep_len]
        rw [this, List.length_map]
      have hlg : (ledGo t (askedL asks) (row ++ [((askedL asks).headD 0, lastI (askedL asks))]) (asks.map fun _ => none) t.1 0 0).length = asks.length := by rw [ledGo_len, List.length_map]
      apply List.ext_getElem?
      intro i
      by_cases hi : i < asks.length
      · rw [ledGo_get t (askedL asks) (fun x hx => (asked_nn x hx).1) _ _ _ _ _ (w := none) (by rw [List.getElem?_map, List.getElem?_eq_getElem hi]; rfl), waits_get h he hi]
        by_cases hia : (i : Int) ∈ askedL asks
        · have hh := asked_nn _ hm
          have D : Dts t ((askedL asks).headD 0) row := ⟨fun d hd => by
            obtain ⟨a, b, c, e⟩ := hp.m d hd
            exact ⟨e, c, by rw [h.len]; exact (asked_nn _ b).2⟩, hp.d⟩
          have bL : ∀ x, x ∈ askedL asks → bg t x ≤ t.1 := fun x hx => by
            have := asked_nn x hx
            have := ht.at_ this.1 (by rw [h.len]; exact this.2)
            omega
          rw [lk_led ht hh.1 (by rw [h.len]; exact hh.2) _ D (fun d hd => bL _ (hp.m d hd).1) (bL _ hm) hia ⟨asc_head (asked_asc asks) hia, asc_last (asked_asc asks) hia⟩, if_pos ⟨rfl, hia⟩]
          cases ledLk t (row ++ [((askedL asks).headD 0, lastI (askedL asks))]) t.1 0 0 i with
          | none => rfl
          | some w => rfl
        · rw [if_neg (fun q => hia q.2), lk_none t _ _ _ _ _ fun x hx hix => hia (fr_mem (u := askedL asks) (row := row) (run := x.2) (by
            unfold trsG at hx
            exact (List.of_mem_zip (a := x.1) (b := x.2) hx).2) hix)]
      · rw [List.getElem?_eq_none (by rw [hlg]; omega), List.getElem?_eq_none (by rw [hlw]; omega)]
    · intro ys x zs e
      have hx : x ∈ enum (row ++ [((askedL asks).headD 0, lastI (askedL asks))]) := by rw [e]; simp
      unfold enum at hx
      obtain ⟨j, hj, ex⟩ := List.mem_mapIdx.mp hx
      have hxm : x.2.1 ∈ askedL asks ∧ x.2.2 ∈ askedL asks := by
        subst ex
        dsimp only
        have := List.getElem_mem hj
        generalize (row ++ [((askedL asks).headD 0, lastI (askedL asks))])[j] = d at this
        rcases List.mem_append.mp this with hd | hd
        · exact ⟨(hp.m d hd).1, (hp.m d hd).2.1⟩
        · rw [List.mem_singleton] at hd
          subst hd
          exact ⟨hm, hlm⟩
      have inv : ∀ (ys : List (Int × (Int × Int))) (l : Fd × Int × Int), (ys.foldl (fun (l : Fd × Int × Int) (x : Int × (Int × Int)) => (ledPut t x.2.1 x.2.2 (l.2.2 + l.2.1 - bg t x.2.1) (2 * x.1 + 1) (askedL asks) l.1, en t x.2.2, l.2.2 + l.2.1 - bg t x.2.1 + en t x.2.2 - bg t x.2.1)) l).1.length = l.1.length := by
        intro ys
        induction ys with
        | nil => intro l; rfl
        | cons y ys ih => intro l; rw [List.foldl_cons, ih, ledPut_len]
      have hlen := inv ys (asks.map fun _ => none, t.1, 0)
      rw [List.length_map] at hlen
      generalize ys.foldl _ _ = l at *
      rw [tix2 _ hxm.1, bnd_ret]
      rw [forM_nx (fun (fd : Fd) n => if (inD x.2.1 x.2.2 n && (fd.getD n.toNat none).isNone) = true then fd.set n.toNat (some (l.2.2 + l.2.1 - bg t x.2.1 + en t n - bg t x.2.1, 2 * x.1 + 1)) else fd) _ _ ?_]
      · rw [lpM_dn, tix2 _ hxm.2, bnd_ret]
        rfl
      · intro as n bs e3
        have hn : n ∈ askedL asks := by rw [e3]; simp
        have hnn := asked_nn n hn
        have il : ∀ (as : List Int) (fd : Fd), (as.foldl (fun (fd : Fd) n => if (inD x.2.1 x.2.2 n && (fd.getD n.toNat none).isNone) = true then fd.set n.toNat (some (l.2.2 + l.2.1 - bg t x.2.1 + en t n - bg t x.2.1, 2 * x.1 + 1)) else fd) fd).length = fd.length := by
          intro as
          induction as with
          | nil => intro fd; rfl
          | cons a as ih =>
            intro fd
            rw [List.foldl_cons, ih]
            split
            · rw [List.length_set]
            · rfl
        have ifd := il as l.1
        generalize as.foldl _ _ = fd at *
        rw [hlen] at ifd
        have m2 : ∀ y : Int, (mulM 2 y : SM Unit Int) = Td.ret (2 * y) := fun y => mulM_sm (show Sml 2 by unfold Sml; decide)
        have sm : ∀ v, (setM fd n v : SM Unit Fd) = Td.ret (fd.set n.toNat v) := fun v => setM_ok hnn.1 (by rw [ifd]; exact hnn.2)
        have ig : (ixM fd n : SM Unit (Option (Int × Int))) = Td.ret (fd.getD n.toNat none) := ixM_get none hnn.1 (by rw [ifd]; exact hnn.2)
        simp only [ig, tix2 n hn, m2, sm, ite_ret, bnd_ret]
        have ec : (if (if decide (x.2.1 ≤ n) = true then decide (n ≤ x.2.2) else false) = true then (fd.getD n.toNat none).isNone else false) = (inD x.2.1 x.2.2 n && (fd.getD n.toNat none).isNone) := by
          unfold inD
          cases (if decide (x.2.1 ≤ n) = true then decide (n ≤ x.2.2) else false) <;> rfl
        rw [ec]
        cases hc : (inD x.2.1 x.2.2 n && (fd.getD n.toNat none).isNone) with
        | true => rw [if_pos rfl, if_pos rfl, thn_nx]; rfl
        | false => rw [if_neg (by simp), if_neg (by simp), thn_nx]
end Tk

set_option Elab.async false
set_option linter.all false
set_option maxRecDepth 100000
set_option maxHeartbeats 4000000
namespace Tk
open Td Tp L2
theorem ledLk_bd {t : Tape} {L : Int} : ∀ {row : List (Int × Int)} {place steps X : Int} {k : Nat} {i : Int} {w : Int × Int}, (∀ d, d ∈ row → (0 ≤ bg t d.1 ∧ bg t d.1 ≤ L) ∧ (0 ≤ en t d.2 ∧ en t d.2 ≤ L)) → (0 ≤ en t i ∧ en t i ≤ L) → (0 ≤ place ∧ place ≤ L) → (-X ≤ steps ∧ steps ≤ X) → ledLk t row place steps k i = some w →
    (-(X + 4 * L * row.length) ≤ w.1 ∧ w.1 ≤ X + 4 * L * row.length) ∧ (1 ≤ w.2 ∧ w.2 ≤ 2 * (k + row.length))
  | [], _, _, _, _, _, _, _, _, _, _, h => by cases h
  | d :: r, place, steps, X, k, i, w, hr, hi, hp, hX, h => by
    obtain ⟨⟨b0, b1⟩, e0, e1⟩ := hr d (List.mem_cons_self ..)
    rw [ledLk] at h
    have hl : 4 * L * ((d :: r).length : Nat) = 4 * L * (r.length : Nat) + 4 * L := by
      rw [List.length_cons]
      push_cast
      rw [Int.mul_add, Int.mul_one]
    have hn : 0 ≤ 4 * L * (r.length : Nat) := Int.mul_nonneg (by omega) (by omega)
    by_cases hD : inD d.1 d.2 i = true
    · rw [if_pos hD] at h
      cases h
      dsimp only
      rw [hl, List.length_cons]
      push_cast
      omega
    · rw [if_neg hD] at h
      have z := ledLk_bd (X := X + 4 * L) (fun x hx => hr x (List.mem_cons_of_mem _ hx)) hi (show 0 ≤ en t d.2 ∧ en t d.2 ≤ L by omega) (by omega) h
      rw [hl, List.length_cons]
      push_cast at z ⊢
      omega
theorem ledLk_some {t : Tape} {a l i : Int} (h : a ≤ i ∧ i ≤ l) : ∀ (row : List (Int × Int)) (p s : Int) (k : Nat), (ledLk t (row ++ [(a, l)]) p s k i).isSome = true
  | [], p, s, k => by
    rw [List.nil_append, ledLk, if_pos (inD_iff.mpr h)]
    rfl
  | d :: r, p, s, k => by
    rw [List.cons_append, ledLk]
    split
    · rfl
    · exact ledLk_some h r _ _ _
/-- the waits, file by file -/
theorem waits_at {t : TapeV} {asks : List Int} {row : List (Int × Int)} (h : Fit t asks row) (ht : Lies t) {i : Nat} (hi : i < asks.length) :
    (waitsL t asks row)[i]? = some (if (i : Int) ∈ askedL asks then ledLk t (row ++ [((askedL asks).headD 0, lastI (askedL asks))]) t.1 0 0 i else none) := by
  have hp := h.rp
  by_cases he : askedL asks = []
  · have hn : ¬ ((i : Int) ∈ askedL asks) := by rw [he]; simp
    rw [if_neg hn]
    unfold waitsL wayL
    rw [he]
    show (asks.map fun _ => (none : Option (Int × Int)))[i]? = some none
    rw [List.getElem?_map, List.getElem?_eq_getElem hi]
    rfl
  · have hm : (askedL asks).headD 0 ∈ askedL asks := by
      cases h : askedL asks with
      | nil => exact absurd h he
      | cons a l => exact List.mem_cons_self ..
    rw [waits_get h he hi]
    by_cases hia : (i : Int) ∈ askedL asks
    · have hh := asked_nn _ hm
      have D : Dts t ((askedL asks).headD 0) row := ⟨fun d hd => by
        obtain ⟨a, b, c, e⟩ := hp.m d hd
        exact ⟨e, c, by rw [h.len]; exact (asked_nn _ b).2⟩, hp.d⟩
      have bL : ∀ x, x ∈ askedL asks → bg t x ≤ t.1 := fun x hx => by
        have := asked_nn x hx
        have := ht.at_ this.1 (by rw [h.len]; exact this.2)
        omega
      rw [lk_led ht hh.1 (by rw [h.len]; exact hh.2) _ D (fun d hd => bL _ (hp.m d hd).1) (bL _ hm) hia ⟨asc_head (asked_asc asks) hia, asc_last (asked_asc asks) hia⟩, if_pos hia]
      cases ledLk t (row ++ [((askedL asks).headD 0, lastI (askedL asks))]) t.1 0 0 i with
      | none => rfl
      | some w => rfl
    · rw [if_neg hia, lk_none t _ _ _ _ _ fun x hx hix => hia (fr_mem (u := askedL asks) (row := row) (run := x.2) (by
        unfold trsG at hx
        exact (List.of_mem_zip (a := x.1) (b := x.2) hx).2) hix)]
theorem waits_len {t : TapeV} {asks : List Int} {row : List (Int × Int)} : (waitsL t asks row).length = asks.length := by
  unfold waitsL
  have : ∀ (ys : List (Int × Int)) (l : Fd × Int × Int), (ys.foldl (wStep t (fr (askedL asks) row)) l).1.length = l.1.length := by
    intro ys
    induction ys with
    | nil => intro l; rfl
    | cons y ys ih => intro l; rw [List.foldl_cons, ih, wStep_len]
  rw [this, List.length_map]
/-- a wait is told just of what is asked; how large it is -/
theorem waits_zip {t : TapeV} {asks : List Int} {row : List (Int × Int)} (h : Fit t asks row) (ht : Lies t) (hL : t.1 ≤ 2000000) {c : Int} {w : Option (Int × Int)} (hcw : (c, w) ∈ asks.zip (waitsL t asks row)) :
    (0 < c ↔ w.isSome = true) ∧ ∀ x, w = some x → (-10000000000 ≤ x.1 ∧ x.1 ≤ 10000000000) ∧ (1 ≤ x.2 ∧ x.2 ≤ 10000) := by
  have hp := h.rp
  obtain ⟨i, hi, e⟩ := List.mem_iff_getElem.mp hcw
  rw [List.length_zip, waits_len, Nat.min_self] at hi
  rw [List.getElem_zip] at e
  have e1 : asks[i] = c := congrArg Prod.fst e
  have e2 : (waitsL t asks row)[i]'(by rw [waits_len]; exact hi) = w := congrArg Prod.snd e
  have e3 := waits_at h ht hi
  rw [List.getElem?_eq_getElem (by rw [waits_len]; exact hi), e2] at e3
  have e4 := Option.some.inj e3
  have hmem : (i : Int) ∈ askedL asks ↔ 0 < c := by
    rw [mem_asked, Int.toNat_natCast, List.getD_eq_getElem?_getD, List.getElem?_eq_getElem hi, Option.getD_some, e1]
    omega
  by_cases hia : (i : Int) ∈ askedL asks
  · rw [if_pos hia] at e4
    have he : askedL asks ≠ [] := List.ne_nil_of_mem hia
    have hrange := And.intro (asc_head (asked_asc asks) hia) (asc_last (asked_asc asks) hia)
    refine ⟨⟨fun _ => by rw [e4]; exact ledLk_some hrange _ _ _ _, fun _ => hmem.mp hia⟩, fun x hx => ?_⟩
    have hm : (askedL asks).headD 0 ∈ askedL asks := by
      cases h : askedL asks with
      | nil => exact absurd h he
      | cons a l => exact List.mem_cons_self ..
    have hlm : lastI (askedL asks) ∈ askedL asks := by
      unfold lastI
      rw [List.getLast?_eq_some_getLast he]
      exact List.getLast_mem he
    have pl : ∀ x, x ∈ askedL asks → (0 ≤ bg t x ∧ bg t x ≤ t.1) ∧ (0 ≤ en t x ∧ en t x ≤ t.1) := fun x hx => by
      have := asked_nn x hx
      have := ht.at_ this.1 (by rw [h.len]; exact this.2)
      omega
    have z := ledLk_bd (L := t.1) (X := 0) (k := 0) (w := x) (place := t.1) (steps := 0) (row := row ++ [((askedL asks).headD 0, lastI (askedL asks))]) (i := (i : Int)) (fun d hd => ?_) (pl _ hia).2 (by have := (pl _ hm).1; omega) (by omega) (by rw [← e4]; exact hx)
    · have hrl := h.rsmall
      have hlen : (row ++ [((askedL asks).headD 0, lastI (askedL asks))]).length ≤ 1001 := by
        rw [List.length_append]; simp only [List.length_cons, List.length_nil]; omega
      have hL0 : 0 ≤ t.1 := by have := (pl _ hm).1; omega
      generalize (row ++ [((askedL asks).headD 0, lastI (askedL asks))]).length = q at z hlen
      have hq : 4 * t.1 * (q : Int) ≤ 4 * 2000000 * 1001 := Int.mul_le_mul (by omega) (by omega) (by omega) (by omega)
      omega
    · rcases List.mem_append.mp hd with hd | hd
      · exact ⟨(pl _ (hp.m d hd).1).1, (pl _ (hp.m d hd).2.1).2⟩
      · rw [List.mem_singleton] at hd
        subst hd
        exact ⟨(pl _ hm).1, (pl _ hlm).2⟩
  · rw [if_neg hia] at e4
    subst e4
    exact ⟨⟨fun z => absurd (hmem.mpr z) hia, fun z => by cases z⟩, fun x hx => by cases hx⟩
end Tk

set_option Elab.async false
set_option linter.all false
set_option maxRecDepth 100000
set_option maxHeartbeats 4000000
namespace Tk
open Td Tp L2 PySem
theorem under_eq {p q : Int × Int} (h : Sml p.2) (h2 : Sml q.2) : m__law_td_under (p, q) = Td.ret (lessF p q) := by
  unfold m__law_td_under o__law_td_under lessF
  simp only [bnd_assoc, bnd_ret, mulM_sm2 h, mulM_sm2 h2, runB_rt]
theorem lsum_eq {asks : List Int} {ws : Fd} (h : ∀ c w, (c, w) ∈ asks.zip ws → (0 < c ↔ w.isSome = true)) (ha : ∀ c, c ∈ asks → Sml c) : m__law_td_sum (asks, ws) = Td.ret (totL asks ws) := by
  unfold m__law_td_sum o__law_td_sum totL
  simp only [bnd_assoc, bnd_ret]
  rw [forM_nx (fun (l : Int × Int) (x : Int × Option (Int × Int)) => match x.2 with | some w => (l.1 + x.1 * w.1, l.2 + x.1 * w.2) | none => l) _ _ ?_]
  · rw [lpM_dn]; exact runB_rt _
  · intro ys x zs e
    have hx : (x.1, x.2) ∈ asks.zip ws := by rw [e]; simp
    have hm := (List.of_mem_zip hx).1
    have hc := h _ _ hx
    generalize ys.foldl _ _ = l
    obtain ⟨c, w⟩ := x
    cases w with
    | none =>
      have : ¬ 0 < c := fun z => by have := hc.mp z; cases this
      simp only [this, decide_false, Bool.false_eq_true, if_false, bnd_ret, thn_nx]
    | some w =>
      have : 0 < c := hc.mpr rfl
      simp only [this, decide_true, if_true, optM, bnd_ret, mulM_sm (ha c hm), thn_nx]
theorem totL_bd {asks : List Int} {ws : Fd} (ha : ∀ c, c ∈ asks → 0 ≤ c ∧ c ≤ 20) (h : ∀ c w, (c, some w) ∈ asks.zip ws → (-10000000000 ≤ w.1 ∧ w.1 ≤ 10000000000) ∧ (1 ≤ w.2 ∧ w.2 ≤ 10000)) :
    (-(200000000000 * (asks.length : Int)) ≤ (totL asks ws).1 ∧ (totL asks ws).1 ≤ 200000000000 * (asks.length : Int)) ∧ (0 ≤ (totL asks ws).2 ∧ (totL asks ws).2 ≤ 200000 * (asks.length : Int)) := by
  have main : ∀ (asks : List Int) (ws : Fd) (l : Int × Int) (X Y : Int), (∀ c, c ∈ asks → 0 ≤ c ∧ c ≤ 20) → (∀ c w, (c, some w) ∈ asks.zip ws → (-10000000000 ≤ w.1 ∧ w.1 ≤ 10000000000) ∧ (1 ≤ w.2 ∧ w.2 ≤ 10000)) → (-X ≤ l.1 ∧ l.1 ≤ X) → (0 ≤ l.2 ∧ l.2 ≤ Y) →
      let r := (asks.zip ws).foldl (fun (l : Int × Int) (x : Int × Option (Int × Int)) => match x.2 with | some w => (l.1 + x.1 * w.1, l.2 + x.1 * w.2) | none => l) l
      (-(X + 200000000000 * (asks.length : Int)) ≤ r.1 ∧ r.1 ≤ X + 200000000000 * (asks.length : Int)) ∧ (0 ≤ r.2 ∧ r.2 ≤ Y + 200000 * (asks.length : Int)) := by
    intro asks
    induction asks with
    | nil => intro ws l X Y _ _ h1 h2; simp; omega
    | cons c asks ih =>
      intro ws l X Y ha h h1 h2
      cases ws with
      | nil => simp; omega
      | cons w ws =>
        rw [List.zip_cons_cons, List.foldl_cons, List.length_cons]
        have hc := ha c (List.mem_cons_self ..)
        have ih := ih ws
        cases w with
        | none =>
          have z := ih l X Y (fun x hx => ha x (List.mem_cons_of_mem _ hx)) (fun a b hab => h a b (List.mem_cons_of_mem _ hab)) h1 h2
          dsimp only at z ⊢
          push_cast
          omega
        | some w =>
          have hw := h c w (List.mem_cons_self ..)
          have p1 : c * w.1 ≤ 20 * 10000000000 := by
            by_cases e : 0 ≤ w.1
            · exact Int.mul_le_mul hc.2 hw.1.2 e (by omega)
            · have := Int.mul_nonneg hc.1 (show 0 ≤ -w.1 by omega)
              rw [Int.mul_neg] at this
              omega
          have p2 : -(20 * 10000000000) ≤ c * w.1 := by
            by_cases e : 0 ≤ w.1
            · have := Int.mul_nonneg hc.1 e
              omega
            · have := Int.mul_le_mul hc.2 (show -w.1 ≤ 10000000000 by omega) (by omega) (by omega)
              rw [Int.mul_neg] at this
              omega
          have p3 : c * w.2 ≤ 20 * 10000 := Int.mul_le_mul hc.2 hw.2.2 (by omega) (by omega)
          have p4 : 0 ≤ c * w.2 := Int.mul_nonneg hc.1 (by omega)
          have z := ih (l.1 + c * w.1, l.2 + c * w.2) (X + 200000000000) (Y + 200000) (fun x hx => ha x (List.mem_cons_of_mem _ hx)) (fun a b hab => h a b (List.mem_cons_of_mem _ hab)) (by dsimp only; omega) (by dsimp only; omega)
          dsimp only at z ⊢
          push_cast
          omega
  have z := main asks ws (0, 0) 0 0 ha h (by dsimp only; omega) (by dsimp only; omega)
  simp only [Int.zero_add] at z
  exact z
theorem llong {S R : Type} {ws : Fd} {c : Int × Int} (hc : Cost c) (f : (Int × Int) → Option (Int × Int) → SM S (Fl (Int × Int) (Int × Int) R)) (hf : ∀ l x, 0 < l.2 → l.2 ≤ c.2 → f l x = Td.ret (.nx (match x with | some w => if lessF l (worthL w c) = true then worthL w c else l | none => l))) : forM_ ws f (0, 1) = Td.ret (.dn (longL ws c)) := by
  unfold longL
  refine forM_nx (fun (m : Int × Int) (w : Option (Int × Int)) => match w with | some w => if lessF m (worthL w c) = true then worthL w c else m | none => m) ws (0, 1) fun ys x zs e => ?_
  have hp := hc.p
  have inv : ∀ (ys : Fd) (m : Int × Int), 0 < m.2 ∧ m.2 ≤ c.2 → 0 < (ys.foldl (fun (m : Int × Int) (w : Option (Int × Int)) => match w with | some w => if lessF m (worthL w c) = true then worthL w c else m | none => m) m).2 ∧ (ys.foldl (fun (m : Int × Int) (w : Option (Int × Int)) => match w with | some w => if lessF m (worthL w c) = true then worthL w c else m | none => m) m).2 ≤ c.2 := by
    intro ys
    induction ys with
    | nil => intro m h; exact h
    | cons y ys ih =>
      intro m h
      rw [List.foldl_cons]
      refine ih _ ?_
      cases y with
      | none => exact h
      | some w =>
        dsimp only
        split
        · exact ⟨low_pos hc.p, low_le hc.p⟩
        · exact h
  have hm := inv ys (0, 1) ⟨by decide, by show (1 : Int) ≤ c.2; omega⟩
  exact hf _ _ hm.1 hm.2
theorem longL_bd {ws : Fd} {c : Int × Int} (hc : Cost c) (h : ∀ w, some w ∈ ws → (-10000000000 ≤ w.1 ∧ w.1 ≤ 10000000000) ∧ (1 ≤ w.2 ∧ w.2 ≤ 10000)) : (longL ws c).1.natAbs.log2 < 1920 ∧ (longL ws c).2.natAbs.log2 < 1920 := by
  have hp := hc.p
  have hn := hc.n
  have h30 := hc.s2
  have hs := hc.s1
  unfold Sml at hs
  rw [longL_eq hp]
  have hm : ∀ (xs : List Int) (B : Int), 0 ≤ B → (∀ x, x ∈ xs → x ≤ B) → 0 ≤ maxL xs ∧ maxL xs ≤ B := by
    intro xs B hB
    unfold maxL
    have main : ∀ (xs : List Int) (a : Int), 0 ≤ a → a ≤ B → (∀ x, x ∈ xs → x ≤ B) → 0 ≤ xs.foldl (fun m x => if m < x then x else m) a ∧ xs.foldl (fun m x => if m < x then x else m) a ≤ B := by
      intro xs
      induction xs with
      | nil => intro a h1 h2 _; exact ⟨h1, h2⟩
      | cons x xs ih =>
        intro a h1 h2 h
        rw [List.foldl_cons]
        have := h x (List.mem_cons_self ..)
        exact ih _ (by split <;> omega) (by split <;> omega) fun y hy => h y (List.mem_cons_of_mem _ hy)
    exact main xs 0 (Int.le_refl _) hB
  have hb := hm ((ws.filterMap id).map (numr c)) (10000000000 * 2 ^ 30 + 10000 * 2 ^ 64) (by omega) fun x hx => by
    obtain ⟨w, hw, e⟩ := List.mem_map.mp hx
    obtain ⟨o, ho, e2⟩ := List.mem_filterMap.mp hw
    have e3 : o = some w := e2
    subst e3
    have := h w ho
    subst e
    unfold numr
    have q1 : w.1 * c.2 ≤ 10000000000 * 2 ^ 30 := by
      by_cases e : 0 ≤ w.1
      · exact Int.mul_le_mul this.1.2 (by omega) (by omega) (by omega)
      · have := Int.mul_nonneg (show 0 ≤ -w.1 by omega) (show 0 ≤ c.2 by omega)
        rw [Int.neg_mul] at this
        omega
    have q2 : w.2 * c.1 ≤ 10000 * 2 ^ 64 := Int.mul_le_mul this.2.2 (by omega) hn (by omega)
    omega
  have a := low_n (y := c.2) hb.1
  have b := low_le (x := maxL ((ws.filterMap id).map (numr c))) hp
  have d := low_pos (x := maxL ((ws.filterMap id).map (numr c))) hp
  exact ⟨log2_sm (by omega), log2_sm (by omega)⟩
end Tk

set_option Elab.async false
set_option linter.all false
set_option maxRecDepth 100000
set_option maxHeartbeats 4000000
namespace Tk
open Td Tp L2 PySem
theorem hw_right {s : List Int} (hg : Gd 0 s) : Hw (m__law_td_right ()) s fun b _ => b = true := by
  unfold m__law_td_right o__law_td_right
  simp only [bnd_assoc, bnd_ret, runB_bnd]
  refine hw_seq (hw_any (by omega) hg) fun sh s q => ?_
  obtain ⟨hsh, hg⟩ := q
  refine hw_seq (hw_road hsh (by omega) hg) fun t s q => ?_
  obtain ⟨et, hg⟩ := q
  subst et
  have hm := hsh.m
  have hL := hsh.h
  have ht : Lies t := ⟨hsh.f⟩
  rw [len5, bnd_ret]
  refine pick_step (by omega) (by omega) (by omega) hg fun v s v0 v1 hg => ?_
  have h5 : ∃ most : Int, (ixM [60, 60, 1, 2, 0] v : SM (List Int) Int) = Td.ret most := by
    rcases (show v = 0 ∨ v = 1 ∨ v = 2 ∨ v = 3 ∨ v = 4 by omega) with e | e | e | e | e <;> subst e <;> exact ⟨_, rfl⟩
  obtain ⟨most, e5⟩ := h5
  rw [e5, bnd_ret]
  have hw := hw_counts (m := t.2.length) (top := 20) (most := most) hm (by omega) (by omega) (by omega) hg
  obtain ⟨asks, s, es, ⟨hal, ha⟩, hg⟩ := hw_ok hw
  refine hw_step es ?_
  have hal2 : asks.length ≤ 60 := by omega
  have hz : asks.length ≤ sizeLine := hz_small hal2 (by omega)
  refine hw_seq (hw_bends hal2 (by omega) hg) fun bends s q => ?_
  obtain ⟨hrow, hg⟩ := q
  refine pick_step (by omega) (by omega) (by omega) hg fun order s o0 o1 hg => ?_
  rw [rngG_ok (by decide), bnd_ret]
  have hap := fun c hc => (ha c hc).1
  have has : ∀ c, c ∈ asks → Sml c := fun c hc => by have := ha c hc; unfold Sml; omega
  refine hw_runB (hw_lp ?_)
  refine hw_mono (hw_forN (fun j (l : List (Int × Int) × (List Int × List (Int × Int))) s => (RowP asks l.1 ∧ l.2.1 = asks ∧ l.2.2 = l.1) ∧ Gd (700 + 20 * j) s) (upto 0 (Int.toNat 4)) ⟨⟨hrow, rfl, rfl⟩, hg.le (by omega)⟩ fun j turn l s hj hl => ?_) fun e s q => ?_
  · obtain ⟨⟨hr, e1, e2⟩, hg⟩ := hl
    have hj4 : j < 4 := (List.getElem?_eq_some_iff.mp hj).1
    obtain ⟨bd, l1, l2⟩ := l
    dsimp only at hr e1 e2 ⊢
    subst e1 e2
    refine hw_seq (hw_price (by omega) hg) fun price s q => ?_
    obtain ⟨hc, hg⟩ := q
    rw [len0, bnd_ret, ((ed_int.P ed_int).L).neD (by decide), ite_ret, bnd_ret]
    refine hw_thn ?_
    refine hw_mono (P := fun fl s' => ∃ row, fl = Fl.nx (row, l1, row) ∧ RowP l1 row ∧ Gd (700 + 20 * j + 6) s') (hw_ite (fun hb => ?_) fun hb => ?_) ?_
    · have hbn : l2 ≠ [] := by
        intro z
        rw [z] at hb
        simp at hb
      have hbl : 0 < l2.length := List.length_pos_iff.mpr hbn
      have hbl2 := rowP_len hr
      refine pick_step (by omega) (by omega) (by omega) hg fun spot s p0 p1 hg => ?_
      have hpop : (popL l2 spot : SM (List Int) (List (Int × Int))) = Td.ret (l2.eraseIdx spot.toNat) := by
        unfold popL popM
        rw [grd_t (by omega), bnd_ret]
        unfold L2.ixN
        rw [if_pos p0, if_pos p1]
        simp only
        rw [List.getElem?_eq_getElem (by omega)]
        rfl
      have hcut : l2.take spot.toNat ++ l2.drop (spot + 1).toNat = l2.eraseIdx spot.toNat := by
        rw [List.eraseIdx_eq_take_drop_succ, show (spot + 1).toNat = spot.toNat + 1 by omega]
      rw [hpop, bnd_ret, cutT p0 (by omega), cutD (by omega) (by omega), catM_ok (hz_small (k := 200) (by rw [List.length_take, List.length_drop]; omega) (by omega)), bnd_ret, hcut]
      exact hw_ret ⟨_, rfl, hr.sub (List.eraseIdx_sublist ..), hg.le (by omega)⟩
    · exact hw_ret ⟨l2, rfl, hr, hg.le (by omega)⟩
    · rintro fl s ⟨row, rfl, hr, hg⟩
      dsimp only
      have F : Fit t l1 row := fit_of hal.symm hal2 hap hr
      have hzip := fun {c w} hcw => waits_zip (c := c) (w := w) F ht hL hcw
      have hws : ∀ w, some w ∈ waitsL t l1 row → (-10000000000 ≤ w.1 ∧ w.1 ≤ 10000000000) ∧ (1 ≤ w.2 ∧ w.2 ≤ 10000) := fun w hw => by
        obtain ⟨i, hi, e⟩ := List.mem_iff_getElem.mp hw
        rw [waits_len] at hi
        have hm : (l1[i], some w) ∈ l1.zip (waitsL t l1 row) := by
          rw [← e]
          have : (l1.zip (waitsL t l1 row))[i]'(by rw [List.length_zip, waits_len]; omega) = (l1[i], (waitsL t l1 row)[i]'(by rw [waits_len]; omega)) := List.getElem_zip
          rw [← this]
          exact List.getElem_mem _
        exact (hzip hm).2 w rfl
      refine pick_step (by omega) (by omega) (by omega) hg fun v s v0 v1 hg => ?_
      rw [waits_eq F, led_eq F ht, lft_ret]
      have e3 : (if decide (v = 0) = true then (Td.ret (waitsL t l1 row) : SM (List Int) _) else Td.ret (waitsL t l1 row)) = Td.ret (waitsL t l1 row) := by split <;> rfl
      rw [e3, bnd_ret, modM_ok (by decide), bnd_ret]
      refine hw_thn ?_
      refine hw_mono (P := fun fl s' => ∃ (x : Int × Int) (b : Bool), fl = Fl.nx (x, b, x) ∧ (x.1.natAbs.log2 < 1920 ∧ x.2.natAbs.log2 < 1920) ∧ Gd (700 + 20 * j + 10) s') (hw_ite (fun _ => ?_) fun _ => ?_) ?_
      · refine pick_step (by omega) (by omega) (by omega) hg fun v s v0 v1 hg => ?_
        have e4 : (if decide (v = 0) = true then (lft (m_total (t, l1, row)) : SM (List Int) _) else lft (m_total (t, l1, row))) = Td.ret (totL l1 (waitsL t l1 row)) := by
          rw [total_eq F has, lft_ret]
          split <;> rfl
        rw [e4, bnd_ret, lsum_eq (fun c w hcw => (hzip hcw).1) has, lft_ret, bnd_ret]
        have hb := totL_bd (asks := l1) (ws := waitsL t l1 row) ha fun c w hcw => (hzip hcw).2 w rfl
        exact hw_ret ⟨_, _, rfl, ⟨log2_sm (by omega), log2_sm (by omega)⟩, hg.le (by omega)⟩
      · refine pick_step (by omega) (by omega) (by omega) hg fun v s v0 v1 hg => ?_
        rw [longest_eq F hc, lft_ret, bnd_ret, ite_self, thn_nx, llong hc _ (fun l x l0 l3 => ?_), lpM_dn]
        · exact hw_ret ⟨_, _, rfl, longL_bd hc hws, hg.le (by omega)⟩
        · have h30 := hc.s2
          cases x with
          | none => simp only [Option.isSome_none, Bool.false_eq_true, if_false, bnd_ret, thn_nx]
          | some w =>
            have h1 := low_le (x := numr price w) hc.p
            have h2 := low_pos (x := numr price w) hc.p
            simp only [Option.isSome_some, if_true, optM, bnd_ret, comes_eq hc.s1 hc.s2 hc.p, lft_ret]
            rw [under_eq (by unfold Sml; omega) (by unfold Sml worthL; omega), lft_ret, bnd_ret]
            cases lessF l (worthL w price) with
            | true => simp only [if_true, bnd_ret, thn_nx]
            | false => simp only [Bool.false_eq_true, if_false, bnd_ret, thn_nx]
      · rintro fl s ⟨x, b, rfl, ⟨x1, x2⟩, hg⟩
        dsimp only
        rw [reprM_pair x1 x2, bnd_ret, bnd_ret, decide_eq_true rfl, (Ed.P ed_int.L (ed_int.P ed_int).L).neD (by decide)]
        simp only [Bool.not_true, Bool.false_eq_true, if_false, bnd_ret, decide_true]
        exact hw_ret ⟨⟨hr, rfl, rfl⟩, hg.le (by omega)⟩
  · cases e with
    | rt b => exact q.elim
    | dn l =>
      rw [make_eq hsh.l hsh.f, eqTape_eq, lft_ret, nxc_ret, bnd_ret]
      exact hw_ret (decide_eq_true rfl)
end Tk

set_option Elab.async false
set_option linter.all false
set_option maxRecDepth 100000
set_option maxHeartbeats 4000000
namespace Tk
open Td Tp L2 PySem
theorem law_true (ns : List Int) (h : ns.length ≤ 63) : ∃ s, m_law ns () = .ok true s := by
  have main : Hw (m_law ns) () fun b _ => b = true := by
    unfold m_law o_law
    simp only [bnd_assoc, bnd_ret]
    have hr : ∀ r : Int, (rngG (if (if (ns.length : Int) < 6 then (ns.length : Int) else 6) > 1 then (if (ns.length : Int) < 6 then (ns.length : Int) else 6) else 1) : SM Unit Unit) = Td.ret () := fun _ => rngG_ok (by split <;> split <;> omega)
    rw [hr 0, bnd_ret, upto_up]
    generalize (Int.toNat _) = k
    unfold runB lpM
    refine hw_bnd (hw_bnd (hw_mono (hw_for (fun _ _ _ => True) (fun _ _ => False) (upI k) 0 () () trivial fun j a l s ha _ => ?_) fun e s he => ?_))
    · have ha0 : 0 ≤ a := (mem_upI.mp (List.mem_of_getElem? ha)).1
      obtain ⟨sk, s1, e1, hg⟩ := hw_ok (hw_sack (ns := ns) ha0)
      have e2 : (lft (m__law_td_sack (ns, a)) : SM Unit (List Int)) = Td.ret sk := by
        funext s
        unfold lft
        rw [e1]
        rfl
      obtain ⟨b, s2, e3, hb⟩ := hw_ok (hw_right hg)
      have e4 : (subM (m__law_td_right ()) sk : SM Unit (Bool × List Int)) = Td.ret (b, s2) := by
        funext s
        unfold subM
        rw [e3]
        rfl
      subst hb
      rw [e2, bnd_ret, e4, bnd_ret]
      simp only [Bool.not_true, Bool.false_eq_true, if_false]
      exact hw_ret trivial
    · cases e with
      | dn l => exact hw_ret (hw_ret rfl)
      | rt b => exact he.elim
  obtain ⟨a, s, e, h⟩ := hw_ok main
  subst h
  exact ⟨s, e⟩
end Tk

set_option Elab.async false
set_option linter.all false
set_option maxRecDepth 100000
set_option maxHeartbeats 0
namespace Tk
open PySem PySem.Spec PyProof.Rows L2 He Td
theorem facts {P : Program} {w : World} {K : PySem.W.Frag} {h : Heap} {mg : Str → Option Value} {f : Addr} (X : K.In h) (G : h.Ns mainGlobals mg) (hfa : mg ("law" : Str) = some (.ref f)) (c : SaysTd Hd.exs Hd.fs K) :
    ∃ fd : FuncData, (∀ (s : Shared) (u : Value), BindsTo s fd ⟨[u], []⟩ [("_law_script", u)]) ∧ ∀ base : Heap, K.In base → base.Ns mainGlobals mg → FnG P w K mg base 8 f fd ["_law_script"] (SpP K 1 (fun u : List Int => [.is rScr u]) rBool m_law) := by
  have E := c.more
  obtain ⟨x_glo, E⟩ := ba E
  obtain ⟨x_fre, E⟩ := ba E
  obtain ⟨x_slc, E⟩ := ba E
  obtain ⟨x_sl0, E⟩ := ba E
  obtain ⟨x_sl1, E⟩ := ba E
  obtain ⟨x_length, E⟩ := ba E
  obtain ⟨x_files, E⟩ := ba E
  obtain ⟨x_len, E⟩ := ba E
  obtain ⟨x_getitem, E⟩ := ba E
  obtain ⟨x_eq, E⟩ := ba E
  obtain ⟨x_turned, E⟩ := ba E
  obtain ⟨x_without, E⟩ := ba E
  obtain ⟨x_mkr, E⟩ := ba E
  have x_isi := E
  have gl : ∀ x, x ∈ Hd.glos → mg x = some (.ref (ga K x)) := fun x hx => glo_ok X G (List.all_eq_true.mp x_glo x hx)
  have fr : ∀ x, x ∈ Hd.frees → mg x = none := fun x hx => free_ok X G (List.all_eq_true.mp x_fre x hx)
  have t_cls : TapeCls K := ⟨slcB_ok x_slc, slotB_ok x_sl0, slotB_ok x_sl1⟩
  have t_length : Prp K (tapeC K) "length" := prpB_ok x_length
  have t_files : Prp K (tapeC K) "files" := prpB_ok x_files
  have t_len : Mth K "__len__" := ⟨eqO_ok (ba x_len).1, (ba (ba x_len).2).1⟩
  have t_ix : Mth K "__getitem__" := ⟨eqO_ok (ba x_getitem).1, (ba (ba x_getitem).2).1⟩
  have t_eq : L2.Meth K (tapeC K) "__eq__" (He.ma K (tapeC K) "__eq__") := ⟨eqO_ok (ba x_eq).1, (ba (ba x_eq).2).1, (ba (ba x_eq).2).2⟩
  have t_turned : L2.Meth K (tapeC K) "turned" (He.ma K (tapeC K) "turned") := ⟨eqO_ok (ba x_turned).1, (ba (ba x_turned).2).1, (ba (ba x_turned).2).2⟩
  have t_without : L2.Meth K (tapeC K) "without" (He.ma K (tapeC K) "without") := ⟨eqO_ok (ba x_without).1, (ba (ba x_without).2).1, (ba (ba x_without).2).2⟩
  have t_mk : Mk K (tapeC K) (He.ma K (tapeC K) "__init__") := mkr_ok x_mkr
  have t_isi : SlX.SIsi K (tapeC K) := isiB_ok x_isi
  have g_Tape : mg "Tape" = some (.ref (tapeC K)) := gl "Tape" (by decide +kernel)
  have f_abs : mg "abs" = none := fr "abs" (by decide +kernel)
  have f_all : mg "all" = none := fr "all" (by decide +kernel)
  have f_enumerate : mg "enumerate" = none := fr "enumerate" (by decide +kernel)
  have f_int : mg "int" = none := fr "int" (by decide +kernel)
  have f_isinstance : mg "isinstance" = none := fr "isinstance" (by decide +kernel)
  have f_len : mg "len" = none := fr "len" (by decide +kernel)
  have f_list : mg "list" = none := fr "list" (by decide +kernel)
  have f_max : mg "max" = none := fr "max" (by decide +kernel)
  have f_min : mg "min" = none := fr "min" (by decide +kernel)
  have f_range : mg "range" = none := fr "range" (by decide +kernel)
  have f_repr : mg "repr" = none := fr "repr" (by decide +kernel)
  have f_tuple : mg "tuple" = none := fr "tuple" (by decide +kernel)
  have f_zip : mg "zip" = none := fr "zip" (by decide +kernel)
  obtain ⟨fd_Tape_DlenD, F_Tape_DlenD⟩ := c.df 20 (d := Hd.d_Tape_DlenD) rfl
  have b_Tape_DlenD : Binds K fd_Tape_DlenD ["self"] [] := F_Tape_DlenD.bindsN fun _ _ _ _ _ _ us hl => match us, hl with | [_], _ => rfl
  obtain ⟨fd_Tape_DinitD, F_Tape_DinitD⟩ := c.df 17 (d := Hd.d_Tape_DinitD) rfl
  have b_Tape_DinitD : Binds K fd_Tape_DinitD ["self", "length", "files"] [] := F_Tape_DinitD.bindsN fun _ _ _ _ _ _ us hl => match us, hl with | [_, _, _], _ => rfl
  obtain ⟨fd_Tape_DeqD, F_Tape_DeqD⟩ := c.df 21 (d := Hd.d_Tape_DeqD) rfl
  have b_Tape_DeqD : Binds K fd_Tape_DeqD ["self", "other"] [] := F_Tape_DeqD.bindsN fun _ _ _ _ _ _ us hl => match us, hl with | [_, _], _ => rfl
  obtain ⟨fd_Tape_DgetitemD, F_Tape_DgetitemD⟩ := c.df 23 (d := Hd.d_Tape_DgetitemD) rfl
  have b_Tape_DgetitemD : Binds K fd_Tape_DgetitemD ["self", "index"] [] := F_Tape_DgetitemD.bindsN fun _ _ _ _ _ _ us hl => match us, hl with | [_, _], _ => rfl
  obtain ⟨fd__law_td_sack, F__law_td_sack⟩ := c.df 26 (d := Hd.d__law_td_sack) rfl
  have b__law_td_sack : Binds K fd__law_td_sack ["_law_script", "_law_rank"] [] := F__law_td_sack.bindsN fun _ _ _ _ _ _ us hl => match us, hl with | [_, _], _ => rfl
  have g__law_td_sack : mg "_law_td_sack" = some (.ref (ga K "_law_td_sack")) := gl "_law_td_sack" (by decide +kernel)
  obtain ⟨fd_asked_files, F_asked_files⟩ := c.df 5 (d := Hd.d_asked_files) rfl
  have b_asked_files : Binds K fd_asked_files ["asks"] [] := F_asked_files.bindsN fun _ _ _ _ _ _ us hl => match us, hl with | [_], _ => rfl
  have g_asked_files : mg "asked_files" = some (.ref (ga K "asked_files")) := gl "asked_files" (by decide +kernel)
  obtain ⟨fd_fresh_runs, F_fresh_runs⟩ := c.df 12 (d := Hd.d_fresh_runs) rfl
  have b_fresh_runs : Binds K fd_fresh_runs ["asks", "row"] [] := F_fresh_runs.bindsN fun _ _ _ _ _ _ us hl => match us, hl with | [_, _], _ => rfl
  have g_fresh_runs : mg "fresh_runs" = some (.ref (ga K "fresh_runs")) := gl "fresh_runs" (by decide +kernel)
  obtain ⟨fd_are_asks, F_are_asks⟩ := c.df 6 (d := Hd.d_are_asks) rfl
  have b_are_asks : Binds K fd_are_asks ["many", "asks"] [] := F_are_asks.bindsN fun _ _ _ _ _ _ us hl => match us, hl with | [_, _], _ => rfl
  have g_are_asks : mg "are_asks" = some (.ref (ga K "are_asks")) := gl "are_asks" (by decide +kernel)
  obtain ⟨fd_check_asks, F_check_asks⟩ := c.df 9 (d := Hd.d_check_asks) rfl
  have b_check_asks : Binds K fd_check_asks ["tape", "asks"] [] := F_check_asks.bindsN fun _ _ _ _ _ _ us hl => match us, hl with | [_, _], _ => rfl
  have g_check_asks : mg "check_asks" = some (.ref (ga K "check_asks")) := gl "check_asks" (by decide +kernel)
  obtain ⟨fd_is_row, F_is_row⟩ := c.df 7 (d := Hd.d_is_row) rfl
  have b_is_row : Binds K fd_is_row ["asks", "row"] [] := F_is_row.bindsN fun _ _ _ _ _ _ us hl => match us, hl with | [_, _], _ => rfl
  have g_is_row : mg "is_row" = some (.ref (ga K "is_row")) := gl "is_row" (by decide +kernel)
  obtain ⟨fd_check_row, F_check_row⟩ := c.df 10 (d := Hd.d_check_row) rfl
  have b_check_row : Binds K fd_check_row ["asks", "row"] [] := F_check_row.bindsN fun _ _ _ _ _ _ us hl => match us, hl with | [_, _], _ => rfl
  have g_check_row : mg "check_row" = some (.ref (ga K "check_row")) := gl "check_row" (by decide +kernel)
  obtain ⟨fd_Tape_length, F_Tape_length⟩ := c.df 18 (d := Hd.d_Tape_length) rfl
  have b_Tape_length : Binds K fd_Tape_length ["self"] [] := F_Tape_length.bindsN fun _ _ _ _ _ _ us hl => match us, hl with | [_], _ => rfl
  obtain ⟨fd_way, F_way⟩ := c.df 13 (d := Hd.d_way) rfl
  have b_way : Binds K fd_way ["tape", "asks", "row"] [] := F_way.bindsN fun _ _ _ _ _ _ us hl => match us, hl with | [_, _, _], _ => rfl
  have g_way : mg "way" = some (.ref (ga K "way")) := gl "way" (by decide +kernel)
  obtain ⟨fd_waits, F_waits⟩ := c.df 14 (d := Hd.d_waits) rfl
  have b_waits : Binds K fd_waits ["tape", "asks", "row"] [] := F_waits.bindsN fun _ _ _ _ _ _ us hl => match us, hl with | [_, _, _], _ => rfl
  have g_waits : mg "waits" = some (.ref (ga K "waits")) := gl "waits" (by decide +kernel)
  obtain ⟨fd_total, F_total⟩ := c.df 15 (d := Hd.d_total) rfl
  have b_total : Binds K fd_total ["tape", "asks", "row"] [] := F_total.bindsN fun _ _ _ _ _ _ us hl => match us, hl with | [_, _, _], _ => rfl
  have g_total : mg "total" = some (.ref (ga K "total")) := gl "total" (by decide +kernel)
  obtain ⟨fd_is_less, F_is_less⟩ := c.df 3 (d := Hd.d_is_less) rfl
  have b_is_less : Binds K fd_is_less ["one", "other"] [] := F_is_less.bindsN fun _ _ _ _ _ _ us hl => match us, hl with | [_, _], _ => rfl
  have g_is_less : mg "is_less" = some (.ref (ga K "is_less")) := gl "is_less" (by decide +kernel)
  obtain ⟨fd_lowest, F_lowest⟩ := c.df 1 (d := Hd.d_lowest) rfl
  have b_lowest : Binds K fd_lowest ["above", "below"] [] := F_lowest.bindsN fun _ _ _ _ _ _ us hl => match us, hl with | [_, _], _ => rfl
  have g_lowest : mg "lowest" = some (.ref (ga K "lowest")) := gl "lowest" (by decide +kernel)
  obtain ⟨fd_worth, F_worth⟩ := c.df 4 (d := Hd.d_worth) rfl
  have b_worth : Binds K fd_worth ["form", "cost"] [] := F_worth.bindsN fun _ _ _ _ _ _ us hl => match us, hl with | [_, _], _ => rfl
  have g_worth : mg "worth" = some (.ref (ga K "worth")) := gl "worth" (by decide +kernel)
  obtain ⟨fd_is_fraction, F_is_fraction⟩ := c.df 2 (d := Hd.d_is_fraction) rfl
  have b_is_fraction : Binds K fd_is_fraction ["pair"] [] := F_is_fraction.bindsN fun _ _ _ _ _ _ us hl => match us, hl with | [_], _ => rfl
  have g_is_fraction : mg "is_fraction" = some (.ref (ga K "is_fraction")) := gl "is_fraction" (by decide +kernel)
  obtain ⟨fd_is_cost, F_is_cost⟩ := c.df 8 (d := Hd.d_is_cost) rfl
  have b_is_cost : Binds K fd_is_cost ["cost"] [] := F_is_cost.bindsN fun _ _ _ _ _ _ us hl => match us, hl with | [_], _ => rfl
  have g_is_cost : mg "is_cost" = some (.ref (ga K "is_cost")) := gl "is_cost" (by decide +kernel)
  obtain ⟨fd_check_cost, F_check_cost⟩ := c.df 11 (d := Hd.d_check_cost) rfl
  have b_check_cost : Binds K fd_check_cost ["cost"] [] := F_check_cost.bindsN fun _ _ _ _ _ _ us hl => match us, hl with | [_], _ => rfl
  have g_check_cost : mg "check_cost" = some (.ref (ga K "check_cost")) := gl "check_cost" (by decide +kernel)
  obtain ⟨fd_longest, F_longest⟩ := c.df 16 (d := Hd.d_longest) rfl
  have b_longest : Binds K fd_longest ["tape", "asks", "row", "cost"] [] := F_longest.bindsN fun _ _ _ _ _ _ us hl => match us, hl with | [_, _, _, _], _ => rfl
  have g_longest : mg "longest" = some (.ref (ga K "longest")) := gl "longest" (by decide +kernel)
  obtain ⟨fd__law_td_pick, F__law_td_pick⟩ := c.df 27 (d := Hd.d__law_td_pick) rfl
  have b__law_td_pick : Binds K fd__law_td_pick ["_law_sack", "_law_many"] [] := F__law_td_pick.bindsN fun _ _ _ _ _ _ us hl => match us, hl with | [_, _], _ => rfl
  have g__law_td_pick : mg "_law_td_pick" = some (.ref (ga K "_law_td_pick")) := gl "_law_td_pick" (by decide +kernel)
  obtain ⟨fd__law_td_counts, F__law_td_counts⟩ := c.df 31 (d := Hd.d__law_td_counts) rfl
  have b__law_td_counts : Binds K fd__law_td_counts ["_law_sack", "_law_many", "_law_top", "_law_most"] [] := F__law_td_counts.bindsN fun _ _ _ _ _ _ us hl => match us, hl with | [_, _, _, _], _ => rfl
  have g__law_td_counts : mg "_law_td_counts" = some (.ref (ga K "_law_td_counts")) := gl "_law_td_counts" (by decide +kernel)
  obtain ⟨fd__law_td_asked, F__law_td_asked⟩ := c.df 32 (d := Hd.d__law_td_asked) rfl
  have b__law_td_asked : Binds K fd__law_td_asked ["_law_counts"] [] := F__law_td_asked.bindsN fun _ _ _ _ _ _ us hl => match us, hl with | [_], _ => rfl
  have g__law_td_asked : mg "_law_td_asked" = some (.ref (ga K "_law_td_asked")) := gl "_law_td_asked" (by decide +kernel)
  obtain ⟨fd__law_td_bends, F__law_td_bends⟩ := c.df 33 (d := Hd.d__law_td_bends) rfl
  have b__law_td_bends : Binds K fd__law_td_bends ["_law_sack", "_law_counts"] [] := F__law_td_bends.bindsN fun _ _ _ _ _ _ us hl => match us, hl with | [_, _], _ => rfl
  have g__law_td_bends : mg "_law_td_bends" = some (.ref (ga K "_law_td_bends")) := gl "_law_td_bends" (by decide +kernel)
  obtain ⟨fd__law_td_led, F__law_td_led⟩ := c.df 34 (d := Hd.d__law_td_led) rfl
  have b__law_td_led : Binds K fd__law_td_led ["_law_shape", "_law_counts", "_law_bends"] [] := F__law_td_led.bindsN fun _ _ _ _ _ _ us hl => match us, hl with | [_, _, _], _ => rfl
  have g__law_td_led : mg "_law_td_led" = some (.ref (ga K "_law_td_led")) := gl "_law_td_led" (by decide +kernel)
  obtain ⟨fd__law_td_sum, F__law_td_sum⟩ := c.df 35 (d := Hd.d__law_td_sum) rfl
  have b__law_td_sum : Binds K fd__law_td_sum ["_law_counts", "_law_told"] [] := F__law_td_sum.bindsN fun _ _ _ _ _ _ us hl => match us, hl with | [_, _], _ => rfl
  have g__law_td_sum : mg "_law_td_sum" = some (.ref (ga K "_law_td_sum")) := gl "_law_td_sum" (by decide +kernel)
  obtain ⟨fd__law_td_ratio, F__law_td_ratio⟩ := c.df 28 (d := Hd.d__law_td_ratio) rfl
  have b__law_td_ratio : Binds K fd__law_td_ratio ["_law_above", "_law_below"] [] := F__law_td_ratio.bindsN fun _ _ _ _ _ _ us hl => match us, hl with | [_, _], _ => rfl
  have g__law_td_ratio : mg "_law_td_ratio" = some (.ref (ga K "_law_td_ratio")) := gl "_law_td_ratio" (by decide +kernel)
  obtain ⟨fd__law_td_comes, F__law_td_comes⟩ := c.df 36 (d := Hd.d__law_td_comes) rfl
  have b__law_td_comes : Binds K fd__law_td_comes ["_law_form", "_law_price"] [] := F__law_td_comes.bindsN fun _ _ _ _ _ _ us hl => match us, hl with | [_, _], _ => rfl
  have g__law_td_comes : mg "_law_td_comes" = some (.ref (ga K "_law_td_comes")) := gl "_law_td_comes" (by decide +kernel)
  obtain ⟨fd__law_td_under, F__law_td_under⟩ := c.df 37 (d := Hd.d__law_td_under) rfl
  have b__law_td_under : Binds K fd__law_td_under ["_law_one", "_law_other"] [] := F__law_td_under.bindsN fun _ _ _ _ _ _ us hl => match us, hl with | [_, _], _ => rfl
  have g__law_td_under : mg "_law_td_under" = some (.ref (ga K "_law_td_under")) := gl "_law_td_under" (by decide +kernel)
  obtain ⟨fd__law_td_price, F__law_td_price⟩ := c.df 38 (d := Hd.d__law_td_price) rfl
  have b__law_td_price : Binds K fd__law_td_price ["_law_sack"] [] := F__law_td_price.bindsN fun _ _ _ _ _ _ us hl => match us, hl with | [_], _ => rfl
  have g__law_td_price : mg "_law_td_price" = some (.ref (ga K "_law_td_price")) := gl "_law_td_price" (by decide +kernel)
  obtain ⟨fd_Tape_without, F_Tape_without⟩ := c.df 24 (d := Hd.d_Tape_without) rfl
  have b_Tape_without : Binds K fd_Tape_without ["self", "index"] [] := F_Tape_without.bindsN fun _ _ _ _ _ _ us hl => match us, hl with | [_, _], _ => rfl
  obtain ⟨fd_Tape_turned, F_Tape_turned⟩ := c.df 25 (d := Hd.d_Tape_turned) rfl
  have b_Tape_turned : Binds K fd_Tape_turned ["self"] [] := F_Tape_turned.bindsN fun _ _ _ _ _ _ us hl => match us, hl with | [_], _ => rfl
  obtain ⟨fd__law_td_tape, F__law_td_tape⟩ := c.df 39 (d := Hd.d__law_td_tape) rfl
  have b__law_td_tape : Binds K fd__law_td_tape ["_law_shape"] [] := F__law_td_tape.bindsN fun _ _ _ _ _ _ us hl => match us, hl with | [_], _ => rfl
  have g__law_td_tape : mg "_law_td_tape" = some (.ref (ga K "_law_td_tape")) := gl "_law_td_tape" (by decide +kernel)
  obtain ⟨fd__law_td_road, F__law_td_road⟩ := c.df 40 (d := Hd.d__law_td_road) rfl
  have b__law_td_road : Binds K fd__law_td_road ["_law_sack", "_law_shape"] [] := F__law_td_road.bindsN fun _ _ _ _ _ _ us hl => match us, hl with | [_, _], _ => rfl
  have g__law_td_road : mg "_law_td_road" = some (.ref (ga K "_law_td_road")) := gl "_law_td_road" (by decide +kernel)
  obtain ⟨fd__law_td_shape, F__law_td_shape⟩ := c.df 29 (d := Hd.d__law_td_shape) rfl
  have b__law_td_shape : Binds K fd__law_td_shape ["_law_sack", "_law_most"] [] := F__law_td_shape.bindsN fun _ _ _ _ _ _ us hl => match us, hl with | [_, _], _ => rfl
  have g__law_td_shape : mg "_law_td_shape" = some (.ref (ga K "_law_td_shape")) := gl "_law_td_shape" (by decide +kernel)
  obtain ⟨fd__law_td_wide_shape, F__law_td_wide_shape⟩ := c.df 30 (d := Hd.d__law_td_wide_shape) rfl
  have b__law_td_wide_shape : Binds K fd__law_td_wide_shape ["_law_sack"] [] := F__law_td_wide_shape.bindsN fun _ _ _ _ _ _ us hl => match us, hl with | [_], _ => rfl
  have g__law_td_wide_shape : mg "_law_td_wide_shape" = some (.ref (ga K "_law_td_wide_shape")) := gl "_law_td_wide_shape" (by decide +kernel)
  obtain ⟨fd__law_td_any_shape, F__law_td_any_shape⟩ := c.df 41 (d := Hd.d__law_td_any_shape) rfl
  have b__law_td_any_shape : Binds K fd__law_td_any_shape ["_law_sack"] [] := F__law_td_any_shape.bindsN fun _ _ _ _ _ _ us hl => match us, hl with | [_], _ => rfl
  have g__law_td_any_shape : mg "_law_td_any_shape" = some (.ref (ga K "_law_td_any_shape")) := gl "_law_td_any_shape" (by decide +kernel)
  obtain ⟨fd__law_td_right, F__law_td_right⟩ := c.df 42 (d := Hd.d__law_td_right) rfl
  have b__law_td_right : Binds K fd__law_td_right ["_law_sack"] [] := F__law_td_right.bindsN fun _ _ _ _ _ _ us hl => match us, hl with | [_], _ => rfl
  have g__law_td_right : mg "_law_td_right" = some (.ref (ga K "_law_td_right")) := gl "_law_td_right" (by decide +kernel)
  obtain ⟨fd_law, F_law⟩ := c.df 43 (d := Hd.d_law) rfl
  have g_law : mg "law" = some (.ref (ga K "law")) := gl "law" (by decide +kernel)
  have kb_longest_1_row_cost_asks := F_longest.kbP (ps := ["tape", "asks", "row", "cost"]) 1 ["row", "cost", "asks"] [0, 3, 1, 2] fun _ _ _ _ _ _ us ws hu hw => match us, hu, ws, hw with | [_], _, [_, _, _], _ => rfl
  have kb_total_0_asks_row_tape := F_total.kbP (ps := ["tape", "asks", "row"]) 0 ["asks", "row", "tape"] [2, 0, 1] fun _ _ _ _ _ _ us ws hu hw => match us, hu, ws, hw with | [], _, [_, _, _], _ => rfl
  have h_ix : PySem.W.fnIn K (He.ma K (tapeC K) "__getitem__") = true := fnIn_of F_Tape_DgetitemD
  have ee := hfa.symm.trans g_law
  cases ee
  have bl := FunD.bindsA (ps := ["_law_script"]) F_law fun _ _ _ _ _ _ us hl => match us, hl with | [_], _ => rfl
  refine ⟨fd_law, fun s v => bl s [v] rfl, fun base _ _ => ?_⟩
  have C_Tape_DlenD := ok_Tape_DlenD (P := P) (w := w) (K := K) (mg := mg) (base := base) (f_len := f_len) (t_cls := t_cls) (FD := F_Tape_DlenD)
  have C_Tape_DinitD := ok_Tape_DinitD (P := P) (w := w) (K := K) (mg := mg) (base := base) (f_tuple := f_tuple) (t_cls := t_cls) (FD := F_Tape_DinitD)
  have C_Tape_DeqD := ok_Tape_DeqD (P := P) (w := w) (K := K) (mg := mg) (base := base) (f_isinstance := f_isinstance) (t_cls := t_cls) (t_isi := t_isi) (g_Tape := g_Tape) (FD := F_Tape_DeqD)
  have C_Tape_DgetitemD := ok_Tape_DgetitemD (P := P) (w := w) (K := K) (mg := mg) (base := base) (f_len := f_len) (t_cls := t_cls) (FD := F_Tape_DgetitemD)
  have C__law_td_sack := ok__law_td_sack (P := P) (w := w) (K := K) (mg := mg) (base := base) (f_abs := f_abs) (f_int := f_int) (f_len := f_len) (f_max := f_max) (FD := F__law_td_sack)
  have C_asked_files := ok_asked_files (P := P) (w := w) (K := K) (mg := mg) (base := base) (f_enumerate := f_enumerate) (FD := F_asked_files)
  have C_fresh_runs := ok_fresh_runs (P := P) (w := w) (K := K) (mg := mg) (base := base) (c_asked_files := C_asked_files) (b_asked_files := b_asked_files) (g_asked_files := g_asked_files) (k_asked_files := F_asked_files.kp) (FD := F_fresh_runs)
  have C_are_asks := ok_are_asks (P := P) (w := w) (K := K) (mg := mg) (base := base) (f_all := f_all) (f_len := f_len) (FD := F_are_asks)
  have C_check_asks := ok_check_asks (P := P) (w := w) (K := K) (mg := mg) (base := base) (f_len := f_len) (t_len := t_len) (c_Tape_DlenD := C_Tape_DlenD) (b_Tape_DlenD := b_Tape_DlenD) (c_are_asks := C_are_asks) (b_are_asks := b_are_asks) (g_are_asks := g_are_asks) (k_are_asks := F_are_asks.kp) (FD := F_check_asks)
  have C_is_row := ok_is_row (P := P) (w := w) (K := K) (mg := mg) (base := base) (f_len := f_len) (c_asked_files := C_asked_files) (b_asked_files := b_asked_files) (g_asked_files := g_asked_files) (k_asked_files := F_asked_files.kp) (FD := F_is_row)
  have C_check_row := ok_check_row (P := P) (w := w) (K := K) (mg := mg) (base := base) (c_is_row := C_is_row) (b_is_row := b_is_row) (g_is_row := g_is_row) (k_is_row := F_is_row.kp) (FD := F_check_row)
  have C_Tape_length := ok_Tape_length (P := P) (w := w) (K := K) (mg := mg) (base := base) (t_cls := t_cls) (FD := F_Tape_length)
  have C_way := ok_way (P := P) (w := w) (K := K) (mg := mg) (base := base) (t_cls := t_cls) (t_length := t_length) (t_ix := t_ix) (h_ix := h_ix) (c_Tape_DgetitemD := C_Tape_DgetitemD) (b_Tape_DgetitemD := b_Tape_DgetitemD) (c_Tape_length := C_Tape_length) (b_Tape_length := b_Tape_length) (c_asked_files := C_asked_files) (b_asked_files := b_asked_files) (g_asked_files := g_asked_files) (k_asked_files := F_asked_files.kp) (c_check_asks := C_check_asks) (b_check_asks := b_check_asks) (g_check_asks := g_check_asks) (k_check_asks := F_check_asks.kp) (c_check_row := C_check_row) (b_check_row := b_check_row) (g_check_row := g_check_row) (k_check_row := F_check_row.kp) (c_fresh_runs := C_fresh_runs) (b_fresh_runs := b_fresh_runs) (g_fresh_runs := g_fresh_runs) (k_fresh_runs := F_fresh_runs.kp) (FD := F_way)
  have C_waits := ok_waits (P := P) (w := w) (K := K) (mg := mg) (base := base) (f_abs := f_abs) (f_enumerate := f_enumerate) (t_cls := t_cls) (t_length := t_length) (t_ix := t_ix) (h_ix := h_ix) (c_Tape_DgetitemD := C_Tape_DgetitemD) (b_Tape_DgetitemD := b_Tape_DgetitemD) (c_Tape_length := C_Tape_length) (b_Tape_length := b_Tape_length) (c_fresh_runs := C_fresh_runs) (b_fresh_runs := b_fresh_runs) (g_fresh_runs := g_fresh_runs) (k_fresh_runs := F_fresh_runs.kp) (c_way := C_way) (b_way := b_way) (g_way := g_way) (k_way := F_way.kp) (FD := F_waits)
  have C_total := ok_total (P := P) (w := w) (K := K) (mg := mg) (base := base) (f_zip := f_zip) (c_waits := C_waits) (b_waits := b_waits) (g_waits := g_waits) (k_waits := F_waits.kp) (FD := F_total)
  have C_is_less := ok_is_less (P := P) (w := w) (K := K) (mg := mg) (base := base) (FD := F_is_less)
  have C_lowest := ok_lowest (P := P) (w := w) (K := K) (mg := mg) (base := base) (f_abs := f_abs) (f_int := f_int) (FD := F_lowest)
  have C_worth := ok_worth (P := P) (w := w) (K := K) (mg := mg) (base := base) (c_lowest := C_lowest) (b_lowest := b_lowest) (g_lowest := g_lowest) (k_lowest := F_lowest.kp) (FD := F_worth)
  have C_is_fraction := ok_is_fraction (P := P) (w := w) (K := K) (mg := mg) (base := base) (c_lowest := C_lowest) (b_lowest := b_lowest) (g_lowest := g_lowest) (k_lowest := F_lowest.kp) (FD := F_is_fraction)
  have C_is_cost := ok_is_cost (P := P) (w := w) (K := K) (mg := mg) (base := base) (c_is_fraction := C_is_fraction) (b_is_fraction := b_is_fraction) (g_is_fraction := g_is_fraction) (k_is_fraction := F_is_fraction.kp) (FD := F_is_cost)
  have C_check_cost := ok_check_cost (P := P) (w := w) (K := K) (mg := mg) (base := base) (c_is_cost := C_is_cost) (b_is_cost := b_is_cost) (g_is_cost := g_is_cost) (k_is_cost := F_is_cost.kp) (FD := F_check_cost)
  have C_longest := ok_longest (P := P) (w := w) (K := K) (mg := mg) (base := base) (c_check_cost := C_check_cost) (b_check_cost := b_check_cost) (g_check_cost := g_check_cost) (k_check_cost := F_check_cost.kp) (c_is_less := C_is_less) (b_is_less := b_is_less) (g_is_less := g_is_less) (k_is_less := F_is_less.kp) (c_waits := C_waits) (b_waits := b_waits) (g_waits := g_waits) (k_waits := F_waits.kp) (c_worth := C_worth) (b_worth := b_worth) (g_worth := g_worth) (k_worth := F_worth.kp) (FD := F_longest)
  have C__law_td_pick := ok__law_td_pick (P := P) (w := w) (K := K) (mg := mg) (base := base) (f_int := f_int) (FD := F__law_td_pick)
  have C__law_td_counts := ok__law_td_counts (P := P) (w := w) (K := K) (mg := mg) (base := base) (f_len := f_len) (f_range := f_range) (c__law_td_pick := C__law_td_pick) (b__law_td_pick := b__law_td_pick) (g__law_td_pick := g__law_td_pick) (k__law_td_pick := F__law_td_pick.kp) (FD := F__law_td_counts)
  have C__law_td_asked := ok__law_td_asked (P := P) (w := w) (K := K) (mg := mg) (base := base) (f_enumerate := f_enumerate) (FD := F__law_td_asked)
  have C__law_td_bends := ok__law_td_bends (P := P) (w := w) (K := K) (mg := mg) (base := base) (f_len := f_len) (f_range := f_range) (c__law_td_asked := C__law_td_asked) (b__law_td_asked := b__law_td_asked) (g__law_td_asked := g__law_td_asked) (k__law_td_asked := F__law_td_asked.kp) (c__law_td_pick := C__law_td_pick) (b__law_td_pick := b__law_td_pick) (g__law_td_pick := g__law_td_pick) (k__law_td_pick := F__law_td_pick.kp) (FD := F__law_td_bends)
  have C__law_td_led := ok__law_td_led (P := P) (w := w) (K := K) (mg := mg) (base := base) (f_enumerate := f_enumerate) (c__law_td_asked := C__law_td_asked) (b__law_td_asked := b__law_td_asked) (g__law_td_asked := g__law_td_asked) (k__law_td_asked := F__law_td_asked.kp) (FD := F__law_td_led)
  have C__law_td_sum := ok__law_td_sum (P := P) (w := w) (K := K) (mg := mg) (base := base) (f_zip := f_zip) (FD := F__law_td_sum)
  have C__law_td_ratio := ok__law_td_ratio (P := P) (w := w) (K := K) (mg := mg) (base := base) (f_abs := f_abs) (f_int := f_int) (f_range := f_range) (FD := F__law_td_ratio)
  have C__law_td_comes := ok__law_td_comes (P := P) (w := w) (K := K) (mg := mg) (base := base) (c__law_td_ratio := C__law_td_ratio) (b__law_td_ratio := b__law_td_ratio) (g__law_td_ratio := g__law_td_ratio) (k__law_td_ratio := F__law_td_ratio.kp) (FD := F__law_td_comes)
  have C__law_td_under := ok__law_td_under (P := P) (w := w) (K := K) (mg := mg) (base := base) (FD := F__law_td_under)
  have C__law_td_price := ok__law_td_price (P := P) (w := w) (K := K) (mg := mg) (base := base) (c__law_td_pick := C__law_td_pick) (b__law_td_pick := b__law_td_pick) (g__law_td_pick := g__law_td_pick) (k__law_td_pick := F__law_td_pick.kp) (c__law_td_ratio := C__law_td_ratio) (b__law_td_ratio := b__law_td_ratio) (g__law_td_ratio := g__law_td_ratio) (k__law_td_ratio := F__law_td_ratio.kp) (FD := F__law_td_price)
  have C_Tape_without := ok_Tape_without (P := P) (w := w) (K := K) (mg := mg) (base := base) (f_len := f_len) (t_cls := t_cls) (t_mk := t_mk) (g_Tape := g_Tape) (c_Tape_DinitD := C_Tape_DinitD) (b_Tape_DinitD := b_Tape_DinitD) (FD := F_Tape_without)
  have C_Tape_turned := ok_Tape_turned (P := P) (w := w) (K := K) (mg := mg) (base := base) (t_cls := t_cls) (t_mk := t_mk) (g_Tape := g_Tape) (c_Tape_DinitD := C_Tape_DinitD) (b_Tape_DinitD := b_Tape_DinitD) (FD := F_Tape_turned)
  have C__law_td_tape := ok__law_td_tape (P := P) (w := w) (K := K) (mg := mg) (base := base) (f_list := f_list) (t_mk := t_mk) (g_Tape := g_Tape) (c_Tape_DinitD := C_Tape_DinitD) (b_Tape_DinitD := b_Tape_DinitD) (FD := F__law_td_tape)
  have C__law_td_road := ok__law_td_road (P := P) (w := w) (K := K) (mg := mg) (base := base) (f_len := f_len) (f_range := f_range) (t_cls := t_cls) (t_turned := t_turned) (t_without := t_without) (t_mk := t_mk) (g_Tape := g_Tape) (c_Tape_DinitD := C_Tape_DinitD) (b_Tape_DinitD := b_Tape_DinitD) (c_Tape_turned := C_Tape_turned) (b_Tape_turned := b_Tape_turned) (c_Tape_without := C_Tape_without) (b_Tape_without := b_Tape_without) (c__law_td_pick := C__law_td_pick) (b__law_td_pick := b__law_td_pick) (g__law_td_pick := g__law_td_pick) (k__law_td_pick := F__law_td_pick.kp) (c__law_td_tape := C__law_td_tape) (b__law_td_tape := b__law_td_tape) (g__law_td_tape := g__law_td_tape) (k__law_td_tape := F__law_td_tape.kp) (c_waits := C_waits) (b_waits := b_waits) (g_waits := g_waits) (k_waits := F_waits.kp) (FD := F__law_td_road)
  have C__law_td_shape := ok__law_td_shape (P := P) (w := w) (K := K) (mg := mg) (base := base) (f_max := f_max) (f_range := f_range) (c__law_td_pick := C__law_td_pick) (b__law_td_pick := b__law_td_pick) (g__law_td_pick := g__law_td_pick) (k__law_td_pick := F__law_td_pick.kp) (FD := F__law_td_shape)
  have C__law_td_wide_shape := ok__law_td_wide_shape (P := P) (w := w) (K := K) (mg := mg) (base := base) (f_max := f_max) (f_range := f_range) (c__law_td_pick := C__law_td_pick) (b__law_td_pick := b__law_td_pick) (g__law_td_pick := g__law_td_pick) (k__law_td_pick := F__law_td_pick.kp) (FD := F__law_td_wide_shape)
  have C__law_td_any_shape := ok__law_td_any_shape (P := P) (w := w) (K := K) (mg := mg) (base := base) (c__law_td_pick := C__law_td_pick) (b__law_td_pick := b__law_td_pick) (g__law_td_pick := g__law_td_pick) (k__law_td_pick := F__law_td_pick.kp) (c__law_td_shape := C__law_td_shape) (b__law_td_shape := b__law_td_shape) (g__law_td_shape := g__law_td_shape) (k__law_td_shape := F__law_td_shape.kp) (c__law_td_wide_shape := C__law_td_wide_shape) (b__law_td_wide_shape := b__law_td_wide_shape) (g__law_td_wide_shape := g__law_td_wide_shape) (k__law_td_wide_shape := F__law_td_wide_shape.kp) (FD := F__law_td_any_shape)
  have C__law_td_right := ok__law_td_right (P := P) (w := w) (K := K) (mg := mg) (base := base) (f_int := f_int) (f_len := f_len) (f_list := f_list) (f_range := f_range) (f_repr := f_repr) (t_eq := t_eq) (t_mk := t_mk) (g_Tape := g_Tape) (kb_longest_1_row_cost_asks := kb_longest_1_row_cost_asks) (kb_total_0_asks_row_tape := kb_total_0_asks_row_tape) (c_Tape_DeqD := C_Tape_DeqD) (b_Tape_DeqD := b_Tape_DeqD) (c_Tape_DinitD := C_Tape_DinitD) (b_Tape_DinitD := b_Tape_DinitD) (c__law_td_any_shape := C__law_td_any_shape) (b__law_td_any_shape := b__law_td_any_shape) (g__law_td_any_shape := g__law_td_any_shape) (k__law_td_any_shape := F__law_td_any_shape.kp) (c__law_td_bends := C__law_td_bends) (b__law_td_bends := b__law_td_bends) (g__law_td_bends := g__law_td_bends) (k__law_td_bends := F__law_td_bends.kp) (c__law_td_comes := C__law_td_comes) (b__law_td_comes := b__law_td_comes) (g__law_td_comes := g__law_td_comes) (k__law_td_comes := F__law_td_comes.kp) (c__law_td_counts := C__law_td_counts) (b__law_td_counts := b__law_td_counts) (g__law_td_counts := g__law_td_counts) (k__law_td_counts := F__law_td_counts.kp) (c__law_td_led := C__law_td_led) (b__law_td_led := b__law_td_led) (g__law_td_led := g__law_td_led) (k__law_td_led := F__law_td_led.kp) (c__law_td_pick := C__law_td_pick) (b__law_td_pick := b__law_td_pick) (g__law_td_pick := g__law_td_pick) (k__law_td_pick := F__law_td_pick.kp) (c__law_td_price := C__law_td_price) (b__law_td_price := b__law_td_price) (g__law_td_price := g__law_td_price) (k__law_td_price := F__law_td_price.kp) (c__law_td_road := C__law_td_road) (b__law_td_road := b__law_td_road) (g__law_td_road := g__law_td_road) (k__law_td_road := F__law_td_road.kp) (c__law_td_sum := C__law_td_sum) (b__law_td_sum := b__law_td_sum) (g__law_td_sum := g__law_td_sum) (k__law_td_sum := F__law_td_sum.kp) (c__law_td_under := C__law_td_under) (b__law_td_under := b__law_td_under) (g__law_td_under := g__law_td_under) (k__law_td_under := F__law_td_under.kp) (c_longest := C_longest) (b_longest := b_longest) (g_longest := g_longest) (k_longest := F_longest.kp) (c_total := C_total) (b_total := b_total) (g_total := g_total) (k_total := F_total.kp) (c_waits := C_waits) (b_waits := b_waits) (g_waits := g_waits) (k_waits := F_waits.kp) (FD := F__law_td_right)
  have C_law := ok_law (P := P) (w := w) (K := K) (mg := mg) (base := base) (f_len := f_len) (f_max := f_max) (f_min := f_min) (f_range := f_range) (c__law_td_right := C__law_td_right) (b__law_td_right := b__law_td_right) (g__law_td_right := g__law_td_right) (k__law_td_right := F__law_td_right.kp) (c__law_td_sack := C__law_td_sack) (b__law_td_sack := b__law_td_sack) (g__law_td_sack := g__law_td_sack) (k__law_td_sack := F__law_td_sack.kp) (FD := F_law)
  exact C_law
end Tk
open PySem PySem.W PySem.Calls PyProof.Rows
theorem PySem.Challenge.cw_tapedetours_k07_sums_and_longest_waits_of (hlaw : ∀ ns : List Int, ns.length ≤ 63 → ∃ s, Tk.m_law ns () = .ok true s) : PySem.Challenge.rw_tapedetours_k07_sums_and_longest_waits.Holds := by
  w_on; o_law
  refine HandSHeadRun.head_any (r := OpenLaw.row PySem.Challenge.rw_tapedetours_k07_sums_and_longest_waits) (q := view (OpenLaw.row PySem.Challenge.rw_tapedetours_k07_sums_and_longest_waits).prog [47]) (H := Hd.hk) (ob := Hd.ob) (M := 20000) (loose := Hd.loose) (d := HandSHeadRun.topDef (OpenLaw.row PySem.Challenge.rw_tapedetours_k07_sums_and_longest_waits).prog 47) (kwd := []) Hd.ob_eq
    (by kernel_rfl) (fun s => by kernel_rfl) Hd.run (by kernel_rfl) (by kernel_rfl) (by kernel_rfl) (by rfl) (by first | assumption | decide +kernel) (by decide +kernel) ⟨rfl, rfl, rfl, rfl, rfl, by decide +kernel⟩ ?hw ?hc
  case hw => w_witness2
  case hc =>
    refine Td.walk_ofG (l := PySem.Challenge.rw_tapedetours_k07_sums_and_longest_waits) (n := 63) (k := 8) (x := "_law_script") rfl (by decide) (by kernel_rfl) ⟨rfl, by decide, by decide⟩ ?F
    intro w mg fa h Y G hmg0
    obtain ⟨K, KX, c⟩ := Y
    have hmg : mg ("law" : PySem.Str) = some (.ref fa) := by
      have e : (HandSHeadRun.topDef (OpenLaw.row PySem.Challenge.rw_tapedetours_k07_sums_and_longest_waits).prog 47).name = ("law" : PySem.Str) := by kernel_rfl
      rw [← e]
      exact hmg0
    obtain ⟨fd, hb, hF⟩ := Tk.facts (P := (PySem.Challenge.rw_tapedetours_k07_sums_and_longest_waits).prog) (w := w) KX G hmg c
    exact ⟨K, fd, _, KX, hb, fun H a ns hl hO hS => Td.law_sp hO hS (hlaw ns hl), hF⟩

open PySem PySem.W PyProof.Rows
theorem PySem.Challenge.cw_tapedetours_k07_sums_and_longest_waits_holds : PySem.Challenge.rw_tapedetours_k07_sums_and_longest_waits.Holds := by
  exact PySem.Challenge.cw_tapedetours_k07_sums_and_longest_waits_of Tk.law_true
