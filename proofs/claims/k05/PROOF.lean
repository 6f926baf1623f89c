import PyProof.Rows.All
import Wide.All
import OpenK.AllK
import Wide.FinOn
import HandS.ForMost
import HandS.ForExc
import HandS.Slots
import HandS.SlotsOwn
import HandS.ExcInit
import HandS.Star
import HandS.Wide
import HandS.Style
import HandS.Flow
import HandS.MakeKw
import HandS.TryOnly
import HandS.Conv
import KE.KStateDown
import HandS.Ends
import HandS.Defaults
import HandS.Head0
import HandS.Head1
import HandS.Head2
import HandS.HeadEnd
import HandS.HeadHook1
import HandS.HeadHook2
import HandS.CallSlots
import HandS.TupAny
import HandS.MakeKwOnly
import KE.KExcIs
import HandS.ExcOwn
import HandS.IsInst
import HandS.TupLe
import HandS.SortInts
import PySem.Challenge.RW_tapedetours_k05_without_and_turned
set_option Elab.async false
set_option linter.all false
set_option maxRecDepth 100000
set_option maxHeartbeats 4000000
namespace Td
open PySem PySem.Spec PyProof.Rows L2

/-! ### outcomes -/
inductive Pay where
  | non | int (i : Int) | pair (a b : Int) | lsI (l : List Int) | lsP (l : List (Int × Int)) | str (x : Str)
structure Exn where
  cls : Str
  pay : Pay
inductive Rs (S T : Type) where
  | ok (a : T) (s : S)
  | exc (e : Exn) (s : S)
  | stuck
def SM (S T : Type) : Type := S → Rs S T
def Rs.wp {S T : Type} : Rs S T → (T → S → Prop) → (Exn → S → Prop) → Prop
  | .ok a s, P, _ => P a s
  | .exc e s, _, E => E e s
  | .stuck, _, _ => False
def ret {S T : Type} (a : T) : SM S T := fun s => .ok a s
def rse {S T : Type} (e : Exn) : SM S T := fun s => .exc e s
def stk {S T : Type} : SM S T := fun _ => .stuck
def bnd {S T U : Type} (m : SM S T) (k : T → SM S U) : SM S U := fun s => match m s with
  | .ok a s' => k a s'
  | .exc e s' => .exc e s'
  | .stuck => .stuck
/-- a pure computation within one with a state -/
def lft {S T : Type} (m : SM Unit T) : SM S T := fun s => match m () with
  | .ok a _ => .ok a s
  | .exc e _ => .exc e s
  | .stuck => .stuck
/-- only if c holds -/
def grd {S : Type} (c : Prop) [Decidable c] : SM S Unit := fun s => if c then .ok () s else .stuck
theorem wp_mono {S T : Type} {r : Rs S T} {P P' : T → S → Prop} {E E' : Exn → S → Prop} (h : r.wp P E) (hp : ∀ a s, P a s → P' a s) (he : ∀ e s, E e s → E' e s) : r.wp P' E' := by
  cases r with
  | ok a s => exact hp a s h
  | exc e s => exact he e s h
  | stuck => exact h
theorem wp_bnd {S T U : Type} {m : SM S T} {k : T → SM S U} {s : S} {P : U → S → Prop} {E : Exn → S → Prop} (h : (bnd m k s).wp P E) : (m s).wp (fun a s' => (k a s').wp P E) E := by
  unfold bnd at h
  cases hm : m s with
  | ok a s' => rw [hm] at h; exact h
  | exc e s' => rw [hm] at h; exact h
  | stuck => rw [hm] at h; exact h
theorem bnd_wp {S T U : Type} {m : SM S T} {k : T → SM S U} {s : S} {P : U → S → Prop} {E : Exn → S → Prop} (h : (m s).wp (fun a s' => (k a s').wp P E) E) : (bnd m k s).wp P E := by
  unfold bnd
  cases hm : m s with
  | ok a s' => rw [hm] at h; exact h
  | exc e s' => rw [hm] at h; exact h
  | stuck => rw [hm] at h; exact h
theorem wp_grd {S : Type} {c : Prop} [Decidable c] {s : S} {P : Unit → S → Prop} {E : Exn → S → Prop} (h : (grd c s).wp P E) : c ∧ P () s := by
  unfold grd at h
  by_cases hc : c
  · rw [if_pos hc] at h; exact ⟨hc, h⟩
  · rw [if_neg hc] at h; exact h.elim
theorem wp_lft {S T : Type} {m : SM Unit T} {s : S} {P : T → S → Prop} {E : Exn → S → Prop} (h : ((lft m : SM S T) s).wp P E) : (m ()).wp (fun a _ => P a s) (fun e _ => E e s) := by
  unfold lft at h
  cases hm : m () with
  | ok a s' => rw [hm] at h; exact h
  | exc e s' => rw [hm] at h; exact h
  | stuck => rw [hm] at h; exact h

/-! ### representations: B are the objects that this value owns; M all that is owned by someone -/
def isTup : HO → Bool
  | .tup _ => true
  | .frz _ _ => true
  | _ => false
structure Rp (T : Type) where
  rel : PySem.W.Frag → List Addr → Hp → V → T → List Addr → Prop
  keep : ∀ {K M H H' v a B}, rel K M H v a B → (∀ p o, H p = some o → (p ∉ M ∨ p ∈ B ∨ isTup o = true) → H' p = some o) → rel K M H' v a B
  grow : ∀ {K M M' H v a B}, rel K M H v a B → (∀ p, p ∈ M' → p ∈ M ∨ H p = none) → rel K M' H v a B
  trk : ∀ {K M H v a B}, rel K M H v a B → ∀ p, p ∈ B → ∃ o, H p = some o ∧ isTup o = false

/-- plain values -/
def rPl {T : Type} (f : T → V) : Rp T where
  rel := fun _ _ _ v a B => v = f a ∧ B = []
  keep := fun h _ => h
  grow := fun h _ => h
  trk := fun h p hp => by rw [h.2] at hp; cases hp
def rInt : Rp Int := rPl V.int
def rBool : Rp Bool := rPl V.bl
def rStr : Rp Str := rPl V.str
def rNon : Rp Unit := rPl fun _ => V.non

theorem sqT_keep {K : PySem.W.Frag} {M B : List Addr} {H H' : Hp} {p : Addr} {xs : List V} (h : SqT K H p xs) (k : ∀ p o, H p = some o → (p ∉ M ∨ p ∈ B ∨ isTup o = true) → H' p = some o) : SqT K H' p xs := by
  rcases h with (h | ⟨o, h⟩) | h
  · exact .inl (.inl (k _ _ h (.inr (.inr rfl))))
  · exact .inl (.inr ⟨o, k _ _ h (.inr (.inr rfl))⟩)
  · exact .inr h

def rPair {T U : Type} (r : Rp T) (q : Rp U) : Rp (T × U) where
  rel := fun K M H v a B => ∃ p v1 v2 B1 B2, v = .ref p ∧ SqT K H p [v1, v2] ∧ r.rel K M H v1 a.1 B1 ∧ q.rel K M H v2 a.2 B2 ∧ B = B1 ++ B2
  keep := by
    rintro K M H H' v a B ⟨p, v1, v2, B1, B2, e, hT, h1, h2, eB⟩ k
    subst eB
    exact ⟨p, v1, v2, B1, B2, e, sqT_keep hT k, r.keep h1 (fun p o e h => k p o e (h.imp id (Or.imp (fun z => List.mem_append_left _ z) id))), q.keep h2 (fun p o e h => k p o e (h.imp id (Or.imp (fun z => List.mem_append_right _ z) id))), rfl⟩
  grow := by
    rintro K M M' H v a B ⟨p, v1, v2, B1, B2, e, hT, h1, h2, eB⟩ k
    exact ⟨p, v1, v2, B1, B2, e, hT, r.grow h1 k, q.grow h2 k, eB⟩
  trk := by
    rintro K M H v a B ⟨p, v1, v2, B1, B2, e, hT, h1, h2, eB⟩ x hx
    subst eB
    rcases List.mem_append.mp hx with hx | hx
    · exact r.trk h1 x hx
    · exact q.trk h2 x hx
def rTup3 {T U W : Type} (r : Rp T) (q : Rp U) (t : Rp W) : Rp (T × U × W) where
  rel := fun K M H v a B => ∃ p v1 v2 v3 B1 B2 B3, v = .ref p ∧ SqT K H p [v1, v2, v3] ∧ r.rel K M H v1 a.1 B1 ∧ q.rel K M H v2 a.2.1 B2 ∧ t.rel K M H v3 a.2.2 B3 ∧ B = B1 ++ (B2 ++ B3)
  keep := by
    rintro K M H H' v a B ⟨p, v1, v2, v3, B1, B2, B3, e, hT, h1, h2, h3, eB⟩ k
    subst eB
    exact ⟨p, v1, v2, v3, B1, B2, B3, e, sqT_keep hT k, r.keep h1 (fun p o e h => k p o e (h.imp id (Or.imp (fun z => List.mem_append_left _ z) id))), q.keep h2 (fun p o e h => k p o e (h.imp id (Or.imp (fun z => List.mem_append_right _ (List.mem_append_left _ z)) id))),
      t.keep h3 (fun p o e h => k p o e (h.imp id (Or.imp (fun z => List.mem_append_right _ (List.mem_append_right _ z)) id))), rfl⟩
  grow := by
    rintro K M M' H v a B ⟨p, v1, v2, v3, B1, B2, B3, e, hT, h1, h2, h3, eB⟩ k
    exact ⟨p, v1, v2, v3, B1, B2, B3, e, hT, r.grow h1 k, q.grow h2 k, t.grow h3 k, eB⟩
  trk := by
    rintro K M H v a B ⟨p, v1, v2, v3, B1, B2, B3, e, hT, h1, h2, h3, eB⟩ x hx
    subst eB
    rcases List.mem_append.mp hx with hx | hx
    · exact r.trk h1 x hx
    · rcases List.mem_append.mp hx with hx | hx
      · exact q.trk h2 x hx
      · exact t.trk h3 x hx
def rOpt {T : Type} (r : Rp T) : Rp (Option T) where
  rel := fun K M H v a B => match a with
    | none => v = .non ∧ B = []
    | some a => r.rel K M H v a B
  keep := by
    intro K M H H' v a B h k
    cases a with
    | none => exact h
    | some a => exact r.keep h k
  grow := by
    intro K M M' H v a B h k
    cases a with
    | none => exact h
    | some a => exact r.grow h k
  trk := by
    intro K M H v a B h x hx
    cases a with
    | none => rw [h.2] at hx; cases hx
    | some a => exact r.trk h x hx

/-- items one by one -/
inductive All3 {T : Type} (R : V → T → List Addr → Prop) : List V → List T → List Addr → Prop
  | nil : All3 R [] [] []
  | cons {v a B vs as A} (h : R v a B) (t : All3 R vs as A) : All3 R (v :: vs) (a :: as) (B ++ A)
theorem All3.length {T : Type} {R : V → T → List Addr → Prop} {vs : List V} {as : List T} {A : List Addr} (h : All3 R vs as A) : vs.length = as.length := by
  induction h with
  | nil => rfl
  | cons _ _ ih => simp [ih]
theorem All3.imp {T : Type} {R R' : V → T → List Addr → Prop} {vs : List V} {as : List T} {A : List Addr} (h : All3 R vs as A) (k : ∀ v a B, (∀ p, p ∈ B → p ∈ A) → R v a B → R' v a B) : All3 R' vs as A := by
  induction h with
  | nil => exact .nil
  | cons h t ih => exact .cons (k _ _ _ (fun p hp => List.mem_append_left _ hp) h) (ih fun v a B hB hr => k v a B (fun p hp => List.mem_append_right _ (hB p hp)) hr)
theorem All3.append {T : Type} {R : V → T → List Addr → Prop} {vs ws : List V} {as bs : List T} {A B : List Addr} (h : All3 R vs as A) (h' : All3 R ws bs B) : All3 R (vs ++ ws) (as ++ bs) (A ++ B) := by
  induction h with
  | nil => exact h'
  | cons h t ih =>
    rw [List.append_assoc]
    exact .cons h ih
theorem All3.get {T : Type} {R : V → T → List Addr → Prop} {vs : List V} {as : List T} {A : List Addr} (h : All3 R vs as A) {i : Nat} {v : V} (e : vs[i]? = some v) : ∃ a B, as[i]? = some a ∧ R v a B ∧ ∀ p, p ∈ B → p ∈ A := by
  induction h generalizing i with
  | nil => simp at e
  | cons h t ih =>
    cases i with
    | zero =>
      have e' := Option.some.inj e
      subst e'
      exact ⟨_, _, rfl, h, fun p hp => List.mem_append_left _ hp⟩
    | succ i =>
      obtain ⟨a, B, h1, h2, h3⟩ := ih (i := i) (by simpa using e)
      exact ⟨a, B, by simpa using h1, h2, fun p hp => List.mem_append_right _ (h3 p hp)⟩
theorem All3.get' {T : Type} {R : V → T → List Addr → Prop} {vs : List V} {as : List T} {A : List Addr} (h : All3 R vs as A) {i : Nat} {a : T} (e : as[i]? = some a) : ∃ v B, vs[i]? = some v ∧ R v a B ∧ ∀ p, p ∈ B → p ∈ A := by
  have hi : i < vs.length := by rw [h.length]; exact (List.getElem?_eq_some_iff.mp e).1
  obtain ⟨b, B, h1, h2, h3⟩ := h.get (i := i) (v := vs[i]) (List.getElem?_eq_getElem hi)
  rw [e] at h1
  cases h1
  exact ⟨_, B, List.getElem?_eq_getElem hi, h2, h3⟩
theorem All3.trk {T : Type} {R : V → T → List Addr → Prop} {vs : List V} {as : List T} {A : List Addr} {P : Addr → Prop} (h : All3 R vs as A) (k : ∀ v a B, R v a B → ∀ p, p ∈ B → P p) : ∀ p, p ∈ A → P p := by
  induction h with
  | nil => intro p hp; cases hp
  | cons h t ih =>
    intro p hp
    rcases List.mem_append.mp hp with hp | hp
    · exact k _ _ _ h p hp
    · exact ih p hp
def rList {T : Type} (r : Rp T) : Rp (List T) where
  rel := fun K M H v a B => ∃ p vs A, v = .ref p ∧ H p = some (.lst vs) ∧ All3 (r.rel K M H) vs a A ∧ B = p :: A
  keep := by
    rintro K M H H' v a B ⟨p, vs, A, e, hp, hA, eB⟩ k
    subst eB
    exact ⟨p, vs, A, e, k p _ hp (.inr (.inl (List.mem_cons_self ..))), hA.imp fun v a B hB h => r.keep h (fun p o e h => k p o e (h.imp id (Or.imp (fun z => List.mem_cons_of_mem _ (hB _ z)) id))), rfl⟩
  grow := by
    rintro K M M' H v a B ⟨p, vs, A, e, hp, hA, eB⟩ k
    exact ⟨p, vs, A, e, hp, hA.imp fun v a B hB h => r.grow h k, eB⟩
  trk := by
    rintro K M H v a B ⟨p, vs, A, e, hp, hA, eB⟩ x hx
    subst eB
    rcases List.mem_cons.mp hx with hx | hx
    · subst hx; exact ⟨_, hp, rfl⟩
    · exact hA.trk (P := fun x => ∃ o, H x = some o ∧ isTup o = false) (fun v a B h => r.trk h) x hx
/-- a tuple of many -/
def rTupL {T : Type} (r : Rp T) : Rp (List T) where
  rel := fun K M H v a B => ∃ p vs, v = .ref p ∧ SqT K H p vs ∧ All3 (r.rel K M H) vs a B
  keep := by
    rintro K M H H' v a B ⟨p, vs, e, hp, hA⟩ k
    exact ⟨p, vs, e, sqT_keep hp k, hA.imp fun v a B hB h => r.keep h (fun p o e h => k p o e (h.imp id (Or.imp (fun z => hB _ z) id)))⟩
  grow := by
    rintro K M M' H v a B ⟨p, vs, e, hp, hA⟩ k
    exact ⟨p, vs, e, hp, hA.imp fun v a B hB h => r.grow h k⟩
  trk := by
    rintro K M H v a B ⟨p, vs, e, hp, hA⟩ x hx
    exact hA.trk (P := fun x => ∃ o, H x = some o ∧ isTup o = false) (fun v a B h => r.trk h) x hx
/-- shared: nothing is owned here, and what is reached is owned by no one -/
def sh {T : Type} (r : Rp T) : Rp T where
  rel := fun K M H v a B => B = [] ∧ ∃ A, r.rel K M H v a A ∧ ∀ p, p ∈ A → p ∉ M
  keep := by
    rintro K M H H' v a B ⟨eB, A, h, hA⟩ k
    exact ⟨eB, A, r.keep h (fun p o e hp => k p o e (hp.elim .inl fun z => z.elim (fun y => .inl (hA p y)) fun y => .inr (.inr y))), hA⟩
  grow := by
    rintro K M M' H v a B ⟨eB, A, h, hA⟩ k
    refine ⟨eB, A, r.grow h k, fun p hp hM => ?_⟩
    rcases k p hM with z | z
    · exact hA p hp z
    · obtain ⟨o, ho, _⟩ := r.trk h p hp
      rw [z] at ho; cases ho
  trk := by
    rintro K M H v a B ⟨eB, A, h, hA⟩ x hx
    rw [eB] at hx; cases hx
/-- nothing owned -/
def Rp.Cp {T : Type} (r : Rp T) : Prop := ∀ {K M H v a B}, r.rel K M H v a B → B = []
theorem cp_pl {T : Type} {f : T → V} : (rPl f).Cp := fun h => h.2
theorem cp_int : rInt.Cp := fun h => h.2
theorem cp_bool : rBool.Cp := fun h => h.2
theorem cp_str : rStr.Cp := fun h => h.2
theorem cp_non : rNon.Cp := fun h => h.2
theorem cp_sh {T : Type} {r : Rp T} : (sh r).Cp := fun h => h.1
theorem cp_pair {T U : Type} {r : Rp T} {q : Rp U} (c1 : r.Cp) (c2 : q.Cp) : (rPair r q).Cp := by
  rintro K M H v a B ⟨p, v1, v2, B1, B2, e, hT, h1, h2, eB⟩
  rw [eB, c1 h1, c2 h2]; rfl
theorem cp_tup3 {T U W : Type} {r : Rp T} {q : Rp U} {t : Rp W} (c1 : r.Cp) (c2 : q.Cp) (c3 : t.Cp) : (rTup3 r q t).Cp := by
  rintro K M H v a B ⟨p, v1, v2, v3, B1, B2, B3, e, hT, h1, h2, h3, eB⟩
  rw [eB, c1 h1, c2 h2, c3 h3]; rfl
theorem cp_opt {T : Type} {r : Rp T} (c : r.Cp) : (rOpt r).Cp := by
  intro K M H v a B h
  cases a with
  | none => exact h.2
  | some a => exact c h
theorem cp_tupL {T : Type} {r : Rp T} (c : r.Cp) : (rTupL r).Cp := by
  rintro K M H v a B ⟨p, vs, e, hp, hA⟩
  clear e hp
  induction hA with
  | nil => rfl
  | cons h t ih => rw [c h, ih]; rfl
/-- what is owned becomes shared; what is shared may be read as the thing itself -/
theorem Rp.to_sh {T : Type} {r : Rp T} {K M M' H v a B} (h : r.rel K M H v a B) (hM : ∀ p, p ∈ M' → p ∈ M ∧ p ∉ B) : (sh r).rel K M' H v a [] :=
  ⟨rfl, B, r.grow h (fun p hp => .inl (hM p hp).1), fun p hp z => (hM p z).2 hp⟩

/-! ### slots -/
inductive Slot : Type 1 where
  | un
  | is {T : Type} (r : Rp T) (a : T)
  | pn {T : Type} (v : V) (r : Rp T) (a : T)
def Slot.ok (K : PySem.W.Frag) (M : List Addr) (H : Hp) : Slot → Option V → List Addr → Prop
  | .un, _, B => B = []
  | .is r a, x, B => ∃ v, x = some v ∧ r.rel K M H v a B
  | .pn v r a, x, B => x = some v ∧ r.rel K M H v a B
inductive AtS (K : PySem.W.Frag) (M : List Addr) (H : Hp) : List Slot → List (Option V) → List Addr → Prop
  | nil : AtS K M H [] [] []
  | cons {g x B G s A} (h : g.ok K M H x B) (t : AtS K M H G s A) : AtS K M H (g :: G) (x :: s) (B ++ A)
section
variable {K : PySem.W.Frag} {M M' : List Addr} {H H' : Hp}
theorem Slot.ok_keep {g : Slot} {x : Option V} {B : List Addr} (h : g.ok K M H x B) (k : ∀ p o, H p = some o → (p ∉ M ∨ p ∈ B ∨ isTup o = true) → H' p = some o) : g.ok K M H' x B := by
  cases g with
  | un => exact h
  | is r a => obtain ⟨v, e, h⟩ := h; exact ⟨v, e, r.keep h k⟩
  | pn v r a => exact ⟨h.1, r.keep h.2 k⟩
theorem Slot.ok_grow {g : Slot} {x : Option V} {B : List Addr} (h : g.ok K M H x B) (k : ∀ p, p ∈ M' → p ∈ M ∨ H p = none) : g.ok K M' H x B := by
  cases g with
  | un => exact h
  | is r a => obtain ⟨v, e, h⟩ := h; exact ⟨v, e, r.grow h k⟩
  | pn v r a => exact ⟨h.1, r.grow h.2 k⟩
theorem Slot.ok_trk {g : Slot} {x : Option V} {B : List Addr} (h : g.ok K M H x B) : ∀ p, p ∈ B → ∃ o, H p = some o ∧ isTup o = false := by
  cases g with
  | un => intro p hp; rw [show B = [] from h] at hp; cases hp
  | is r a => obtain ⟨v, e, h⟩ := h; exact r.trk h
  | pn v r a => exact r.trk h.2
theorem AtS.keep {G s A} (h : AtS K M H G s A) (k : ∀ p o, H p = some o → (p ∉ M ∨ p ∈ A ∨ isTup o = true) → H' p = some o) : AtS K M H' G s A := by
  induction h with
  | nil => exact .nil
  | cons h t ih => exact .cons (Slot.ok_keep h fun p o e z => k p o e (z.imp id (Or.imp (fun y => List.mem_append_left _ y) id))) (ih fun p o e z => k p o e (z.imp id (Or.imp (fun y => List.mem_append_right _ y) id)))
theorem AtS.grow {G s A} (h : AtS K M H G s A) (k : ∀ p, p ∈ M' → p ∈ M ∨ H p = none) : AtS K M' H G s A := by
  induction h with
  | nil => exact .nil
  | cons h t ih => exact .cons (Slot.ok_grow h k) ih
theorem AtS.trk {G s A} (h : AtS K M H G s A) : ∀ p, p ∈ A → ∃ o, H p = some o ∧ isTup o = false := by
  induction h with
  | nil => intro p hp; cases hp
  | cons h t ih =>
    intro p hp
    rcases List.mem_append.mp hp with hp | hp
    · exact Slot.ok_trk h p hp
    · exact ih p hp
theorem AtS.length {G s A} (h : AtS K M H G s A) : s.length = G.length := by
  induction h with
  | nil => rfl
  | cons _ _ ih => simp [ih]
theorem AtS.append {G s A G' s' A'} (h : AtS K M H G s A) (h' : AtS K M H G' s' A') : AtS K M H (G ++ G') (s ++ s') (A ++ A') := by
  induction h with
  | nil => exact h'
  | cons h t ih =>
    rw [List.append_assoc]
    exact .cons h ih
/-- a slot taken out: what it owns, the rest -/
theorem AtS.at_ {G s A} (h : AtS K M H G s A) {i : Nat} {g : Slot} (e : G[i]? = some g) : ∃ x B A1 A2, s[i]? = some x ∧ g.ok K M H x B ∧ A = A1 ++ (B ++ A2) ∧
    ∀ (M' : List Addr) (H' : Hp) (g' : Slot) (x' : Option V) (B' : List Addr), (∀ {g x B}, Slot.ok K M H g x B → (∀ p, p ∈ B → p ∈ A1 ∨ p ∈ A2) → Slot.ok K M' H' g x B) → g'.ok K M' H' x' B' → AtS K M' H' (G.set i g') (s.set i x') (A1 ++ (B' ++ A2)) := by
  induction h generalizing i with
  | nil => simp at e
  | @cons g1 x1 B1 G1 s1 A1 h t ih =>
    have all : ∀ {G s A}, AtS K M H G s A → ∀ (M' : List Addr) (H' : Hp), (∀ {g x B}, Slot.ok K M H g x B → (∀ p, p ∈ B → p ∈ A) → Slot.ok K M' H' g x B) → AtS K M' H' G s A := by
      intro G s A h M' H'
      induction h with
      | nil => intro _; exact .nil
      | cons h t ih => intro k; exact .cons (k h fun p hp => List.mem_append_left _ hp) (ih fun h hp => k h fun p z => List.mem_append_right _ (hp p z))
    cases i with
    | zero =>
      have e' : g1 = g := Option.some.inj e
      subst e'
      refine ⟨x1, B1, [], A1, rfl, h, rfl, fun M' H' g' x' B' k hg => ?_⟩
      show AtS K M' H' (g' :: G1) (x' :: s1) (B' ++ A1)
      exact .cons hg (all t M' H' fun h hp => k h fun p z => .inr (hp p z))
    | succ i =>
      obtain ⟨x, B, P1, P2, h1, h2, h3, h4⟩ := ih (i := i) (by simpa using e)
      refine ⟨x, B, B1 ++ P1, P2, by simpa using h1, h2, by rw [h3, List.append_assoc], fun M' H' g' x' B' k hg => ?_⟩
      rw [List.append_assoc]
      exact .cons (k h fun p hp => .inl (List.mem_append_left _ hp)) (h4 M' H' g' x' B' (fun h hp => k h fun p z => (hp p z).imp (fun y => List.mem_append_right _ y) id) hg)
end
theorem set_self {T : Type _} {l : List T} {i : Nat} {x : T} (h : l[i]? = some x) : l.set i x = l := by
  apply List.ext_getElem?
  intro j
  rw [List.getElem?_set]
  split
  · rename_i e
    subst e
    split
    · exact h.symm
    · rw [h]
      rename_i z
      exact absurd (List.getElem?_eq_some_iff.mp h).1 z
  · rfl

/-! ### where one stands: a def's frame -/
structure FC (K : PySem.W.Frag) (S : Type) where
  H0 : Hp
  I : List Addr
  M0 : List Addr
  io : S → List Slot
  W : WX
structure Good {K : PySem.W.Frag} {S : Type} (F : FC K S) (H : Hp) (A : List Addr) : Prop where
  nd : A.Nodup
  out : ∀ p, p ∈ A → p ∉ F.M0
  new : ∀ p, p ∈ A → F.H0 p = none ∨ p ∈ F.I
  has : ∀ p, p ∈ F.I → ∃ o, H p = some o ∧ isTup o = false
  stay : ∀ p o, F.H0 p = some o → p ∉ F.I → H p = some o
  m0 : ∀ p, p ∈ F.M0 → (∃ o, F.H0 p = some o ∧ isTup o = false) ∧ p ∉ F.I
structure AtP {K : PySem.W.Frag} {S : Type} (F : FC K S) (T : List Slot) (t : List V) (G : List Slot) (s : L2.St) (H : Hp) (A1 A2 : List Addr) : Prop where
  tmp : AtS K (A1 ++ A2 ++ F.M0) H T (t.map some) A1
  loc : AtS K (A1 ++ A2 ++ F.M0) H G s A2
  good : Good F H (A1 ++ A2)
theorem Good.sub {K : PySem.W.Frag} {S : Type} {F : FC K S} {H : Hp} {A A' : List Addr} (g : Good F H A) (nd : A'.Nodup) (h : ∀ p, p ∈ A' → p ∈ A) : Good F H A' :=
  ⟨nd, fun p hp => g.out p (h p hp), fun p hp => g.new p (h p hp), g.has, g.stay, g.m0⟩
/-- what is untracked is new -/
theorem Good.fresh {K : PySem.W.Frag} {S : Type} {F : FC K S} {H : Hp} {A : List Addr} (g : Good F H A) {p : Addr} (hp : H p = none) : F.H0 p = none ∧ p ∉ F.M0 ∧ p ∉ F.I := by
  have hI : p ∉ F.I := fun z => by
    obtain ⟨o, ho, _⟩ := g.has p z
    rw [hp] at ho; cases ho
  have h0 : F.H0 p = none := by
    cases q : F.H0 p with
    | none => rfl
    | some o =>
      have := g.stay p o q hI
      rw [hp] at this; cases this
  refine ⟨h0, fun z => ?_, hI⟩
  obtain ⟨⟨o, ho, _⟩, _⟩ := g.m0 p z
  rw [h0] at ho; cases ho
def At {K : PySem.W.Frag} {S : Type} (F : FC K S) (T : List Slot) (t : List V) (G : List Slot) (s : L2.St) (H : Hp) : Prop := ∃ A1 A2, AtP F T t G s H A1 A2
end Td
namespace Td
open PySem PySem.Spec PyProof.Rows L2
section
variable {K : PySem.W.Frag} {S : Type} {F : FC K S} {T : List Slot} {t : List V} {G : List Slot} {s : L2.St} {H : Hp}
theorem At.len (h : At F T t G s H) : s.length = G.length := by
  obtain ⟨A1, A2, h⟩ := h
  exact h.loc.length
/-- a plain value becomes a temp -/
theorem At.push {U : Type} {r : Rp U} {a : U} {v : V} (h : At F T t G s H) (hr : ∀ M, r.rel K M H v a []) : At F (.is r a :: T) (v :: t) G s H := by
  obtain ⟨A1, A2, h⟩ := h
  exact ⟨A1, A2, .cons (B := []) ⟨v, rfl, hr _⟩ h.tmp, h.loc, h.good⟩
/-- the heap grows by an untracked thing -/
theorem At.heap {H' : Hp} (h : At F T t G s H) (k : ∀ p o, H p = some o → H' p = some o) : At F T t G s H' := by
  obtain ⟨A1, A2, h⟩ := h
  refine ⟨A1, A2, h.tmp.keep fun p o e _ => k p o e, h.loc.keep fun p o e _ => k p o e, ⟨h.good.nd, h.good.out, h.good.new, fun p hp => ?_, fun p o e hp => k p o (h.good.stay p o e hp), h.good.m0⟩⟩
  obtain ⟨o, ho, ht⟩ := h.good.has p hp
  exact ⟨o, k p o ho, ht⟩
theorem AtS.cons_inv {K : PySem.W.Frag} {M : List Addr} {H : Hp} {g : Slot} {G : List Slot} {x : Option V} {s : List (Option V)} {A : List Addr} (h : AtS K M H (g :: G) (x :: s) A) : ∃ B A', A = B ++ A' ∧ g.ok K M H x B ∧ AtS K M H G s A' := by
  cases h with
  | cons h t => exact ⟨_, _, rfl, h, t⟩
theorem At.pop {g : Slot} {v : V} (h : At F (g :: T) (v :: t) G s H) : At F T t G s H := by
  obtain ⟨A1, A2, h⟩ := h
  obtain ⟨B, A', eA, h1, h2⟩ := AtS.cons_inv h.tmp
  subst eA
  have hs : ∀ p, p ∈ A' ++ A2 → p ∈ (B ++ A') ++ A2 := fun p hp => by simp only [List.mem_append] at *; grind
  have hM : ∀ p, p ∈ A' ++ A2 ++ F.M0 → p ∈ (B ++ A') ++ A2 ++ F.M0 ∨ H p = none := fun p hp => .inl (by simp only [List.mem_append] at *; grind)
  refine ⟨A', A2, h2.grow hM, h.loc.grow hM, h.good.sub ?_ hs⟩
  have := h.good.nd
  rw [List.append_assoc] at this
  exact (List.nodup_append.mp this).2.1
/-- what stands in slot i -/
theorem At.slot (h : At F T t G s H) {i : Nat} {U : Type} {r : Rp U} {a : U} (e : G[i]? = some (.is r a)) : ∃ v M B, s[i]? = some (some v) ∧ r.rel K M H v a B := by
  obtain ⟨A1, A2, h⟩ := h
  obtain ⟨x, B, P1, P2, e1, ⟨v, e2, hr⟩, _⟩ := h.loc.at_ e
  subst e2
  exact ⟨v, _, B, e1, hr⟩
/-- a slot that owns nothing, read -/
theorem At.copy (h : At F T t G s H) {i : Nat} {U : Type} {r : Rp U} {a : U} (c : r.Cp) (e : G[i]? = some (.is r a)) : ∃ v, s[i]? = some (some v) ∧ At F (.is r a :: T) (v :: t) G s H := by
  obtain ⟨A1, A2, h⟩ := h
  obtain ⟨x, B, P1, P2, e1, ⟨v, e2, hr⟩, _⟩ := h.loc.at_ e
  subst e2
  have eB := c hr
  subst eB
  exact ⟨v, e1, A1, A2, .cons (B := []) ⟨v, rfl, hr⟩ h.tmp, h.loc, h.good⟩
/-- a slot's thing taken out of it -/
theorem At.move (h : At F T t G s H) {i : Nat} {U : Type} {r : Rp U} {a : U} (e : G[i]? = some (.is r a)) : ∃ v, s[i]? = some (some v) ∧ At F (.is r a :: T) (v :: t) (G.set i .un) s H := by
  obtain ⟨A1, A2, h⟩ := h
  obtain ⟨x, B, P1, P2, e1, ⟨v, e2, hr⟩, eA, back⟩ := h.loc.at_ e
  subst e2 eA
  have hM : ∀ p, p ∈ (B ++ A1) ++ (P1 ++ ([] ++ P2)) ++ F.M0 → p ∈ A1 ++ (P1 ++ (B ++ P2)) ++ F.M0 ∨ H p = none := fun p hp => .inl (by simp only [List.mem_append, List.nil_append] at *; grind)
  have nd := h.good.nd
  refine ⟨v, e1, B ++ A1, P1 ++ ([] ++ P2), .cons ⟨v, rfl, r.grow hr hM⟩ (h.tmp.grow hM), ?_, h.good.sub ?_ fun p hp => by simp only [List.mem_append, List.nil_append] at *; grind⟩
  · have z := back _ H .un (some v) [] (fun h _ => Slot.ok_grow h hM) rfl
    rwa [set_self e1] at z
  · simp only [List.nodup_append, List.mem_append, List.nil_append] at *
    grind
/-- a temp goes into slot i -/
theorem At.store (h : At F (g :: T) (v :: t) G s H) {g' : Slot} (i : Nat) (e : G[i]? = some g') : At F T t (G.set i g) (s.set i (some v)) H := by
  obtain ⟨A1, A2, h⟩ := h
  obtain ⟨B, A', eA, h1, h2⟩ := AtS.cons_inv h.tmp
  obtain ⟨x, B', P1, P2, e1, hr, eA2, back⟩ := h.loc.at_ e
  subst eA eA2
  have hM : ∀ p, p ∈ A' ++ (P1 ++ (B ++ P2)) ++ F.M0 → p ∈ (B ++ A') ++ (P1 ++ (B' ++ P2)) ++ F.M0 ∨ H p = none := fun p hp => .inl (by simp only [List.mem_append] at *; grind)
  have nd := h.good.nd
  refine ⟨A', P1 ++ (B ++ P2), h2.grow hM, back _ H g (some v) B (fun h _ => Slot.ok_grow h hM) (Slot.ok_grow h1 hM), h.good.sub ?_ fun p hp => by simp only [List.mem_append] at *; grind⟩
  simp only [List.nodup_append, List.mem_append] at *
  grind

/-- less is known -/
inductive Weak : List Slot → List Slot → Prop
  | nil : Weak [] []
  | un {g G G'} (h : Weak G G') : Weak (g :: G) (.un :: G')
  | eq {g G G'} (h : Weak G G') : Weak (g :: G) (g :: G')
theorem Weak.refl : ∀ G, Weak G G
  | [] => .nil
  | _ :: G => .eq (Weak.refl G)
theorem AtS.weak {M : List Addr} {G G' : List Slot} (w : Weak G G') : ∀ {s : List (Option V)} {A : List Addr}, AtS K M H G s A → ∃ A', AtS K M H G' s A' ∧ (∀ p, p ∈ A' → p ∈ A) ∧ (A.Nodup → A'.Nodup) := by
  induction w with
  | nil => intro s A h; exact ⟨A, h, fun _ z => z, id⟩
  | @un g G G' w ih =>
    intro s A h
    cases h with
    | @cons _ x B _ s A h t =>
      obtain ⟨A', h1, h2, h3⟩ := ih t
      refine ⟨[] ++ A', .cons (B := []) rfl h1, fun p hp => List.mem_append_right _ (h2 p hp), fun nd => h3 (List.nodup_append.mp nd).2.1⟩
  | @eq g G G' w ih =>
    intro s A h
    cases h with
    | @cons _ x B _ s A h t =>
      obtain ⟨A', h1, h2, h3⟩ := ih t
      refine ⟨B ++ A', .cons h h1, fun p hp => ?_, fun nd => ?_⟩
      · rcases List.mem_append.mp hp with hp | hp
        · exact List.mem_append_left _ hp
        · exact List.mem_append_right _ (h2 p hp)
      · obtain ⟨n1, n2, n3⟩ := List.nodup_append.mp nd
        exact List.nodup_append.mpr ⟨n1, h3 n2, fun a ha b hb => n3 a ha b (h2 b hb)⟩
theorem At.weak {G' : List Slot} (h : At F T t G s H) (w : Weak G G') : At F T t G' s H := by
  obtain ⟨A1, A2, h⟩ := h
  obtain ⟨A', h1, h2, h3⟩ := h.loc.weak w
  have nd := h.good.nd
  obtain ⟨n1, n2, n3⟩ := List.nodup_append.mp nd
  have hM : ∀ p, p ∈ A1 ++ A' ++ F.M0 → p ∈ A1 ++ A2 ++ F.M0 ∨ H p = none := fun p hp => .inl (by
    have := h2 p
    simp only [List.mem_append] at *
    grind)
  refine ⟨A1, A', h.tmp.grow hM, h1.grow hM, h.good.sub (List.nodup_append.mpr ⟨n1, h3 n2, fun a ha b hb => n3 a ha b (h2 b hb)⟩) fun p hp => ?_⟩
  have := h2 p
  simp only [List.mem_append] at *
  grind
theorem AtS.un : ∀ {M : List Addr} {s : List (Option V)}, AtS K M H (List.replicate s.length .un) s []
  | _, [] => .nil
  | _, _ :: s => .cons (B := []) rfl (AtS.un (s := s))
/-- of temps alone -/
theorem At.only (h : At F T t G s H) : At F T t (List.replicate s.length .un) s H := by
  obtain ⟨A1, A2, h⟩ := h
  have nd := h.good.nd
  have hM : ∀ p, p ∈ A1 ++ [] ++ F.M0 → p ∈ A1 ++ A2 ++ F.M0 ∨ H p = none := fun p hp => .inl (by simp only [List.mem_append] at *; grind)
  exact ⟨A1, [], h.tmp.grow hM, AtS.un, h.good.sub (by rw [List.append_nil]; exact (List.nodup_append.mp nd).1) fun p hp => by simp only [List.mem_append] at *; grind⟩
end
end Td

set_option Elab.async false
set_option linter.all false
set_option maxRecDepth 100000
set_option maxHeartbeats 4000000
namespace Td
open PySem PySem.Spec PyProof.Rows L2

/-- what an error holds -/
def rPay : Rp Pay where
  rel := fun K M H v a B => match a with
    | .non => v = .non ∧ B = []
    | .int i => rInt.rel K M H v i B
    | .pair a b => (rPair rInt rInt).rel K M H v (a, b) B
    | .lsI l => (rList rInt).rel K M H v l B
    | .lsP l => (rList (rPair rInt rInt)).rel K M H v l B
    | .str x => rStr.rel K M H v x B
  keep := by
    intro K M H H' v a B h k
    cases a with
    | non => exact h
    | int i => exact rInt.keep h k
    | pair a b => exact (rPair rInt rInt).keep h k
    | lsI l => exact (rList rInt).keep h k
    | lsP l => exact (rList (rPair rInt rInt)).keep h k
    | str x => exact rStr.keep h k
  grow := by
    intro K M M' H v a B h k
    cases a with
    | non => exact h
    | int i => exact rInt.grow h k
    | pair a b => exact (rPair rInt rInt).grow h k
    | lsI l => exact (rList rInt).grow h k
    | lsP l => exact (rList (rPair rInt rInt)).grow h k
    | str x => exact rStr.grow h k
  trk := by
    intro K M H v a B h
    cases a with
    | non => intro p hp; rw [h.2] at hp; cases hp
    | int i => exact rInt.trk h
    | pair a b => exact (rPair rInt rInt).trk h
    | lsI l => exact (rList rInt).trk h
    | lsP l => exact (rList (rPair rInt rInt)).trk h
    | str x => exact rStr.trk h

/-- an error's dict, with what it holds -/
def rXd : Rp Pay where
  rel := fun K M H v a B => ∃ d w C, v = .ref d ∧ H d = some (.xd [("value", w)]) ∧ rPay.rel K M H w a C ∧ B = d :: C
  keep := by
    rintro K M H H' v a B ⟨d, w, C, e, hd, h, eB⟩ k
    subst eB
    exact ⟨d, w, C, e, k d _ hd (.inr (.inl (List.mem_cons_self ..))), rPay.keep h (fun p o e h => k p o e (h.imp id (Or.imp (fun z => List.mem_cons_of_mem _ z) id))), rfl⟩
  grow := by
    rintro K M M' H v a B ⟨d, w, C, e, hd, h, eB⟩ k
    exact ⟨d, w, C, e, hd, rPay.grow h k, eB⟩
  trk := by
    rintro K M H v a B ⟨d, w, C, e, hd, h, eB⟩ x hx
    subst eB
    rcases List.mem_cons.mp hx with hx | hx
    · subst hx; exact ⟨_, hd, rfl⟩
    · exact rPay.trk h x hx

section
variable {K : PySem.W.Frag} {S : Type}
/-- an error may leave -/
def XP (F : FC K S) (σ : L2.St) (e : Exn) (s : S) : Prop := ∀ d H', At F [.is rXd e.pay] [.ref d] (F.io s) σ H' → F.W (.ref (He.ga K e.cls)) (some d) σ H'

/-! ### readings told by computations -/
def GE (F : FC K S) {U : Type} (te : TE) (G G' : S → List Slot) (r : Rp U) (m : SM S U) : Prop :=
  ∀ (T : List Slot) (t : List V) (σ : L2.St) (s : S) (H : Hp) (Q : VK), At F T t (G s) σ H →
    (m s).wp (fun a s' => ∀ v H', At F (.is r a :: T) (v :: t) (G' s') σ H' → Q v H') (XP F σ) → te σ H Q
def GT (F : FC K S) (te : TT) (G G' : S → List Slot) (m : SM S Bool) : Prop :=
  ∀ (T : List Slot) (t : List V) (σ : L2.St) (s : S) (H : Hp) (Q : Bool → Hp → Prop), At F T t (G s) σ H →
    (m s).wp (fun a s' => ∀ H', At F T t (G' s') σ H' → Q a H') (XP F σ) → te σ H Q
/-- an argument: a temp, or a name whose thing is read where it stands -/
inductive Arg : Type 1 where
  | t (g : Slot)
  | v (i : Nat)
  | u (w : V)
def tmps : List Arg → List Slot
  | [] => []
  | .t g :: L => g :: tmps L
  | .v _ :: L => tmps L
  | .u _ :: L => tmps L
inductive ArgV (σ : L2.St) : List Arg → List V → List V → Prop
  | nil : ArgV σ [] [] []
  | t {g L v ts vs} (h : ArgV σ L ts vs) : ArgV σ (.t g :: L) (v :: ts) (v :: vs)
  | v {i L v ts vs} (e : σ[i]? = some (some v)) (h : ArgV σ L ts vs) : ArgV σ (.v i :: L) ts (v :: vs)
  | u {L v ts vs} (h : ArgV σ L ts vs) : ArgV σ (.u v :: L) ts (v :: vs)
def GA (F : FC K S) {U : Type} (ta : TA) (G G' : S → List Slot) (L : U → List Arg) (m : SM S U) : Prop :=
  ∀ (T : List Slot) (t : List V) (σ : L2.St) (s : S) (H : Hp) (Q : List V → Hp → Prop), At F T t (G s) σ H →
    (m s).wp (fun a s' => ∀ ts vs H', At F ((tmps (L a)).reverse ++ T) (ts.reverse ++ t) (G' s') σ H' → ArgV σ (L a) ts vs → Q vs H') (XP F σ) → ta σ H Q

section
variable {F : FC K S} {G G1 G2 G' : S → List Slot}
theorem ga_nil : GA F tNil G G (fun _ : Unit => []) (ret ()) := fun T t σ s H Q h q => q [] [] H (by simpa [tmps] using h) .nil
theorem ga_cons {U W : Type} {r : Rp U} {te : TE} {tr : TA} {m1 : SM S U} {m2 : SM S W} {L : W → List Arg} (h1 : GE F te G G1 r m1) (h2 : GA F tr G1 G2 L m2) :
    GA F (tCons te tr) G G2 (fun p : U × W => .t (.is r p.1) :: L p.2) (bnd m1 fun a => bnd m2 fun b => ret (a, b)) := by
  intro T t σ s H Q h q
  refine h1 T t σ s H _ h (wp_mono (wp_bnd q) (fun a s1 q1 v H1 at1 => ?_) fun _ _ z => z)
  refine h2 (.is r a :: T) (v :: t) σ s1 H1 _ at1 (wp_mono (wp_bnd q1) (fun b s2 q2 ts vs H2 at2 av => ?_) fun _ _ z => z)
  exact q2 (v :: ts) (v :: vs) H2 (by simpa [tmps] using at2) (.t av)
theorem ga_var {W : Type} {i : Nat} {tr : TA} {m2 : SM S W} {L : W → List Arg} {U : S → Type} {r : ∀ s, Rp (U s)} {a : ∀ s, U s} (e : ∀ s, (G s)[i]? = some (.is (r s) (a s))) (h2 : GA F tr G G2 L m2) :
    GA F (tCons (tVar i) tr) G G2 (fun p : W => .v i :: L p) m2 := by
  intro T t σ s H Q h q
  obtain ⟨v, M, B, ev, _⟩ := h.slot (e s)
  refine ⟨v, ev, ?_⟩
  refine h2 T t σ s H _ h (wp_mono q (fun b s2 q2 ts vs H2 at2 av => ?_) fun _ _ z => z)
  exact q2 ts (v :: vs) H2 at2 (.v ev av)
/-- a pair at hand: its two values are known -/
def rBox {T U : Type} (v1 v2 : V) (r : Rp T) (q : Rp U) : Rp (T × U) where
  rel := fun K M H v a B => ∃ p B1 B2, v = .ref p ∧ SqT K H p [v1, v2] ∧ r.rel K M H v1 a.1 B1 ∧ q.rel K M H v2 a.2 B2 ∧ B = B1 ++ B2
  keep := by
    rintro K M H H' v a B ⟨p, B1, B2, e, hT, h1, h2, eB⟩ k
    subst eB
    exact ⟨p, B1, B2, e, sqT_keep hT k, r.keep h1 (fun p o e h => k p o e (h.imp id (Or.imp (fun z => List.mem_append_left _ z) id))), q.keep h2 (fun p o e h => k p o e (h.imp id (Or.imp (fun z => List.mem_append_right _ z) id))), rfl⟩
  grow := by
    rintro K M M' H v a B ⟨p, B1, B2, e, hT, h1, h2, eB⟩ k
    exact ⟨p, B1, B2, e, hT, r.grow h1 k, q.grow h2 k, eB⟩
  trk := by
    rintro K M H v a B ⟨p, B1, B2, e, hT, h1, h2, eB⟩ x hx
    subst eB
    rcases List.mem_append.mp hx with hx | hx
    · exact r.trk h1 x hx
    · exact q.trk h2 x hx
/-- how an argument may be read -/
inductive Rdd {U : Type} (G : List Slot) : Arg → Rp U → U → Prop
  | t {r a} : Rdd G (.t (.is r a)) r a
  | ts {r a} : Rdd G (.t (.is (sh r) a)) r a
  | v {i r a} (e : G[i]? = some (.is r a)) : Rdd G (.v i) r a
  | vs {i r a} (e : G[i]? = some (.is (sh r) a)) : Rdd G (.v i) r a
  | pn {i v r a} (e : G[i]? = some (.pn v r a)) : Rdd G (.v i) r a
  | b1 {i : Nat} {v1 v2 : V} {r : Rp U} {a : U} {W : Type} {q : Rp W} {b : W} (e : G[i]? = some (Slot.is (rBox v1 v2 r q) (a, b))) : Rdd G (.u v1) r a
  | b2 {i : Nat} {v1 v2 : V} {r : Rp U} {a : U} {W : Type} {q : Rp W} {b : W} (e : G[i]? = some (Slot.is (rBox v1 v2 q r) (b, a))) : Rdd G (.u v2) r a
theorem AtS.mem {M : List Addr} {H : Hp} {G : List Slot} {s : List (Option V)} {A : List Addr} (h : AtS K M H G s A) {i : Nat} {g : Slot} (e : G[i]? = some g) : ∃ x B, s[i]? = some x ∧ g.ok K M H x B ∧ ∀ p, p ∈ B → p ∈ A := by
  obtain ⟨x, B, P1, P2, e1, h1, eA, _⟩ := h.at_ e
  exact ⟨x, B, e1, h1, fun p hp => by rw [eA]; exact List.mem_append_right _ (List.mem_append_left _ hp)⟩
theorem rel_nil {U : Type} {r : Rp U} {M : List Addr} {H : Hp} {v : V} {a : U} {B : List Addr} (h : r.rel K M H v a B) : r.rel K [] H v a B := r.grow h fun p hp => by cases hp
theorem slot_is {U : Type} {r : Rp U} {M : List Addr} {H : Hp} {x : Option V} {a : U} {B : List Addr} (h : Slot.ok K M H (.is r a) x B) : ∃ v, x = some v ∧ r.rel K M H v a B := h
/-- the place of an argument's temp -/
theorem argV_tmp {σ : L2.St} : ∀ {L : List Arg} {ts vs : List V} {j : Nat} {g : Slot}, ArgV σ L ts vs → L[j]? = some (.t g) → ∃ (k : Nat) (v : V), (tmps L)[k]? = some g ∧ ts[k]? = some v ∧ vs[j]? = some v
  | _, _, _, j, g, .nil, e => by simp at e
  | _, _, _, 0, g, .t h, e => by
    have e' := Option.some.inj e
    cases e'
    exact ⟨0, _, rfl, rfl, rfl⟩
  | _, _, _, j + 1, g, .t h, e => by
    obtain ⟨k, v, h1, h2, h3⟩ := argV_tmp (j := j) h (by simpa using e)
    exact ⟨k + 1, v, by simpa [tmps] using h1, by simpa using h2, by simpa using h3⟩
  | _, _, _, 0, g, .v _ h, e => by
    have e' := Option.some.inj e
    cases e'
  | _, _, _, j + 1, g, .v _ h, e => by
    obtain ⟨k, v, h1, h2, h3⟩ := argV_tmp (j := j) h (by simpa using e)
    exact ⟨k, v, by simpa [tmps] using h1, h2, by simpa using h3⟩
  | _, _, _, 0, g, .u h, e => by
    have e' := Option.some.inj e
    cases e'
  | _, _, _, j + 1, g, .u h, e => by
    obtain ⟨k, v, h1, h2, h3⟩ := argV_tmp (j := j) h (by simpa using e)
    exact ⟨k, v, by simpa [tmps] using h1, h2, by simpa using h3⟩
theorem argV_u {σ : L2.St} : ∀ {L : List Arg} {ts vs : List V} {j : Nat} {w : V}, ArgV σ L ts vs → L[j]? = some (.u w) → vs[j]? = some w
  | _, _, _, j, w, .nil, e => by simp at e
  | _, _, _, 0, w, .t h, e => by
    have e' := Option.some.inj e
    cases e'
  | _, _, _, 0, w, .v _ h, e => by
    have e' := Option.some.inj e
    cases e'
  | _, _, _, 0, w, .u h, e => by
    have e' := Option.some.inj e
    cases e'
    rfl
  | _, _, _, j + 1, w, .t h, e => by simpa using argV_u (j := j) h (by simpa using e)
  | _, _, _, j + 1, w, .v _ h, e => by simpa using argV_u (j := j) h (by simpa using e)
  | _, _, _, j + 1, w, .u h, e => by simpa using argV_u (j := j) h (by simpa using e)
theorem argV_len {σ : L2.St} : ∀ {L : List Arg} {ts vs : List V}, ArgV σ L ts vs → vs.length = L.length ∧ ts.length = (tmps L).length
  | _, _, _, .nil => ⟨rfl, rfl⟩
  | _, _, _, .t h => by have := argV_len h; simp [tmps, this.1, this.2]
  | _, _, _, .v _ h => by have := argV_len h; simp [tmps, this.1, this.2]
  | _, _, _, .u h => by have := argV_len h; simp [tmps, this.1, this.2]
theorem argV_var {σ : L2.St} : ∀ {L : List Arg} {ts vs : List V} {j i : Nat}, ArgV σ L ts vs → L[j]? = some (.v i) → ∃ v, vs[j]? = some v ∧ σ[i]? = some (some v)
  | _, _, _, j, i, .nil, e => by simp at e
  | _, _, _, 0, i, .t h, e => by
    have e' := Option.some.inj e
    cases e'
  | _, _, _, j + 1, i, .t h, e => by
    obtain ⟨v, h1, h2⟩ := argV_var (j := j) h (by simpa using e)
    exact ⟨v, by simpa using h1, h2⟩
  | _, _, _, 0, i, .v ev h, e => by
    have e' := Option.some.inj e
    cases e'
    exact ⟨_, rfl, ev⟩
  | _, _, _, j + 1, i, .v _ h, e => by
    obtain ⟨v, h1, h2⟩ := argV_var (j := j) h (by simpa using e)
    exact ⟨v, by simpa using h1, h2⟩
  | _, _, _, 0, i, .u h, e => by
    have e' := Option.some.inj e
    cases e'
  | _, _, _, j + 1, i, .u h, e => by
    obtain ⟨v, h1, h2⟩ := argV_var (j := j) h (by simpa using e)
    exact ⟨v, by simpa using h1, h2⟩
theorem rev_get {T : Type _} {l : List T} {k : Nat} {x : T} (h : l[k]? = some x) (m : List T) : (l.reverse ++ m)[l.length - 1 - k]? = some x := by
  have hk := (List.getElem?_eq_some_iff.mp h).1
  rw [List.getElem?_append_left (by simp; omega), List.getElem?_reverse (by omega)]
  rw [show l.length - 1 - (l.length - 1 - k) = k by omega]
  exact h
theorem rdd {σ : L2.St} {T : List Slot} {t ts vs : List V} {L : List Arg} {Gs : List Slot} {H : Hp} {j : Nat} {arg : Arg} {U : Type} {r : Rp U} {a : U} (h : At F ((tmps L).reverse ++ T) (ts.reverse ++ t) Gs σ H) (av : ArgV σ L ts vs) (e : L[j]? = some arg) (rd : Rdd Gs arg r a) :
    ∃ v B, vs[j]? = some v ∧ r.rel K [] H v a B := by
  obtain ⟨A1, A2, h⟩ := h
  have tmp : ∀ {g : Slot}, L[j]? = some (.t g) → ∃ v M B, vs[j]? = some v ∧ g.ok K M H (some v) B := by
    intro g e
    obtain ⟨k, v, h1, h2, h3⟩ := argV_tmp av e
    obtain ⟨x, B, e1, h4, _⟩ := h.tmp.mem (rev_get h1 T)
    rw [← (argV_len av).2, List.map_append, List.map_reverse] at e1
    have h2' : (ts.map some)[k]? = some (some v) := by rw [List.getElem?_map, h2]; rfl
    have z := rev_get h2' (t.map some)
    rw [List.length_map, e1] at z
    cases z
    exact ⟨v, _, B, h3, h4⟩
  have loc : ∀ {i : Nat} {g : Slot}, L[j]? = some (.v i) → Gs[i]? = some g → ∃ v M B, vs[j]? = some v ∧ g.ok K M H (some v) B := by
    intro i g e eg
    obtain ⟨v, h1, h2⟩ := argV_var av e
    obtain ⟨x, B, e1, h4, _⟩ := h.loc.mem eg
    rw [h2] at e1
    cases e1
    exact ⟨v, _, B, h1, h4⟩
  cases rd with
  | t =>
    obtain ⟨v, M, B, h1, v', e', h2⟩ := tmp e
    cases e'
    exact ⟨v, B, h1, rel_nil h2⟩
  | ts =>
    obtain ⟨v, M, B, h1, v', e', h2⟩ := tmp e
    cases e'
    obtain ⟨_, A, h3, _⟩ := h2
    exact ⟨v, A, h1, rel_nil h3⟩
  | v eg =>
    obtain ⟨v, M, B, h1, v', e', h2⟩ := loc e eg
    cases e'
    exact ⟨v, B, h1, rel_nil h2⟩
  | vs eg =>
    obtain ⟨v, M, B, h1, v', e', h2⟩ := loc e eg
    cases e'
    obtain ⟨_, A, h3, _⟩ := h2
    exact ⟨v, A, h1, rel_nil h3⟩
  | pn eg =>
    obtain ⟨v, M, B, h1, e', h2⟩ := loc e eg
    cases e'
    exact ⟨_, B, h1, rel_nil h2⟩
  | b1 eg =>
    obtain ⟨x, B, e1, h4, _⟩ := h.loc.mem eg
    obtain ⟨v, _, p, B1, B2, _, _, h5, _⟩ := h4
    exact ⟨_, B1, argV_u av e, rel_nil h5⟩
  | b2 eg =>
    obtain ⟨x, B, e1, h4, _⟩ := h.loc.mem eg
    obtain ⟨v, _, p, B1, B2, _, _, _, h5, _⟩ := h4
    exact ⟨_, B2, argV_u av e, rel_nil h5⟩
/-- temps forgotten -/
theorem At.drop {T : List Slot} {t : List V} {Gs : List Slot} {σ : L2.St} {H : Hp} : ∀ {T1 : List Slot} {t1 : List V}, t1.length = T1.length → At F (T1 ++ T) (t1 ++ t) Gs σ H → At F T t Gs σ H
  | [], [], _, h => h
  | _ :: T1, _ :: t1, e, h => At.drop (T1 := T1) (t1 := t1) (by simpa using e) (At.pop h)
theorem At.drops {T : List Slot} {t ts vs : List V} {L : List Arg} {Gs : List Slot} {σ : L2.St} {H : Hp} (h : At F ((tmps L).reverse ++ T) (ts.reverse ++ t) Gs σ H) (av : ArgV σ L ts vs) : At F T t Gs σ H :=
  At.drop (by simp [(argV_len av).2]) h
end
end
end Td

set_option Elab.async false
set_option linter.all false
set_option maxRecDepth 100000
set_option maxHeartbeats 4000000
namespace Td
open PySem PySem.Spec PyProof.Rows L2

section
variable {K : PySem.W.Frag} {S : Type} {F : FC K S} {T : List Slot} {t : List V} {G : List Slot} {σ : L2.St} {H : Hp}
/-- a new tuple of two temps -/
theorem At.tup2 {U W : Type} {r : Rp U} {q : Rp W} {a : U} {b : W} {v w : V} (h : At F (.is q b :: .is r a :: T) (w :: v :: t) G σ H) {p : Addr} (hp : H p = none) : At F (.is (rPair r q) (a, b) :: T) (.ref p :: t) G σ (upd H p (.tup [v, w])) := by
  obtain ⟨A1, A2, h⟩ := h
  have k : ∀ x o, H x = some o → upd H p (.tup [v, w]) x = some o := fun x o e => by rw [upd_ne (ne_of_none e hp)]; exact e
  have nd := h.good.nd
  have hg := h.good
  obtain ⟨B2, A', eA, ⟨w', ew, h2⟩, ht⟩ := AtS.cons_inv h.tmp
  obtain ⟨B1, A'', eA', ⟨v', ev, h1⟩, ht⟩ := AtS.cons_inv ht
  cases ew; cases ev
  subst eA; subst eA'
  have hM : ∀ x, x ∈ (B1 ++ B2) ++ A'' ++ A2 ++ F.M0 → x ∈ B2 ++ (B1 ++ A'') ++ A2 ++ F.M0 ∨ H x = none := fun x hx => .inl (by simp only [List.mem_append] at *; grind)
  refine ⟨(B1 ++ B2) ++ A'', A2, .cons ⟨_, rfl, p, v, w, B1, B2, rfl, SqT.of upd_same, r.keep (r.grow h1 hM) (fun x o e _ => k x o e), q.keep (q.grow h2 hM) (fun x o e _ => k x o e), rfl⟩ ((ht.grow hM).keep fun x o e _ => k x o e), (h.loc.grow hM).keep fun x o e _ => k x o e, ?_⟩
  have hg' := hg.sub (A' := (B1 ++ B2) ++ A'' ++ A2) (by simp only [List.nodup_append, List.mem_append] at *; grind) (fun x hx => by simp only [List.mem_append] at *; grind)
  exact ⟨hg'.nd, hg'.out, hg'.new, fun x hx => let ⟨o, e, z⟩ := hg'.has x hx; ⟨o, k x o e, z⟩, fun x o e z => k x o (hg'.stay x o e z), hg'.m0⟩
theorem At.tup3 {U W Z : Type} {r : Rp U} {q : Rp W} {l : Rp Z} {a : U} {b : W} {c : Z} {v w u : V} (h : At F (.is l c :: .is q b :: .is r a :: T) (u :: w :: v :: t) G σ H) {p : Addr} (hp : H p = none) : At F (.is (rTup3 r q l) (a, b, c) :: T) (.ref p :: t) G σ (upd H p (.tup [v, w, u])) := by
  obtain ⟨A1, A2, h⟩ := h
  have k : ∀ x o, H x = some o → upd H p (.tup [v, w, u]) x = some o := fun x o e => by rw [upd_ne (ne_of_none e hp)]; exact e
  have nd := h.good.nd
  have hg := h.good
  obtain ⟨B3, A', eA, ⟨u', eu, h3⟩, ht⟩ := AtS.cons_inv h.tmp
  obtain ⟨B2, A3, eA3, ⟨w', ew, h2⟩, ht⟩ := AtS.cons_inv ht
  obtain ⟨B1, A'', eA', ⟨v', ev, h1⟩, ht⟩ := AtS.cons_inv ht
  cases eu; cases ew; cases ev
  subst eA; subst eA3; subst eA'
  have hM : ∀ x, x ∈ (B1 ++ (B2 ++ B3)) ++ A'' ++ A2 ++ F.M0 → x ∈ B3 ++ (B2 ++ (B1 ++ A'')) ++ A2 ++ F.M0 ∨ H x = none := fun x hx => .inl (by simp only [List.mem_append] at *; grind)
  refine ⟨(B1 ++ (B2 ++ B3)) ++ A'', A2, .cons ⟨_, rfl, p, v, w, u, B1, B2, B3, rfl, SqT.of upd_same, r.keep (r.grow h1 hM) (fun x o e _ => k x o e), q.keep (q.grow h2 hM) (fun x o e _ => k x o e), l.keep (l.grow h3 hM) (fun x o e _ => k x o e), rfl⟩ ((ht.grow hM).keep fun x o e _ => k x o e), (h.loc.grow hM).keep fun x o e _ => k x o e, ?_⟩
  have hg' := hg.sub (A' := (B1 ++ (B2 ++ B3)) ++ A'' ++ A2) (by simp only [List.nodup_append, List.mem_append] at *; grind) (fun x hx => by simp only [List.mem_append] at *; grind)
  exact ⟨hg'.nd, hg'.out, hg'.new, fun x hx => let ⟨o, e, z⟩ := hg'.has x hx; ⟨o, k x o e, z⟩, fun x o e z => k x o (hg'.stay x o e z), hg'.m0⟩
/-- temps of one kind: all pending items of a list -/
def pend {U : Type} (r : Rp U) (as : List U) : List Slot := (as.map (Slot.is r)).reverse
theorem pend_snoc {U : Type} (r : Rp U) (as : List U) (a : U) : pend r (as ++ [a]) = .is r a :: pend r as := by simp [pend]
theorem pend_len {U : Type} (r : Rp U) (as : List U) : (pend r as).length = as.length := by simp [pend]
theorem AtS.split {M : List Addr} : ∀ {G1 G2 : List Slot} {s1 s2 : List (Option V)} {A : List Addr}, s1.length = G1.length → AtS K M H (G1 ++ G2) (s1 ++ s2) A → ∃ A1 A2, A = A1 ++ A2 ∧ AtS K M H G1 s1 A1 ∧ AtS K M H G2 s2 A2
  | [], _, [], _, A, _, h => ⟨[], A, rfl, .nil, h⟩
  | _ :: G1, G2, _ :: s1, s2, _, e, h => by
    obtain ⟨B, A', eA, h1, h2⟩ := AtS.cons_inv h
    obtain ⟨A1, A2, e2, h3, h4⟩ := AtS.split (G1 := G1) (s1 := s1) (by simpa using e) h2
    exact ⟨B ++ A1, A2, by rw [eA, e2, List.append_assoc], .cons h1 h3, h4⟩
theorem AtS.all {U : Type} {r : Rp U} {M : List Addr} : ∀ {n : Nat} {as : List U} {vs : List V} {A : List Addr}, as.length = n → vs.length = n → AtS K M H (pend r as) (vs.reverse.map some) A → ∃ A', All3 (r.rel K M H) vs as A' ∧ A'.Perm A := by
  intro n
  induction n with
  | zero =>
    intro as vs A e1 e2 h
    obtain rfl : as = [] := List.eq_nil_of_length_eq_zero e1
    obtain rfl : vs = [] := List.eq_nil_of_length_eq_zero e2
    cases h
    exact ⟨[], .nil, .nil⟩
  | succ n ih =>
    intro as vs A e1 e2 h
    obtain ⟨as', a, rfl⟩ : ∃ as' a, as = as' ++ [a] := ⟨_, _, (List.dropLast_concat_getLast (l := as) (by intro z; simp [z] at e1)).symm⟩
    obtain ⟨vs', v, rfl⟩ : ∃ vs' v, vs = vs' ++ [v] := ⟨_, _, (List.dropLast_concat_getLast (l := vs) (by intro z; simp [z] at e2)).symm⟩
    rw [pend_snoc] at h
    simp only [List.reverse_append, List.reverse_cons, List.reverse_nil, List.nil_append, List.singleton_append, List.map_cons] at h
    obtain ⟨B, A', eA, ⟨v', ev, h1⟩, h2⟩ := AtS.cons_inv h
    cases ev
    obtain ⟨A2, h3, pm⟩ := ih (by simpa using e1) (by simpa using e2) h2
    refine ⟨A2 ++ (B ++ []), h3.append (.cons h1 .nil), ?_⟩
    rw [eA, List.append_nil]
    exact List.perm_append_comm.trans (pm.append_left B)
/-- a new list of pending items -/
theorem At.lst {U : Type} {r : Rp U} {as : List U} {vs : List V} (h : At F (pend r as ++ T) (vs.reverse ++ t) G σ H) (hl : vs.length = as.length) {p : Addr} (hp : H p = none) : At F (.is (rList r) as :: T) (.ref p :: t) G σ (upd H p (.lst vs)) := by
  obtain ⟨A1, A2, h⟩ := h
  have k : ∀ x o, H x = some o → upd H p (.lst vs) x = some o := fun x o e => by rw [upd_ne (ne_of_none e hp)]; exact e
  have nd := h.good.nd
  have hg := h.good
  have ht := h.tmp
  rw [List.map_append] at ht
  obtain ⟨B, A', eA, h1, ht⟩ := AtS.split (by rw [List.length_map, List.length_reverse, pend_len, hl]) ht
  obtain ⟨B', h2, pm⟩ := AtS.all (n := as.length) rfl hl h1
  subst eA
  obtain ⟨f0, f1, f2⟩ := hg.fresh hp
  have mB : ∀ x, x ∈ B' ↔ x ∈ B := fun x => pm.mem_iff
  have npA : p ∉ B ++ A' ++ A2 := fun z => by
    have tt : ∃ o, H p = some o := by
      rcases List.mem_append.mp z with z | z
      · obtain ⟨o, e, _⟩ := h.tmp.trk p z; exact ⟨o, e⟩
      · obtain ⟨o, e, _⟩ := h.loc.trk p z; exact ⟨o, e⟩
    obtain ⟨o, e⟩ := tt
    rw [hp] at e; cases e
  have hM : ∀ x, x ∈ (p :: B') ++ A' ++ A2 ++ F.M0 → x ∈ B ++ A' ++ A2 ++ F.M0 ∨ H x = none := fun x hx => by
    by_cases e : x = p
    · right; rw [e]; exact hp
    · left
      have := mB x
      simp only [List.cons_append, List.mem_cons, List.mem_append] at *
      grind
  refine ⟨(p :: B') ++ A', A2, .cons ⟨_, rfl, p, vs, B', rfl, upd_same, h2.imp fun v a B _ hr => r.keep (r.grow hr hM) (fun x o e _ => k x o e), rfl⟩ ((ht.grow hM).keep fun x o e _ => k x o e), (h.loc.grow hM).keep fun x o e _ => k x o e, ?_⟩
  have ndB : B'.Nodup := by
    rw [List.append_assoc] at nd
    exact (pm.nodup_iff).mpr (List.nodup_append.mp nd).1
  refine ⟨?_, fun x hx => ?_, fun x hx => ?_, fun x hx => let ⟨o, e, z⟩ := hg.has x hx; ⟨o, k x o e, z⟩, fun x o e z => k x o (hg.stay x o e z), hg.m0⟩
  · have := fun x => mB x
    simp only [List.cons_append, List.nodup_append, List.nodup_cons, List.mem_append] at *
    grind
  · have := mB x
    have := hg.out x
    simp only [List.cons_append, List.mem_cons, List.mem_append] at *
    grind
  · have := mB x
    have := hg.new x
    simp only [List.cons_append, List.mem_cons, List.mem_append] at *
    grind
/-- parts of a pair -/
theorem At.unpair {U W : Type} {r : Rp U} {q : Rp W} {a : U × W} {v : V} (h : At F (.is (rPair r q) a :: T) (v :: t) G σ H) : ∃ p x y, v = .ref p ∧ SqT K H p [x, y] ∧ At F (.is r a.1 :: .is q a.2 :: T) (x :: y :: t) G σ H := by
  obtain ⟨A1, A2, h⟩ := h
  have nd := h.good.nd
  obtain ⟨B, A', eA, ⟨v', ev, p, x, y, B1, B2, e, hT, h1, h2, eB⟩, ht⟩ := AtS.cons_inv h.tmp
  cases ev
  subst eA eB
  refine ⟨p, x, y, e, hT, (B1 ++ (B2 ++ A')), A2, ?_, ?_, ?_⟩
  · rw [show B1 ++ (B2 ++ A') ++ A2 ++ F.M0 = B1 ++ B2 ++ A' ++ A2 ++ F.M0 by simp]
    exact .cons ⟨x, rfl, h1⟩ (.cons ⟨y, rfl, h2⟩ ht)
  · rw [show B1 ++ (B2 ++ A') ++ A2 ++ F.M0 = B1 ++ B2 ++ A' ++ A2 ++ F.M0 by simp]
    exact h.loc
  · rw [show B1 ++ (B2 ++ A') ++ A2 = B1 ++ B2 ++ A' ++ A2 by simp]
    exact h.good
theorem At.unpairS {U W : Type} {r : Rp U} {q : Rp W} {a : U × W} {v : V} (h : At F (.is (sh (rPair r q)) a :: T) (v :: t) G σ H) : ∃ p x y, v = .ref p ∧ SqT K H p [x, y] ∧ At F (.is (sh r) a.1 :: .is (sh q) a.2 :: T) (x :: y :: t) G σ H := by
  obtain ⟨A1, A2, h⟩ := h
  obtain ⟨B, A', eA, ⟨v', ev, eB, C, ⟨p, x, y, B1, B2, e, hT, h1, h2, eC⟩, hC⟩, ht⟩ := AtS.cons_inv h.tmp
  cases ev
  subst eA eB eC
  exact ⟨p, x, y, e, hT, A', A2, .cons (B := []) ⟨x, rfl, rfl, B1, h1, fun z hz => hC z (List.mem_append_left _ hz)⟩ (.cons (B := []) ⟨y, rfl, rfl, B2, h2, fun z hz => hC z (List.mem_append_right _ hz)⟩ ht), h.loc, h.good⟩
/-- what is owned is let go -/
theorem At.freeze {U : Type} {r : Rp U} {a : U} {v : V} (h : At F (.is r a :: T) (v :: t) G σ H) : At F (.is (sh r) a :: T) (v :: t) G σ H := by
  obtain ⟨A1, A2, h⟩ := h
  have nd := h.good.nd
  obtain ⟨B, A', eA, ⟨v', ev, hr⟩, ht⟩ := AtS.cons_inv h.tmp
  cases ev
  subst eA
  have hM : ∀ x, x ∈ [] ++ A' ++ A2 ++ F.M0 → x ∈ B ++ A' ++ A2 ++ F.M0 ∨ H x = none := fun x hx => .inl (by simp only [List.mem_append] at *; grind)
  refine ⟨[] ++ A', A2, .cons ⟨v, rfl, Rp.to_sh hr fun x hx => ?_⟩ (ht.grow hM), h.loc.grow hM, h.good.sub (by simp only [List.nodup_append, List.nil_append, List.mem_append] at *; grind) fun x hx => by simp only [List.mem_append] at *; grind⟩
  have := h.good.out x
  simp only [List.nodup_append, List.nil_append, List.mem_append] at *
  grind
theorem At.unsh {U : Type} {r : Rp U} (c : r.Cp) {a : U} {v : V} (h : At F (.is (sh r) a :: T) (v :: t) G σ H) : At F (.is r a :: T) (v :: t) G σ H := by
  obtain ⟨A1, A2, h⟩ := h
  obtain ⟨B, A', eA, ⟨v', ev, eB, C, hr, hC⟩, ht⟩ := AtS.cons_inv h.tmp
  cases ev
  have eC := c hr
  subst eA eB eC
  exact ⟨[] ++ A', A2, .cons ⟨v, rfl, hr⟩ ht, h.loc, h.good⟩
end

theorem star1 {e : Expr} {es : List Expr} {env : Env} (h : PySem.W.isStarred e = false) : starEach (e :: es) env = (false, eval e env) :: starEach es env := by
  cases e <;> first | rfl | cases h
end Td

set_option Elab.async false
set_option linter.all false
set_option maxRecDepth 100000
set_option maxHeartbeats 4000000
namespace Td
open PySem PySem.Spec PyProof.Rows L2

structure EX (X : Cx) {S : Type} (F : FC X.K S) {U : Type} (e : Expr) (te : TE) (G G' : S → List Slot) (r : Rp U) (m : SM S U) : Prop where
  pe : PE X e te
  go : GE F te G G' r m
structure ET (X : Cx) {S : Type} (F : FC X.K S) (e : Expr) (te : TT) (G G' : S → List Slot) (m : SM S Bool) : Prop where
  pt : PT X e te
  go : GT F te G G' m
structure EW (X : Cx) {S : Type} (F : FC X.K S) (e : Expr) (te : TT) (G G' : S → List Slot) (m : SM S Bool) : Prop where
  pw : PW X e te
  go : GT F te G G' m
structure EA (X : Cx) {S : Type} (F : FC X.K S) {U : Type} (es : List Expr) (ta : TA) (G G' : S → List Slot) (L : U → List Arg) (m : SM S U) : Prop where
  pa : PA X es ta
  go : GA F ta G G' L m

/-! ### rules by values: the heap stays -/
def VO1 (K : PySem.W.Frag) (S : Type) {U W : Type} (r1 : Rp U) (r3 : Rp W) (rr : V → Hp → VK → Prop) (f : U → SM S W) : Prop :=
  ∀ (a : U) (v : V) (M B : List Addr) (H : Hp) (Q : VK) (s : S), r1.rel K M H v a B → (f a s).wp (fun c s' => s' = s → ∀ u, (∀ M, r3.rel K M H u c []) → Q u H) (fun _ _ => False) → rr v H Q
def VO2 (K : PySem.W.Frag) (S : Type) {U W Z : Type} (r1 : Rp U) (r2 : Rp W) (r3 : Rp Z) (rr : R2) (f : U → W → SM S Z) : Prop :=
  ∀ (a : U) (b : W) (v w : V) (M B M' B' : List Addr) (H : Hp) (Q : VK) (s : S), r1.rel K M H v a B → r2.rel K M' H w b B' →
    (f a b s).wp (fun c s' => s' = s → ∀ u, (∀ M, r3.rel K M H u c []) → Q u H) (fun _ _ => False) → rr v w H Q
/-- a computation that leaves the state and raises nothing -/
def Stl {S T : Type} (m : SM S T) : Prop := ∀ s, match m s with
  | .ok _ s' => s' = s
  | .exc _ _ => False
  | .stuck => True
theorem stl_ret {S T : Type} (a : T) : Stl (ret a : SM S T) := fun _ => rfl
theorem stl_stk {S T : Type} : Stl (stk : SM S T) := fun _ => trivial
theorem stl_grd {S : Type} {c : Prop} [Decidable c] : Stl (grd c : SM S Unit) := fun s => by
  unfold grd
  by_cases h : c
  · rw [if_pos h]
  · rw [if_neg h]; trivial
theorem stl_bnd {S T U : Type} {m : SM S T} {k : T → SM S U} (h : Stl m) (h' : ∀ a, Stl (k a)) : Stl (bnd m k) := fun s => by
  unfold bnd
  have z := h s
  cases hm : m s with
  | ok a s' =>
    rw [hm] at z
    cases z
    exact h' a s
  | exc e s' => rw [hm] at z; exact z.elim
  | stuck => trivial
theorem Stl.wp {S T : Type} {m : SM S T} (h : Stl m) {s : S} {P : T → S → Prop} {E : Exn → S → Prop} {E' : Exn → S → Prop} (q : (m s).wp P E) : (m s).wp (fun a s' => s' = s ∧ P a s) E' := by
  have z := h s
  cases hm : m s with
  | ok a s' =>
    rw [hm] at z q
    cases z
    exact ⟨rfl, q⟩
  | exc e s' => rw [hm] at z; exact z.elim
  | stuck => rw [hm] at q; exact q
theorem vo_I0 {K : PySem.W.Frag} {S : Type} (g : Int → Int → Int) : VO2 K S rInt rInt rInt (rI0 fun i j => .int (g i j)) (fun i j => ret (g i j)) :=
  fun a b v w _ _ _ _ H Q s h1 h2 q => ⟨a, b, h1.1, h2.1, q rfl _ fun _ => ⟨rfl, rfl⟩⟩
theorem vo_B0 {K : PySem.W.Frag} {S : Type} (g : Int → Int → Bool) : VO2 K S rInt rInt rBool (rI0 fun i j => .bl (g i j)) (fun i j => ret (g i j)) :=
  fun a b v w _ _ _ _ H Q s h1 h2 q => ⟨a, b, h1.1, h2.1, q rfl _ fun _ => ⟨rfl, rfl⟩⟩
def grdI {S : Type} (C : Int → Int → Prop) [∀ i j, Decidable (C i j)] (g : Int → Int → Int) (i j : Int) : SM S Int := bnd (grd (C i j)) fun _ => ret (g i j)
theorem vo_I {K : PySem.W.Frag} {S : Type} (C : Int → Int → Prop) [∀ i j, Decidable (C i j)] (g : Int → Int → Int) : VO2 K S rInt rInt rInt (rI C fun i j => .int (g i j)) (grdI C g) :=
  fun a b v w _ _ _ _ H Q s h1 h2 q => by
    obtain ⟨hc, q⟩ := wp_grd (wp_bnd q)
    exact ⟨a, b, h1.1, h2.1, hc, q rfl _ fun _ => ⟨rfl, rfl⟩⟩
/-- == of plain values -/
theorem vo_eq {K : PySem.W.Frag} {S T : Type} [DecidableEq T] {f : T → V} (hf : ∀ a b, f a = f b → a = b) (hs : ∀ a b, scal (f a) (f b) = true) : VO2 K S (rPl f) (rPl f) rBool rEq (fun a b => ret (decide (a = b))) :=
  fun a b v w _ _ _ _ H Q s h1 h2 q => by
    obtain ⟨e1, _⟩ := h1
    obtain ⟨e2, _⟩ := h2
    rw [e1, e2]
    refine ⟨hs a b, q rfl _ fun _ => ⟨?_, rfl⟩⟩
    by_cases e : a = b
    · rw [decide_eq_true e, decide_eq_true (congrArg f e)]
    · rw [decide_eq_false e, decide_eq_false (fun z => e (hf _ _ z))]
theorem vo_ne {K : PySem.W.Frag} {S T : Type} [DecidableEq T] {f : T → V} (hf : ∀ a b, f a = f b → a = b) (hs : ∀ a b, scal (f a) (f b) = true) : VO2 K S (rPl f) (rPl f) rBool rNe (fun a b => ret (!decide (a = b))) :=
  fun a b v w _ _ _ _ H Q s h1 h2 q => by
    obtain ⟨e1, _⟩ := h1
    obtain ⟨e2, _⟩ := h2
    rw [e1, e2]
    refine ⟨hs a b, q rfl _ fun _ => ⟨?_, rfl⟩⟩
    by_cases e : a = b
    · rw [decide_eq_true e, decide_eq_true (congrArg f e)]
    · rw [decide_eq_false e, decide_eq_false (fun z => e (hf _ _ z))]
theorem vo_eqI {K : PySem.W.Frag} {S : Type} : VO2 K S rInt rInt rBool rEq (fun a b => ret (decide (a = b))) := vo_eq (fun _ _ e => by injection e) fun _ _ => rfl
theorem vo_neI {K : PySem.W.Frag} {S : Type} : VO2 K S rInt rInt rBool rNe (fun a b => ret (!decide (a = b))) := vo_ne (fun _ _ e => by injection e) fun _ _ => rfl
theorem vo_eqS {K : PySem.W.Frag} {S : Type} : VO2 K S rStr rStr rBool rEq (fun a b => ret (decide (a = b))) := vo_eq (fun _ _ e => by injection e) fun _ _ => rfl
theorem vo_neS {K : PySem.W.Frag} {S : Type} : VO2 K S rStr rStr rBool rNe (fun a b => ret (!decide (a = b))) := vo_ne (fun _ _ e => by injection e) fun _ _ => rfl
theorem vo_eqB {K : PySem.W.Frag} {S : Type} : VO2 K S rBool rBool rBool rEq (fun a b => ret (decide (a = b))) := vo_eq (fun _ _ e => by injection e) fun _ _ => rfl
theorem vo_neB {K : PySem.W.Frag} {S : Type} : VO2 K S rBool rBool rBool rNe (fun a b => ret (!decide (a = b))) := vo_ne (fun _ _ e => by injection e) fun _ _ => rfl

section
variable {X : Cx} {S : Type} {F : FC X.K S} {U W Z : Type} {r r1 : Rp U} {r2 : Rp W} {r3 : Rp Z} {e a b : Expr} {te ta tb : TE} {G G1 G2 G' : S → List Slot} {m m1 : SM S U} {m2 : SM S W} {pos : Pos}
/-- the two temps used up, the answer a temp -/
theorem fin2 {T : List Slot} {t : List V} {Gs : List Slot} {σ : L2.St} {H : Hp} {g1 g2 : Slot} {v w : V} {c : Z} {u : V} (h : At F (g2 :: g1 :: T) (w :: v :: t) Gs σ H) (hr : ∀ M, r3.rel X.K M H u c []) : At F (.is r3 c :: T) (u :: t) Gs σ H := (h.pop.pop).push hr
theorem top_rel {T : List Slot} {t : List V} {Gs : List Slot} {σ : L2.St} {H : Hp} {x : U} {v : V} (h : At F (.is r x :: T) (v :: t) Gs σ H) : ∃ M B, r.rel X.K M H v x B := by
  obtain ⟨A1, A2, h⟩ := h
  obtain ⟨B, A', eA, ⟨v', ev, hr⟩, ht⟩ := AtS.cons_inv h.tmp
  cases ev
  exact ⟨_, B, hr⟩
theorem snd_rel {T : List Slot} {t : List V} {Gs : List Slot} {σ : L2.St} {H : Hp} {g : Slot} {x : U} {v w : V} (h : At F (g :: .is r x :: T) (w :: v :: t) Gs σ H) : ∃ M B, r.rel X.K M H v x B := top_rel h.pop
theorem go_op {rr : R2} {f : U → W → SM S Z} (hf : ∀ a b, Stl (f a b)) (hv : VO2 X.K S r1 r2 r3 rr f) (h1 : GE F ta G G1 r1 m1) (h2 : GE F tb G1 G2 r2 m2) : GE F (tOp rr ta tb) G G2 r3 (bnd m1 fun a => bnd m2 fun b => f a b) := by
  intro T t σ s H Q h q
  refine h1 T t σ s H _ h (wp_mono (wp_bnd q) (fun a s1 q1 v H1 at1 => ?_) fun _ _ z => z)
  refine h2 _ _ σ s1 H1 _ at1 (wp_mono (wp_bnd q1) (fun b s2 q2 w H2 at2 => ?_) fun _ _ z => z)
  obtain ⟨M1, B1, k1⟩ := snd_rel at2
  obtain ⟨M2, B2, k2⟩ := top_rel at2
  refine hv a b v w M1 B1 M2 B2 H2 Q s2 k1 k2 (wp_mono ((hf a b).wp q2) (fun c s3 q3 e u hu => ?_) fun _ _ z => z)
  exact q3.2 u H2 (fin2 at2 hu)
theorem ex_bin {op : Operator} {rr : R2} {f : U → W → SM S Z} (ho : OpR X (binaryOp op) rr) (hv : VO2 X.K S r1 r2 r3 rr f) (hf : ∀ a b, Stl (f a b)) (h1 : EX X F a ta G G1 r1 m1) (h2 : EX X F b tb G1 G2 r2 m2) :
    EX X F (.BinOp a op b pos) (tOp rr ta tb) G G2 r3 (bnd m1 fun a => bnd m2 fun b => f a b) := ⟨pe_op ho h1.pe h2.pe, go_op hf hv h1.go h2.go⟩
theorem ex_cmp {op : CmpOp} {rr : R2} {f : U → W → SM S Bool} (ho : OpR X (compareOp op) rr) (hv : VO2 X.K S r1 r2 rBool rr f) (hf : ∀ a b, Stl (f a b)) (h1 : EX X F a ta G G1 r1 m1) (h2 : EX X F b tb G1 G2 r2 m2) (hm : behindInMarks op b = false) :
    EX X F (.Compare a [op] [b] pos) (tOp rr ta tb) G G2 rBool (bnd m1 fun a => bnd m2 fun b => f a b) := ⟨pe_cmpR ho h1.pe h2.pe hm, go_op hf hv h1.go h2.go⟩
theorem go_test {te : TE} {m : SM S Bool} (h : GE F te G G' rBool m) : GT F (tTest te) G G' m := by
  intro T t σ s H Q h0 q
  refine h T t σ s H _ h0 (wp_mono q (fun c s1 q1 v H1 at1 => ?_) fun _ _ z => z)
  obtain ⟨M, B, k, _⟩ := top_rel at1
  exact ⟨c, k, q1 H1 at1.pop⟩
theorem go_B {te : TE} {m : SM S Bool} (h : GE F te G G' rBool m) : GT F (tB te) G G' m := go_test h
theorem et_cmp {op : CmpOp} {rr : R2} {f : U → W → SM S Bool} (ho : OpR X (compareOp op) rr) (hv : VO2 X.K S r1 r2 rBool rr f) (hf : ∀ a b, Stl (f a b)) (h1 : EX X F a ta G G1 r1 m1) (h2 : EX X F b tb G1 G2 r2 m2) (hm : behindInMarks op b = false) :
    ET X F (.Compare a [op] [b] pos) (tTest (tOp rr ta tb)) G G2 (bnd m1 fun a => bnd m2 fun b => f a b) := ⟨pt_cmpR ho h1.pe h2.pe hm, go_test (go_op hf hv h1.go h2.go)⟩
theorem et_val {m : SM S Bool} (h : EX X F e te G G' rBool m) (he : ∀ whole, isTrue e X.env whole = (do let v ← whole; standAt e.pos; holding [v] (truthy v)) := by intro _; rfl) : ET X F e (tB te) G G' m := ⟨pt_val h.pe he, go_B h.go⟩
/-- names, constants -/
theorem ex_var (i : Nat) {a : U} {x : Str} (c : r.Cp) (hG : ∀ s, (G s)[i]? = some (.is r a)) (hN : X.N[i]? = some x := by rfl) (hv : Vis X.env.scope x := by first | exact Or.inl rfl | exact Or.inr (Or.inl rfl) | exact Or.inr (Or.inr rfl))
    (hd : (x == ("__debug__" : Str)) = false := by decide) (hcd : (x == ("__classdict__" : Str)) = false := by decide) : EX X F (.Name x pos) (tVar i) G G r (ret a) :=
  ⟨pe_var hN hv hd hcd, fun T t σ s H Q h q => by
    obtain ⟨v, e, at1⟩ := h.copy c (hG s)
    exact ⟨v, e, q v H at1⟩⟩
/-- a name whose thing is taken out of it -/
theorem ex_mv (i : Nat) {a : U} {x : Str} (hG : ∀ s, (G s)[i]? = some (.is r a)) (hN : X.N[i]? = some x := by rfl) (hv : Vis X.env.scope x := by first | exact Or.inl rfl | exact Or.inr (Or.inl rfl) | exact Or.inr (Or.inr rfl))
    (hd : (x == ("__debug__" : Str)) = false := by decide) (hcd : (x == ("__classdict__" : Str)) = false := by decide) : EX X F (.Name x pos) (tVar i) G (fun s => (G s).set i .un) r (ret a) :=
  ⟨pe_var hN hv hd hcd, fun T t σ s H Q h q => by
    obtain ⟨v, e, at1⟩ := h.move (hG s)
    exact ⟨v, e, q v H at1⟩⟩
theorem go_c {f : U → V} {a : U} : GE F (tC (f a)) G G (rPl f) (ret a) := fun T t σ s H Q h q => q _ H (h.push fun _ => ⟨rfl, rfl⟩)
theorem ex_int {i : Int} {j : Nat} : EX X F (.Constant (.int i) j pos) (tC (.int i)) G G rInt (ret i) := ⟨pe_int, go_c⟩
theorem ex_bool {i : Bool} {j : Nat} : EX X F (.Constant (.bool i) j pos) (tC (.bl i)) G G rBool (ret i) := ⟨pe_bl, go_c⟩
theorem ex_str {i : Str} {j : Nat} : EX X F (.Constant (.str i) j pos) (tC (.str i)) G G rStr (ret i) := ⟨pe_str, go_c⟩
theorem ex_none {j : Nat} : EX X F (.Constant .none j pos) (tC .non) G G rNon (ret ()) := ⟨pe_non, go_c (f := fun _ : Unit => V.non) (a := ())⟩
theorem ex_noneO {j : Nat} : EX X F (.Constant .none j pos) (tC .non) G G (rOpt r) (ret none) := ⟨pe_non, fun T t σ s H Q h q => q _ H (h.push fun _ => ⟨rfl, rfl⟩)⟩
/-- the answer read another way -/
theorem go_map {f : U → W} (h : GE F te G G' r1 m1) (k : ∀ a v M H B, r1.rel X.K M H v a B → r2.rel X.K M H v (f a) B) : GE F te G G' r2 (bnd m1 fun a => ret (f a)) := by
  intro T t σ s H Q h0 q
  refine h T t σ s H Q h0 (wp_mono (wp_bnd q) (fun a s1 q1 v H1 at1 => q1 v H1 ?_) fun _ _ z => z)
  obtain ⟨A1, A2, at1⟩ := at1
  refine ⟨A1, A2, ?_, at1.loc, at1.good⟩
  obtain ⟨B, A', eA, ⟨v', ev, hr⟩, ht⟩ := AtS.cons_inv at1.tmp
  subst eA
  exact .cons ⟨v', ev, k _ _ _ _ _ hr⟩ ht
theorem ex_some (h : EX X F e te G G' r m) : EX X F e te G G' (rOpt r) (bnd m fun a => ret (some a)) := ⟨h.pe, go_map h.go fun _ _ _ _ _ h => h⟩
theorem ex_freeze (h : EX X F e te G G' r m) : EX X F e te G G' (sh r) m := ⟨h.pe, fun T t σ s H Q h0 q => h.go T t σ s H Q h0 (wp_mono q (fun a s1 q1 v H1 at1 => q1 v H1 at1.freeze) fun _ _ z => z)⟩
theorem ex_unsh (c : r.Cp) (h : EX X F e te G G' (sh r) m) : EX X F e te G G' r m := ⟨h.pe, fun T t σ s H Q h0 q => h.go T t σ s H Q h0 (wp_mono q (fun a s1 q1 v H1 at1 => q1 v H1 (at1.unsh c)) fun _ _ z => z)⟩
/-- tuples -/
theorem ex_tup2 {x1 : Nat} (h1 : EX X F a ta G G1 r1 m1) (h2 : EX X F b tb G1 G2 r2 m2) (hs2 : PySem.W.isStarred a = false := by rfl) (hs1 : PySem.W.isStarred b = false := by rfl) : EX X F (.Tuple [a, b] x1 pos) (tTup (tCons ta (tCons tb tNil))) G G2 (rPair r1 r2) (bnd m1 fun a => bnd m2 fun b => ret (a, b)) :=
  ⟨pe_tup (pa_cons h1.pe (pa_cons h2.pe pa_nil (star1 hs1)) (star1 hs2)), fun T t σ s H Q h q => by
    refine h1.go T t σ s H _ h (wp_mono (wp_bnd q) (fun a s1 q1 v H1 at1 => ?_) fun _ _ z => z)
    refine h2.go _ _ σ s1 H1 _ at1 (wp_mono (wp_bnd q1) (fun b s2 q2 w H2 at2 => ?_) fun _ _ z => z)
    refine ⟨by show 2 ≤ sizeLine; decide, fun p hp => ?_⟩
    exact q2 _ _ (at2.tup2 hp)⟩
theorem ex_tup3 {c : Expr} {tc : TE} {m3 : SM S Z} {G3 : S → List Slot} {x1 : Nat} (h1 : EX X F a ta G G1 r1 m1) (h2 : EX X F b tb G1 G2 r2 m2) (h3 : EX X F c tc G2 G3 r3 m3) (hs3 : PySem.W.isStarred a = false := by rfl) (hs2 : PySem.W.isStarred b = false := by rfl) (hs1 : PySem.W.isStarred c = false := by rfl) : EX X F (.Tuple [a, b, c] x1 pos) (tTup (tCons ta (tCons tb (tCons tc tNil)))) G G3 (rTup3 r1 r2 r3) (bnd m1 fun a => bnd m2 fun b => bnd m3 fun c => ret (a, b, c)) :=
  ⟨pe_tup (pa_cons h1.pe (pa_cons h2.pe (pa_cons h3.pe pa_nil (star1 hs1)) (star1 hs2)) (star1 hs3)), fun T t σ s H Q h q => by
    refine h1.go T t σ s H _ h (wp_mono (wp_bnd q) (fun a s1 q1 v H1 at1 => ?_) fun _ _ z => z)
    refine h2.go _ _ σ s1 H1 _ at1 (wp_mono (wp_bnd q1) (fun b s2 q2 w H2 at2 => ?_) fun _ _ z => z)
    refine h3.go _ _ σ s2 H2 _ at2 (wp_mono (wp_bnd q2) (fun c s3 q3 u H3 at3 => ?_) fun _ _ z => z)
    refine ⟨by show 3 ≤ sizeLine; decide, fun p hp => ?_⟩
    exact q3 _ _ (at3.tup3 hp)⟩
/-- a if t else b -/
theorem ex_if {c : Expr} {tc : TT} {mc : SM S Bool} {mb : SM S U} (hc : ET X F c tc G G1 mc) (h1 : EX X F a ta G1 G2 r m) (h2 : EX X F b tb G1 G2 r mb) : EX X F (.IfExp c a b pos) (tIf tc ta tb) G G2 r (bnd mc fun k => if k then m else mb) :=
  ⟨pe_ifExp hc.pt h1.pe h2.pe, fun T t σ s H Q h q => by
    refine hc.go T t σ s H _ h (wp_mono (wp_bnd q) (fun k s1 q1 H1 at1 => ?_) fun _ _ z => z)
    cases k with
    | true => exact h1.go T t σ s1 H1 Q at1 q1
    | false => exact h2.go T t σ s1 H1 Q at1 q1⟩
/-- and, or, not -/
theorem ew_and1 {mc : SM S Bool} {tc : TT} (h : ET X F a tc G G1 mc) : EW X F (.BoolOp .And [a] pos) tc G G1 mc := ⟨pw_and1 h.pt, h.go⟩
theorem ew_or1 {mc : SM S Bool} {tc : TT} (h : ET X F a tc G G1 mc) : EW X F (.BoolOp .Or [a] pos) tc G G1 mc := ⟨pw_or1 h.pt, h.go⟩
theorem ew_and {rest : List Expr} {mc md : SM S Bool} {tc td : TT} (h : ET X F a tc G G1 mc) (h2 : EW X F (.BoolOp .And (b :: rest) pos) td G1 G1 md) : EW X F (.BoolOp .And (a :: b :: rest) pos) (tAnd tc td) G G1 (bnd mc fun k => if k then md else ret false) :=
  ⟨pw_and h.pt h2.pw, fun T t σ s H Q h0 q => by
    refine h.go T t σ s H _ h0 (wp_mono (wp_bnd q) (fun k s1 q1 H1 at1 => ?_) fun _ _ z => z)
    cases k with
    | true => exact h2.go T t σ s1 H1 Q at1 q1
    | false => exact q1 H1 at1⟩
theorem ew_or {rest : List Expr} {mc md : SM S Bool} {tc td : TT} (h : ET X F a tc G G1 mc) (h2 : EW X F (.BoolOp .Or (b :: rest) pos) td G1 G1 md) : EW X F (.BoolOp .Or (a :: b :: rest) pos) (tOr tc td) G G1 (bnd mc fun k => if k then ret true else md) :=
  ⟨pw_or h.pt h2.pw, fun T t σ s H Q h0 q => by
    refine h.go T t σ s H _ h0 (wp_mono (wp_bnd q) (fun k s1 q1 H1 at1 => ?_) fun _ _ z => z)
    cases k with
    | true => exact q1 H1 at1
    | false => exact h2.go T t σ s1 H1 Q at1 q1⟩
theorem et_w {tc : TT} {mc : SM S Bool} (h : EW X F e tc G G1 mc) : ET X F e tc G G1 mc := ⟨h.pw.pt, h.go⟩
theorem et_not {tc : TT} {mc : SM S Bool} (h : ET X F a tc G G1 mc) : ET X F (.UnaryOp .Not a pos) (tNot tc) G G1 (bnd mc fun k => ret (!k)) :=
  ⟨pt_not h.pt, fun T t σ s H Q h0 q => h.go T t σ s H _ h0 (wp_mono (wp_bnd q) (fun k s1 q1 H1 at1 => q1 H1 at1) fun _ _ z => z)⟩
theorem ex_not {mc : SM S Bool} (h : EX X F a ta G G1 rBool mc) : EX X F (.UnaryOp .Not a pos) (tNotV ta) G G1 rBool (bnd mc fun k => ret (!k)) :=
  ⟨pe_not h.pe, fun T t σ s H Q h0 q => h.go T t σ s H _ h0 (wp_mono (wp_bnd q) (fun k s1 q1 v H1 at1 => by
    obtain ⟨M, B, e, _⟩ := top_rel at1
    exact ⟨k, e, q1 _ H1 (at1.pop.push fun _ => ⟨rfl, rfl⟩)⟩) fun _ _ z => z)⟩
theorem ex_one {op : BoolOp} {mc : SM S Bool} (h : EX X F a ta G G1 rBool mc) : EX X F (.BoolOp op [a] pos) ta G G1 rBool mc := ⟨pe_one h.pe, h.go⟩
theorem ex_and {rest : List Expr} {mc md : SM S Bool} (h : EX X F a ta G G1 rBool mc) (h2 : EX X F (.BoolOp .And (b :: rest) pos) tb G1 G1 rBool md) : EX X F (.BoolOp .And (a :: b :: rest) pos) (tAndV ta tb) G G1 rBool (bnd mc fun k => if k then md else ret false) :=
  ⟨pe_and h.pe h2.pe, fun T t σ s H Q h0 q => h.go T t σ s H _ h0 (wp_mono (wp_bnd q) (fun k s1 q1 v H1 at1 => by
    obtain ⟨M, B, e, _⟩ := top_rel at1
    refine ⟨k, e, ?_⟩
    cases k with
    | true => exact h2.go T t σ s1 H1 Q at1.pop q1
    | false => exact q1 _ H1 (at1.pop.push fun _ => ⟨rfl, rfl⟩)) fun _ _ z => z)⟩
theorem ex_or {rest : List Expr} {mc md : SM S Bool} (h : EX X F a ta G G1 rBool mc) (h2 : EX X F (.BoolOp .Or (b :: rest) pos) tb G1 G1 rBool md) : EX X F (.BoolOp .Or (a :: b :: rest) pos) (tOrV ta tb) G G1 rBool (bnd mc fun k => if k then ret true else md) :=
  ⟨pe_or h.pe h2.pe, fun T t σ s H Q h0 q => h.go T t σ s H _ h0 (wp_mono (wp_bnd q) (fun k s1 q1 v H1 at1 => by
    obtain ⟨M, B, e, _⟩ := top_rel at1
    refine ⟨k, e, ?_⟩
    cases k with
    | true => exact q1 _ H1 (at1.pop.push fun _ => ⟨rfl, rfl⟩)
    | false => exact h2.go T t σ s1 H1 Q at1.pop q1) fun _ _ z => z)⟩
end
end Td

set_option Elab.async false
set_option linter.all false
set_option maxRecDepth 100000
set_option maxHeartbeats 4000000
namespace Td
open PySem PySem.Spec PyProof.Rows L2

section
variable {K : PySem.W.Frag} {S : Type} {F : FC K S} {T : List Slot} {t : List V} {G : List Slot} {σ : L2.St} {H : Hp}
/-- what lies under the top temp goes -/
theorem At.dropU {g : Slot} {v : V} : ∀ {T1 : List Slot} {t1 : List V}, t1.length = T1.length → At F (g :: (T1 ++ T)) (v :: (t1 ++ t)) G σ H → At F (g :: T) (v :: t) G σ H := by
  intro T1 t1 e h
  obtain ⟨A1, A2, h⟩ := h
  have nd := h.good.nd
  obtain ⟨B, A', eA, h1, ht⟩ := AtS.cons_inv h.tmp
  rw [List.map_append] at ht
  obtain ⟨C, D, eC, h2, h3⟩ := AtS.split (by rw [List.length_map, e]) ht
  subst eA eC
  have hM : ∀ x, x ∈ B ++ D ++ A2 ++ F.M0 → x ∈ B ++ (C ++ D) ++ A2 ++ F.M0 ∨ H x = none := fun x hx => .inl (by simp only [List.mem_append] at *; grind)
  exact ⟨B ++ D, A2, .cons (Slot.ok_grow h1 hM) (h3.grow hM), h.loc.grow hM, h.good.sub (by simp only [List.nodup_append, List.mem_append] at *; grind) fun x hx => by simp only [List.mem_append] at *; grind⟩
theorem At.dropM {T0 T1 : List Slot} {t0 t1 : List V} (e0 : t0.length = T0.length) (e : t1.length = T1.length) (h : At F (T0 ++ (T1 ++ T)) (t0 ++ (t1 ++ t)) G σ H) : At F (T0 ++ T) (t0 ++ t) G σ H := by
  obtain ⟨A1, A2, h⟩ := h
  have nd := h.good.nd
  have ht := h.tmp
  rw [List.map_append, List.map_append] at ht
  obtain ⟨B, A', eA, h1, ht⟩ := AtS.split (by rw [List.length_map, e0]) ht
  obtain ⟨C, D, eC, h2, h3⟩ := AtS.split (by rw [List.length_map, e]) ht
  subst eA eC
  have hM : ∀ x, x ∈ B ++ D ++ A2 ++ F.M0 → x ∈ B ++ (C ++ D) ++ A2 ++ F.M0 ∨ H x = none := fun x hx => .inl (by simp only [List.mem_append] at *; grind)
  refine ⟨B ++ D, A2, ?_, h.loc.grow hM, h.good.sub (by simp only [List.nodup_append, List.mem_append] at *; grind) fun x hx => by simp only [List.mem_append] at *; grind⟩
  rw [List.map_append]
  exact (h1.grow hM).append (h3.grow hM)
/-- the arguments used up, a thing that owns nothing comes -/
theorem AtP.fin {L : List Arg} {ts vs : List V} {A1 A2 : List Addr} (h : AtP F ((tmps L).reverse ++ T) (ts.reverse ++ t) G σ H A1 A2) (av : ArgV σ L ts vs) {U : Type} {r : Rp U} {u : V} {a : U} (hr : r.rel K (A1 ++ A2 ++ F.M0) H u a []) : At F (.is r a :: T) (u :: t) G σ H :=
  At.dropU (by simp [(argV_len av).2]) (⟨A1, A2, .cons (B := []) ⟨u, rfl, hr⟩ h.tmp, h.loc, h.good⟩ : At F (.is r a :: ((tmps L).reverse ++ T)) (u :: (ts.reverse ++ t)) G σ H)
/-- .. and stay -/
theorem AtP.pushM {A1 A2 : List Addr} (h : AtP F T t G σ H A1 A2) {U : Type} {r : Rp U} {u : V} {a : U} (hr : r.rel K (A1 ++ A2 ++ F.M0) H u a []) : AtP F (.is r a :: T) (u :: t) G σ H A1 A2 :=
  ⟨.cons (B := []) ⟨u, rfl, hr⟩ h.tmp, h.loc, h.good⟩
theorem rddM {ts vs : List V} {L : List Arg} {j : Nat} {arg : Arg} {U : Type} {r : Rp U} {a : U} {A1 A2 : List Addr} (h : AtP F ((tmps L).reverse ++ T) (ts.reverse ++ t) G σ H A1 A2) (av : ArgV σ L ts vs) (e : L[j]? = some arg) (rd : Rdd G arg r a) :
    ∃ v B, vs[j]? = some v ∧ r.rel K (A1 ++ A2 ++ F.M0) H v a B := by
  have tmp : ∀ {g : Slot}, L[j]? = some (.t g) → ∃ v B, vs[j]? = some v ∧ g.ok K (A1 ++ A2 ++ F.M0) H (some v) B := by
    intro g e
    obtain ⟨k, v, h1, h2, h3⟩ := argV_tmp av e
    obtain ⟨x, B, e1, h4, _⟩ := h.tmp.mem (rev_get h1 T)
    rw [← (argV_len av).2, List.map_append, List.map_reverse] at e1
    have h2' : (ts.map some)[k]? = some (some v) := by rw [List.getElem?_map, h2]; rfl
    have z := rev_get h2' (t.map some)
    rw [List.length_map, e1] at z
    cases z
    exact ⟨v, B, h3, h4⟩
  have loc : ∀ {i : Nat} {g : Slot}, L[j]? = some (.v i) → G[i]? = some g → ∃ v B, vs[j]? = some v ∧ g.ok K (A1 ++ A2 ++ F.M0) H (some v) B := by
    intro i g e eg
    obtain ⟨v, h1, h2⟩ := argV_var av e
    obtain ⟨x, B, e1, h4, _⟩ := h.loc.mem eg
    rw [h2] at e1
    cases e1
    exact ⟨v, B, h1, h4⟩
  cases rd with
  | t =>
    obtain ⟨v, B, h1, v', e', h2⟩ := tmp e
    cases e'
    exact ⟨v, B, h1, h2⟩
  | ts =>
    obtain ⟨v, B, h1, v', e', h2⟩ := tmp e
    cases e'
    obtain ⟨_, A, h3, _⟩ := h2
    exact ⟨v, A, h1, h3⟩
  | v eg =>
    obtain ⟨v, B, h1, v', e', h2⟩ := loc e eg
    cases e'
    exact ⟨v, B, h1, h2⟩
  | vs eg =>
    obtain ⟨v, B, h1, v', e', h2⟩ := loc e eg
    cases e'
    obtain ⟨_, A, h3, _⟩ := h2
    exact ⟨v, A, h1, h3⟩
  | pn eg =>
    obtain ⟨v, B, h1, e', h2⟩ := loc e eg
    cases e'
    exact ⟨_, B, h1, h2⟩
  | b1 eg =>
    obtain ⟨x, B, e1, h4, _⟩ := h.loc.mem eg
    obtain ⟨v, _, p, B1, B2, _, _, h5, _⟩ := h4
    exact ⟨_, B1, argV_u av e, h5⟩
  | b2 eg =>
    obtain ⟨x, B, e1, h4, _⟩ := h.loc.mem eg
    obtain ⟨v, _, p, B1, B2, _, _, _, h5, _⟩ := h4
    exact ⟨_, B2, argV_u av e, h5⟩
/-- shared arguments -/
inductive RdS {U : Type} (G : List Slot) : Arg → Rp U → U → Prop
  | t {r a} : RdS G (.t (.is (sh r) a)) r a
  | v {i r a} (e : G[i]? = some (.is (sh r) a)) : RdS G (.v i) r a
  | tc {r a} (c : r.Cp) : RdS G (.t (.is r a)) r a
  | vc {i r a} (c : r.Cp) (e : G[i]? = some (.is r a)) : RdS G (.v i) r a
theorem rdS {ts vs : List V} {L : List Arg} {j : Nat} {arg : Arg} {U : Type} {r : Rp U} {a : U} {A1 A2 : List Addr} (h : AtP F ((tmps L).reverse ++ T) (ts.reverse ++ t) G σ H A1 A2) (av : ArgV σ L ts vs) (e : L[j]? = some arg) (rd : RdS G arg r a) :
    ∃ v, vs[j]? = some v ∧ (sh r).rel K (A1 ++ A2 ++ F.M0) H v a [] := by
  cases rd with
  | t =>
    obtain ⟨v, B, h1, eB, A, h3⟩ := rddM (r := sh r) h av e .t
    exact ⟨v, h1, rfl, A, h3⟩
  | v eg =>
    obtain ⟨v, B, h1, eB, A, h3⟩ := rddM (r := sh r) h av e (.v eg)
    exact ⟨v, h1, rfl, A, h3⟩
  | tc c =>
    obtain ⟨v, B, h1, h3⟩ := rddM h av e .t
    have eB := c h3
    subst eB
    exact ⟨v, h1, rfl, [], h3, fun _ z => by cases z⟩
  | vc c eg =>
    obtain ⟨v, B, h1, h3⟩ := rddM h av e (.v eg)
    have eB := c h3
    subst eB
    exact ⟨v, h1, rfl, [], h3, fun _ z => by cases z⟩
/-- an operand -/
def GO (F : FC K S) {U : Type} (te : TE) (G G' : S → List Slot) (arg : U → Arg) (m : SM S U) : Prop :=
  ∀ (T : List Slot) (t : List V) (σ : L2.St) (s : S) (H : Hp) (Q : VK), At F T t (G s) σ H →
    (m s).wp (fun a s' => ∀ ts v H', At F ((tmps [arg a]).reverse ++ T) (ts.reverse ++ t) (G' s') σ H' → ArgV σ [arg a] ts [v] → Q v H') (XP F σ) → te σ H Q
end

structure EO (X : Cx) {S : Type} (F : FC X.K S) {U : Type} (e : Expr) (te : TE) (G G' : S → List Slot) (arg : U → Arg) (m : SM S U) : Prop where
  pe : PE X e te
  go : GO F te G G' arg m
section
variable {X : Cx} {S : Type} {F : FC X.K S} {U W Z : Type} {r r1 : Rp U} {r2 : Rp W} {r3 : Rp Z} {e a b : Expr} {es : List Expr} {te ta tb : TE} {tr : TA} {G G1 G2 G' : S → List Slot} {m m1 : SM S U} {m2 : SM S W} {pos : Pos} {arg : U → Arg} {L : W → List Arg}
theorem eo_t (h : EX X F e te G G' r m) : EO X F e te G G' (fun a => .t (.is r a)) m :=
  ⟨h.pe, fun T t σ s H Q h0 q => h.go T t σ s H Q h0 (wp_mono q (fun a s1 q1 v H1 at1 => q1 [v] v H1 (by simpa [tmps] using at1) (.t .nil)) fun _ _ z => z)⟩
theorem eo_v (i : Nat) {g : S → Slot} {x : Str} {a : U} (hG : ∀ s, (G s)[i]? = some (g s)) (hs : ∀ s v, v = none → ∀ M H B, ¬ (g s).ok X.K M H v B) (hN : X.N[i]? = some x := by rfl) (hv : Vis X.env.scope x := by first | exact Or.inl rfl | exact Or.inr (Or.inl rfl) | exact Or.inr (Or.inr rfl))
    (hd : (x == ("__debug__" : Str)) = false := by decide) (hcd : (x == ("__classdict__" : Str)) = false := by decide) : EO X F (.Name x pos) (tVar i) G G (fun _ : U => .v i) (ret a) :=
  ⟨pe_var hN hv hd hcd, fun T t σ s H Q h q => by
    obtain ⟨A1, A2, h0⟩ := id h
    obtain ⟨x, B, e1, h1, _⟩ := h0.loc.mem (hG s)
    cases x with
    | none => exact (hs s none rfl _ _ _ h1).elim
    | some v => exact ⟨v, e1, q [] v H (by simpa [tmps] using h) (.v e1 .nil)⟩⟩
theorem is_some {r : Rp U} {a : U} {K : PySem.W.Frag} : ∀ v, v = none → ∀ M H B, ¬ (Slot.is r a).ok K M H v B := fun v e M H B z => by
  obtain ⟨u, z, _⟩ := z
  rw [e] at z; cases z
theorem pn_some {r : Rp U} {a : U} {w : V} {K : PySem.W.Frag} : ∀ v, v = none → ∀ M H B, ¬ (Slot.pn w r a).ok K M H v B := fun v e M H B z => by
  obtain ⟨z, _⟩ := z
  rw [e] at z; cases z
/-- a name read where it stands -/
theorem eo_is (i : Nat) {a : U} {x : Str} (hG : ∀ s, (G s)[i]? = some (.is r a)) (hN : X.N[i]? = some x := by rfl) (hv : Vis X.env.scope x := by first | exact Or.inl rfl | exact Or.inr (Or.inl rfl) | exact Or.inr (Or.inr rfl))
    (hd : (x == ("__debug__" : Str)) = false := by decide) (hcd : (x == ("__classdict__" : Str)) = false := by decide) : EO X F (.Name x pos) (tVar i) G G (fun _ : U => .v i) (ret a) := eo_v i hG (fun _ => is_some) hN hv hd hcd
theorem eo_own (i : Nat) {b : Z} {a : U} {x : Str} (hG : ∀ s, (G s)[i]? = some (.is r3 b)) (hN : X.N[i]? = some x := by rfl) (hv : Vis X.env.scope x := by first | exact Or.inl rfl | exact Or.inr (Or.inl rfl) | exact Or.inr (Or.inr rfl))
    (hd : (x == ("__debug__" : Str)) = false := by decide) (hcd : (x == ("__classdict__" : Str)) = false := by decide) : EO X F (.Name x pos) (tVar i) G G (fun _ : U => .v i) (ret a) := eo_v i hG (fun _ => is_some) hN hv hd hcd
theorem eo_pn (i : Nat) {w : S → V} {f : S → Z} {a : U} {x : Str} (hG : ∀ s, (G s)[i]? = some (.pn (w s) r3 (f s))) (hN : X.N[i]? = some x := by rfl) (hv : Vis X.env.scope x := by first | exact Or.inl rfl | exact Or.inr (Or.inl rfl) | exact Or.inr (Or.inr rfl))
    (hd : (x == ("__debug__" : Str)) = false := by decide) (hcd : (x == ("__classdict__" : Str)) = false := by decide) : EO X F (.Name x pos) (tVar i) G G (fun _ : U => .v i) (ret a) := eo_v i hG (fun _ => pn_some) hN hv hd hcd
theorem ea_nil : EA X F [] tNil G G (fun _ : Unit => []) (ret ()) := ⟨pa_nil, ga_nil⟩
theorem tmps_cons (g : Arg) (L : List Arg) : tmps (g :: L) = tmps [g] ++ tmps L := by cases g <;> rfl
theorem argV_cons {σ : L2.St} {g : Arg} {L : List Arg} {ts us ws : List V} {v : V} (h : ArgV σ [g] ts [v]) (h2 : ArgV σ L us ws) : ArgV σ (g :: L) (ts ++ us) (v :: ws) := by
  cases h with
  | t h => cases h; exact .t h2
  | v e h => cases h; exact .v e h2
  | u h => cases h; exact .u h2
theorem ea_cons (h1 : EO X F e te G G1 arg m1) (h2 : EA X F es tr G1 G2 L m2) (hs : PySem.W.isStarred e = false := by rfl) :
    EA X F (e :: es) (tCons te tr) G G2 (fun p : U × W => arg p.1 :: L p.2) (bnd m1 fun a => bnd m2 fun b => ret (a, b)) :=
  ⟨pa_cons h1.pe h2.pa (star1 hs), fun T t σ s H Q h q => by
    refine h1.go T t σ s H _ h (wp_mono (wp_bnd q) (fun a s1 q1 ts v H1 at1 av1 => ?_) fun _ _ z => z)
    refine h2.go _ _ σ s1 H1 _ at1 (wp_mono (wp_bnd q1) (fun b s2 q2 us ws H2 at2 av2 => ?_) fun _ _ z => z)
    refine q2 (ts ++ us) (v :: ws) H2 ?_ (argV_cons av1 av2)
    rw [tmps_cons]
    simpa using at2⟩
/-- a two-place operation over arguments -/
theorem go_argop {A : Type} {LA : A → List Arg} {mA : SM S A} {rr : R2} {f : A → SM S Z} (h : GA F (tCons ta (tCons tb tNil)) G G' LA mA) (hl : ∀ a, (LA a).length = 2) (hf : ∀ a, Stl (f a))
    (hv : ∀ (a : A) (s : S) (T : List Slot) (t ts : List V) (x y : V) (σ : L2.St) (H : Hp) (Q : VK) (A1 A2 : List Addr), AtP F ((tmps (LA a)).reverse ++ T) (ts.reverse ++ t) (G' s) σ H A1 A2 → ArgV σ (LA a) ts [x, y] →
      (f a s).wp (fun c s' => s' = s ∧ ∀ u, At F (.is r3 c :: T) (u :: t) (G' s) σ H → Q u H) (fun _ _ => True) → rr x y H Q) : GE F (tOp rr ta tb) G G' r3 (bnd mA f) := by
  intro T t σ s H Q h0 q
  refine h T t σ s H (fun vs H => match vs with | [x, y] => rr x y H Q | _ => False) h0 (wp_mono (wp_bnd q) (fun a s1 q1 ts vs H1 at1 av => ?_) fun _ _ z => z)
  obtain ⟨A1, A2, at1⟩ := at1
  have key : ∀ x y, ArgV σ (LA a) ts [x, y] → rr x y H1 Q := fun x y av => by
    refine hv a s1 T t ts x y σ H1 Q A1 A2 at1 av (wp_mono ((hf a).wp (E' := fun _ _ => True) q1) (fun c s2 q2 => ?_) fun _ _ _ => trivial)
    obtain ⟨e, q2⟩ := q2
    subst e
    exact ⟨rfl, fun u hu => q2 u H1 hu⟩
  have len := (argV_len av).1
  rw [hl a] at len
  match vs, av, len with
  | [x, y], av, _ => exact key x y av
/-- .. a call's -/
theorem go_argcall {A : Type} {LA : A → List Arg} {mA : SM S A} {rr : List V → Hp → VK → Prop} {ta : TA} {f : A → SM S Z} (h : GA F ta G G' LA mA) (hf : ∀ a, Stl (f a))
    (hv : ∀ (a : A) (s : S) (T : List Slot) (t ts vs : List V) (σ : L2.St) (H : Hp) (Q : VK) (A1 A2 : List Addr), AtP F ((tmps (LA a)).reverse ++ T) (ts.reverse ++ t) (G' s) σ H A1 A2 → ArgV σ (LA a) ts vs →
      (f a s).wp (fun c s' => s' = s ∧ ∀ u H', At F (.is r3 c :: T) (u :: t) (G' s) σ H' → Q u H') (fun _ _ => True) → rr vs H Q) : GE F (tCB rr ta) G G' r3 (bnd mA f) := by
  intro T t σ s H Q h0 q
  refine h T t σ s H _ h0 (wp_mono (wp_bnd q) (fun a s1 q1 ts vs H1 at1 av => ?_) fun _ _ z => z)
  obtain ⟨A1, A2, at1⟩ := at1
  refine hv a s1 T t ts vs σ H1 Q A1 A2 at1 av (wp_mono ((hf a).wp (E' := fun _ _ => True) q1) (fun c s2 q2 => ?_) fun _ _ _ => trivial)
  obtain ⟨e, q2⟩ := q2
  subst e
  exact ⟨rfl, q2⟩

/-! ### items -/
def ixM {S T : Type} (xs : List T) (i : Int) : SM S T := match atI xs i with
  | some a => ret a
  | none => stk
theorem stl_ixM {T : Type} (xs : List T) (i : Int) : Stl (ixM xs i : SM S T) := by
  unfold ixM
  cases atI xs i with
  | none => exact stl_stk
  | some a => exact stl_ret a
theorem wp_ixM {T : Type} {xs : List T} {i : Int} {s : S} {P : T → S → Prop} {E : Exn → S → Prop} (h : (ixM xs i s).wp P E) : ∃ a, atI xs i = some a ∧ P a s := by
  unfold ixM at h
  cases e : atI xs i with
  | none => rw [e] at h; exact h.elim
  | some a => rw [e] at h; exact ⟨a, rfl, h⟩
theorem atI_all {K : PySem.W.Frag} {T : Type} {R : V → T → List Addr → Prop} {vs : List V} {as : List T} {A : List Addr} (h : All3 R vs as A) {i : Int} {a : T} (e : atI as i = some a) : ∃ v B, atI vs i = some v ∧ R v a B ∧ ∀ p, p ∈ B → p ∈ A := by
  unfold atI at e ⊢
  rw [h.length]
  cases q : ixN as.length i with
  | none => rw [q] at e; cases e
  | some j =>
    rw [q] at e
    exact h.get' (i := j) e
section
variable {A : Type} {LA : A → List Arg} {mA : SM S A} {xs : A → List Z} {ix : A → Int} {argX argI : A → Arg}
/-- xs[i], the item owning nothing -/
theorem ex_ixL (h : EA X F [a, b] (tCons ta (tCons tb tNil)) G G' LA mA) (hL : ∀ a, LA a = [argX a, argI a]) (c : r3.Cp) (hx : ∀ a s, Rdd (G' s) (argX a) (rList r3) (xs a)) (hi : ∀ a s, Rdd (G' s) (argI a) rInt (ix a)) (hs : PlainIx b := by exact fun _ _ => rfl) (p1 : PE X a ta) (p2 : PE X b tb) :
    EX X F (.Subscript a b pos) (tOp (rIxL X.K) ta tb) G G' r3 (bnd mA fun a => ixM (xs a) (ix a)) :=
  ⟨pe_ix ix_list p1 p2 hs, go_argop h.go (fun a => by rw [hL]; rfl) (fun a => stl_ixM _ _) fun a s T t ts x y σ H Q A1 A2 at1 av q => by
    obtain ⟨v, B, e1, p, vs, A, ev, hp, hA, eB⟩ := rddM (j := 0) at1 av (by rw [hL]; rfl) (hx a s)
    obtain ⟨w, B', e2, ew, _⟩ := rddM (j := 1) at1 av (by rw [hL]; rfl) (hi a s)
    cases e1; cases e2
    obtain ⟨z, ez, _, q⟩ := wp_ixM q
    obtain ⟨u, Bu, e3, hr, _⟩ := atI_all (K := X.K) hA ez
    have eBu := c hr
    subst eBu
    exact ⟨p, vs, ix a, u, ev, ew, SqL.of hp, e3, q u (at1.fin av hr)⟩⟩
/-- .. the item shared -/
theorem ex_ixLs (h : EA X F [a, b] (tCons ta (tCons tb tNil)) G G' LA mA) (hL : ∀ a, LA a = [argX a, argI a]) (hx : ∀ a s, RdS (G' s) (argX a) (rList r3) (xs a)) (hi : ∀ a s, Rdd (G' s) (argI a) rInt (ix a)) (hs : PlainIx b := by exact fun _ _ => rfl) (p1 : PE X a ta) (p2 : PE X b tb) :
    EX X F (.Subscript a b pos) (tOp (rIxL X.K) ta tb) G G' (sh r3) (bnd mA fun a => ixM (xs a) (ix a)) :=
  ⟨pe_ix ix_list p1 p2 hs, go_argop h.go (fun a => by rw [hL]; rfl) (fun a => stl_ixM _ _) fun a s T t ts x y σ H Q A1 A2 at1 av q => by
    obtain ⟨v, e1, _, C, ⟨p, vs, A, ev, hp, hA, eC⟩, hC⟩ := rdS (j := 0) at1 av (by rw [hL]; rfl) (hx a s)
    obtain ⟨w, B', e2, ew, _⟩ := rddM (j := 1) at1 av (by rw [hL]; rfl) (hi a s)
    cases e1; cases e2
    obtain ⟨z, ez, _, q⟩ := wp_ixM q
    obtain ⟨u, Bu, e3, hr, sub⟩ := atI_all (K := X.K) hA ez
    exact ⟨p, vs, ix a, u, ev, ew, SqL.of hp, e3, q u (at1.fin (r := sh r3) av ⟨rfl, Bu, hr, fun x hx => hC x (by rw [eC]; exact List.mem_cons_of_mem _ (sub x hx))⟩)⟩⟩
end
/-- a place of a tuple: R says at which place stands what -/
def Plc (K : PySem.W.Frag) {U W : Type} (R : Rp U) (i : Int) (r : Rp W) (f : U → W) : Prop :=
  ∀ {M H v a B}, R.rel K M H v a B → ∃ p vs u B', v = .ref p ∧ SqT K H p vs ∧ atI vs i = some u ∧ r.rel K M H u (f a) B' ∧ ∀ x, x ∈ B' → x ∈ B
theorem plc2_0 {K : PySem.W.Frag} : Plc K (rPair r1 r2) 0 r1 (fun p => p.1) := by
  rintro M H v a B ⟨p, v1, v2, B1, B2, e, hT, h1, h2, eB⟩
  exact ⟨p, _, v1, B1, e, hT, rfl, h1, fun x hx => by rw [eB]; exact List.mem_append_left _ hx⟩
theorem plc2_1 {K : PySem.W.Frag} : Plc K (rPair r1 r2) 1 r2 (fun p => p.2) := by
  rintro M H v a B ⟨p, v1, v2, B1, B2, e, hT, h1, h2, eB⟩
  exact ⟨p, _, v2, B2, e, hT, rfl, h2, fun x hx => by rw [eB]; exact List.mem_append_right _ hx⟩
theorem plc3_0 {K : PySem.W.Frag} : Plc K (rTup3 r1 r2 r3) 0 r1 (fun p => p.1) := by
  rintro M H v a B ⟨p, v1, v2, v3, B1, B2, B3, e, hT, h1, h2, h3, eB⟩
  exact ⟨p, _, v1, B1, e, hT, rfl, h1, fun x hx => by rw [eB]; exact List.mem_append_left _ hx⟩
theorem plc3_1 {K : PySem.W.Frag} : Plc K (rTup3 r1 r2 r3) 1 r2 (fun p => p.2.1) := by
  rintro M H v a B ⟨p, v1, v2, v3, B1, B2, B3, e, hT, h1, h2, h3, eB⟩
  exact ⟨p, _, v2, B2, e, hT, rfl, h2, fun x hx => by rw [eB]; exact List.mem_append_right _ (List.mem_append_left _ hx)⟩
theorem plc3_2 {K : PySem.W.Frag} : Plc K (rTup3 r1 r2 r3) 2 r3 (fun p => p.2.2) := by
  rintro M H v a B ⟨p, v1, v2, v3, B1, B2, B3, e, hT, h1, h2, h3, eB⟩
  exact ⟨p, _, v3, B3, e, hT, rfl, h3, fun x hx => by rw [eB]; exact List.mem_append_right _ (List.mem_append_right _ hx)⟩
section
variable {R : Rp W} {f : W → Z} {xs : U → W} {i : Int} {j : Nat} {p1 : Pos}
/-- t[0], t[1], .. of a tuple -/
theorem ex_plc (h : EO X F a ta G G' arg m) (hp : Plc X.K R i r3 f) (c : r3.Cp) (hx : ∀ a s, Rdd (G' s) (arg a) R (xs a)) :
    EX X F (.Subscript a (.Constant (.int i) j p1) pos) (tOp (rIxT X.K) ta (tC (.int i))) G G' r3 (bnd m fun a => ret (f (xs a))) :=
  ⟨pe_ix ix_tup h.pe pe_int fun _ _ => rfl, fun T t σ s H Q h0 q => h.go T t σ s H _ h0 (wp_mono (wp_bnd q) (fun a s1 q1 ts v H1 at1 av => by
    obtain ⟨A1, A2, at1⟩ := at1
    obtain ⟨v', B, e1, hr⟩ := rddM (j := 0) at1 av rfl (hx a s1)
    cases e1
    obtain ⟨p, vs, u, B', ev, hT, ei, hu, sub⟩ := hp hr
    have eB := c hu
    subst eB
    exact ⟨p, vs, i, u, ev, rfl, hT, ei, q1 u H1 (at1.fin av hu)⟩) fun _ _ z => z)⟩
theorem ex_plcS (h : EO X F a ta G G' arg m) (hp : Plc X.K R i r3 f) (hx : ∀ a s, RdS (G' s) (arg a) R (xs a)) :
    EX X F (.Subscript a (.Constant (.int i) j p1) pos) (tOp (rIxT X.K) ta (tC (.int i))) G G' (sh r3) (bnd m fun a => ret (f (xs a))) :=
  ⟨pe_ix ix_tup h.pe pe_int fun _ _ => rfl, fun T t σ s H Q h0 q => h.go T t σ s H _ h0 (wp_mono (wp_bnd q) (fun a s1 q1 ts v H1 at1 av => by
    obtain ⟨A1, A2, at1⟩ := at1
    obtain ⟨v', e1, _, C, hr, hC⟩ := rdS (j := 0) at1 av rfl (hx a s1)
    cases e1
    obtain ⟨p, vs, u, B', ev, hT, ei, hu, sub⟩ := hp hr
    exact ⟨p, vs, i, u, ev, rfl, hT, ei, q1 u H1 (at1.fin (r := sh r3) av ⟨rfl, B', hu, fun x hx => hC x (sub x hx)⟩)⟩) fun _ _ z => z)⟩
end
end
end Td

set_option Elab.async false
set_option linter.all false
set_option maxRecDepth 100000
set_option maxHeartbeats 4000000
namespace Td
open PySem PySem.Spec PyProof.Rows L2

section
variable {K : PySem.W.Frag} {S : Type} {F : FC K S} {T : List Slot} {t : List V} {G : List Slot} {σ : L2.St} {H : Hp}
/-- the heap with one owned list changed: what does not own it stays -/
theorem keep_upd {M B : List Addr} {D : Addr} {vs : List V} {o' : HO} (hD : H D = some (.lst vs)) (hM : D ∈ M) (hB : D ∉ B) : ∀ p o, H p = some o → (p ∉ M ∨ p ∈ B ∨ isTup o = true) → upd H D o' p = some o := by
  intro p o e hp
  have ne : p ≠ D := by
    rintro rfl
    rcases hp with z | z | z
    · exact z hM
    · exact hB z
    · rw [hD] at e; cases e; cases z
  rw [upd_ne ne]; exact e
theorem good_upd {D : Addr} {vs ws : List V} {A A' : List Addr} (g : Good F H A) (hD : H D = some (.lst vs)) (hA : D ∈ A) (nd : A'.Nodup) (sub : ∀ p, p ∈ A' → p ∈ A) : Good F (upd H D (.lst ws)) A' := by
  have g' := g.sub nd sub
  refine ⟨g'.nd, g'.out, g'.new, fun p hp => ?_, fun p o e hI => ?_, g'.m0⟩
  · obtain ⟨o, ho, z⟩ := g.has p hp
    by_cases h : p = D
    · subst h; exact ⟨_, upd_same, rfl⟩
    · exact ⟨o, by rw [upd_ne h]; exact ho, z⟩
  · have ne : p ≠ D := by
      rintro rfl
      rcases g.new p hA with z | z
      · rw [z] at e; cases e
      · exact hI z
    rw [upd_ne ne]
    exact g.stay p o e hI
/-- a list in slot i is changed: what its items and the temps own is given anew -/
theorem AtP.mutS {i : Nat} {U : Type} {r : Rp U} {xs : List U} {A1 A2 : List Addr} (h : AtP F T t G σ H A1 A2) (e : G[i]? = some (.is (rList r) xs)) :
    ∃ D vs B, σ[i]? = some (some (.ref D)) ∧ H D = some (.lst vs) ∧ All3 (r.rel K (A1 ++ A2 ++ F.M0) H) vs xs B ∧ vs.length = xs.length ∧ (B ++ A1).Nodup ∧
      ∀ (ws : List V) (ys : List U) (B' : List Addr) (T' : List Slot) (t' : List V) (A1' : List Addr), All3 (r.rel K (A1 ++ A2 ++ F.M0) H) ws ys B' → AtS K (A1 ++ A2 ++ F.M0) H T' (t'.map some) A1' →
        (B' ++ A1').Nodup → (∀ p, p ∈ B' ++ A1' → p ∈ B ++ A1) → At F T' t' (G.set i (.is (rList r) ys)) σ (upd H D (.lst ws)) := by
  obtain ⟨x, C, P1, P2, e1, ⟨v, ev, D, vs, B, ed, hD, hA, eC⟩, eA, back⟩ := h.loc.at_ e
  subst ev ed eC eA
  have nd := h.good.nd
  refine ⟨D, vs, B, e1, hD, hA, hA.length, by simp only [List.cons_append, List.nodup_append, List.nodup_cons, List.mem_cons, List.mem_append] at *; grind, fun ws ys B' T' t' A1' h1 h2 nd' sub => ?_⟩
  have hM : ∀ x, x ∈ A1' ++ (P1 ++ ((D :: B') ++ P2)) ++ F.M0 → x ∈ A1 ++ (P1 ++ ((D :: B) ++ P2)) ++ F.M0 ∨ H x = none := fun x hx => .inl (by
    have := sub x
    simp only [List.cons_append, List.mem_cons, List.mem_append] at *
    grind)
  have hMD : D ∈ A1' ++ (P1 ++ ((D :: B') ++ P2)) ++ F.M0 := by simp
  have hDB : D ∉ B' ++ A1' := fun z => by
    have := sub D z
    simp only [List.cons_append, List.nodup_append, List.nodup_cons, List.mem_cons, List.mem_append] at *
    grind
  have hDP : D ∉ P1 ++ P2 := fun z => by
    simp only [List.cons_append, List.nodup_append, List.nodup_cons, List.mem_cons, List.mem_append] at *
    grind
  refine ⟨A1', P1 ++ ((D :: B') ++ P2), (h2.grow hM).keep (keep_upd hD hMD fun z => hDB (List.mem_append_right _ z)), ?_, good_upd h.good hD (by simp) ?_ fun p hp => ?_⟩
  · have z := back (A1' ++ (P1 ++ ((D :: B') ++ P2)) ++ F.M0) (upd H D (.lst ws)) (.is (rList r) ys) (some (.ref D)) (D :: B')
      (fun h sub => Slot.ok_keep (Slot.ok_grow h hM) (keep_upd hD hMD fun z => hDP (by
        rcases sub D z with q | q
        · exact List.mem_append_left _ q
        · exact List.mem_append_right _ q)))
      ⟨_, rfl, D, ws, B', rfl, upd_same, h1.imp fun v a C hC hr => r.keep (r.grow hr hM) (keep_upd hD hMD fun z => hDB (List.mem_append_left _ (hC D z))), rfl⟩
    rwa [set_self e1] at z
  · have hsub := sub
    simp only [List.cons_append, List.nodup_append, List.nodup_cons, List.mem_cons, List.mem_append] at *
    grind
  · have := sub p
    simp only [List.cons_append, List.mem_cons, List.mem_append] at *
    grind
/-- a thing at the end of a list in a slot -/
theorem At.appendS {i : Nat} {U : Type} {r : Rp U} {xs : List U} {y : U} {v : V} (h : At F (.is r y :: T) (v :: t) G σ H) (e : G[i]? = some (.is (rList r) xs)) :
    ∃ D vs, σ[i]? = some (some (.ref D)) ∧ H D = some (.lst vs) ∧ vs.length = xs.length ∧ At F T t (G.set i (.is (rList r) (xs ++ [y]))) σ (upd H D (.lst (vs ++ [v]))) := by
  obtain ⟨A1, A2, h⟩ := h
  obtain ⟨D, vs, B, e1, hD, hA, hl, nd0, k⟩ := h.mutS e
  obtain ⟨C, A', eA, ⟨v', ev, hr⟩, ht⟩ := AtS.cons_inv h.tmp
  cases ev
  refine ⟨D, vs, e1, hD, hl, k (vs ++ [v]) (xs ++ [y]) (B ++ (C ++ [])) T t A' (hA.append (.cons hr .nil)) ht ?_ fun p hp => ?_⟩
  · rw [eA] at nd0
    simpa using nd0
  · rw [eA]
    simpa using hp
/-- the same where the list is a temp -/
theorem AtP.mutT {U : Type} {r : Rp U} {xs : List U} {D : Addr} {A1 A2 : List Addr} (h : AtP F (.is (rList r) xs :: T) (.ref D :: t) G σ H A1 A2) :
    ∃ vs B A', A1 = (D :: B) ++ A' ∧ H D = some (.lst vs) ∧ All3 (r.rel K (A1 ++ A2 ++ F.M0) H) vs xs B ∧ vs.length = xs.length ∧ AtS K (A1 ++ A2 ++ F.M0) H T (t.map some) A' := by
  obtain ⟨C, A', eA, ⟨v', ev, p, vs, B, ed, hD, hA, eC⟩, ht⟩ := AtS.cons_inv h.tmp
  cases ev
  cases ed
  subst eC
  exact ⟨vs, B, A', eA, hD, hA, hA.length, ht⟩
theorem At.appendT {U : Type} {r : Rp U} {xs : List U} {y : U} {v : V} {D : Addr} (h : At F (.is r y :: .is (rList r) xs :: T) (v :: .ref D :: t) G σ H) :
    ∃ vs, H D = some (.lst vs) ∧ vs.length = xs.length ∧ At F (.is (rList r) (xs ++ [y]) :: T) (.ref D :: t) G σ (upd H D (.lst (vs ++ [v]))) := by
  obtain ⟨A1, A2, h⟩ := h
  obtain ⟨C, A', eA, ⟨v', ev, hr⟩, ht⟩ := AtS.cons_inv h.tmp
  obtain ⟨C', A'', eA', ⟨v2, ev2, p, vs, B, ed, hD, hA, eC⟩, ht'⟩ := AtS.cons_inv ht
  cases ev
  cases ev2
  cases ed
  subst eA eA' eC
  have nd := h.good.nd
  have hM : ∀ x, x ∈ (D :: (B ++ (C ++ []))) ++ A'' ++ A2 ++ F.M0 → x ∈ C ++ ((D :: B) ++ A'') ++ A2 ++ F.M0 ∨ H x = none := fun x hx => .inl (by
    simp only [List.cons_append, List.mem_cons, List.mem_append, List.append_nil] at *
    grind)
  have hMD : D ∈ (D :: (B ++ (C ++ []))) ++ A'' ++ A2 ++ F.M0 := by simp
  have ndx : D ∉ B ∧ D ∉ C ∧ D ∉ A'' ∧ D ∉ A2 := by
    simp only [List.cons_append, List.nodup_append, List.nodup_cons, List.mem_cons, List.mem_append] at nd
    grind
  refine ⟨vs, hD, hA.length, (D :: (B ++ (C ++ []))) ++ A'', A2, .cons ⟨_, rfl, D, vs ++ [v], B ++ (C ++ []), rfl, upd_same, ?_, rfl⟩ ?_, ?_, good_upd h.good hD (by simp) ?_ fun p hp => ?_⟩
  · refine All3.imp (hA.append (.cons hr .nil)) fun w a E hE hw => r.keep (r.grow hw hM) (keep_upd hD hMD fun z => ?_)
    have := hE D z
    simp only [List.append_nil, List.mem_append] at this
    grind
  · exact (ht'.grow hM).keep (keep_upd hD hMD ndx.2.2.1)
  · exact (h.loc.grow hM).keep (keep_upd hD hMD ndx.2.2.2)
  · simp only [List.cons_append, List.nodup_append, List.nodup_cons, List.mem_cons, List.mem_append, List.append_nil] at *
    grind
  · simp only [List.cons_append, List.mem_cons, List.mem_append, List.append_nil] at *
    grind
/-- all pushed -/
theorem AtP.pushAll {U : Type} {r : Rp U} {A1 A2 : List Addr} : ∀ {vs : List V} {as : List U} {A : List Addr}, All3 (r.rel K (A1 ++ A2 ++ F.M0) H) vs as A → A = [] → ∀ {T : List Slot} {t : List V}, AtP F T t G σ H A1 A2 → AtP F (pend r as ++ T) (vs.reverse ++ t) G σ H A1 A2 := by
  intro vs as A h
  induction h with
  | nil => intro _ T t h0; exact h0
  | @cons v a B vs as A h ht ih =>
    intro e T t h0
    have e1 : B = [] := (List.append_eq_nil_iff.mp e).1
    have e2 : A = [] := (List.append_eq_nil_iff.mp e).2
    subst e1
    have z := ih e2 (h0.pushM h)
    simpa [pend] using z
theorem cp_all {U : Type} {r : Rp U} (c : r.Cp) {M : List Addr} {vs : List V} {as : List U} {A : List Addr} (h : All3 (r.rel K M H) vs as A) : A = [] := by
  induction h with
  | nil => rfl
  | cons h t ih => rw [c h, ih]; rfl
theorem sh_all {U : Type} {r : Rp U} {M : List Addr} {vs : List V} {as : List U} {A : List Addr} (h : All3 (r.rel K M H) vs as A) (hA : ∀ p, p ∈ A → p ∉ M) : All3 ((sh r).rel K M H) vs as [] := by
  induction h with
  | nil => exact .nil
  | @cons v a B vs as A h t ih =>
    exact .cons (B := []) ⟨rfl, B, h, fun p hp => hA p (List.mem_append_left _ hp)⟩ (ih fun p hp => hA p (List.mem_append_right _ hp))
/-- a new list of things that own nothing, the arguments used up -/
theorem AtP.newL {L : List Arg} {ts vs : List V} {A1 A2 : List Addr} (h : AtP F ((tmps L).reverse ++ T) (ts.reverse ++ t) G σ H A1 A2) (av : ArgV σ L ts vs) {U : Type} {r : Rp U} {as : List U} {ws : List V} (hr : All3 (r.rel K (A1 ++ A2 ++ F.M0) H) ws as []) {p : Addr} (hp : H p = none) :
    At F (.is (rList r) as :: T) (.ref p :: t) G σ (upd H p (.lst ws)) := by
  have z := h.pushAll hr rfl
  exact At.dropU (by simp [(argV_len av).2]) (At.lst ⟨A1, A2, z⟩ hr.length hp)
end

/-! ### displays of lists -/
def GL {K : PySem.W.Frag} {S : Type} (F : FC K S) {U : Type} (ta : TA) (G G' : S → List Slot) (r : Rp U) (m : SM S (List U)) : Prop :=
  ∀ (T : List Slot) (t : List V) (σ : L2.St) (s : S) (H : Hp) (Q : List V → Hp → Prop), At F T t (G s) σ H →
    (m s).wp (fun as s' => ∀ vs H', At F (pend r as ++ T) (vs.reverse ++ t) (G' s') σ H' → vs.length = as.length → Q vs H') (XP F σ) → ta σ H Q
structure EL (X : Cx) {S : Type} (F : FC X.K S) {U : Type} (es : List Expr) (ta : TA) (G G' : S → List Slot) (r : Rp U) (m : SM S (List U)) : Prop where
  pa : PA X es ta
  go : GL F ta G G' r m
section
variable {X : Cx} {S : Type} {F : FC X.K S} {U W Z : Type} {r r1 : Rp U} {r2 : Rp W} {r3 : Rp Z} {e a b : Expr} {es : List Expr} {te ta tb : TE} {tr : TA} {G G1 G2 G' : S → List Slot} {m m1 : SM S U} {m2 : SM S W} {ml : SM S (List U)} {pos : Pos} {arg : U → Arg} {argW : W → Arg}
theorem el_nil : EL X F [] tNil G G r (ret []) := ⟨pa_nil, fun T t σ s H Q h q => q [] H (by simpa [pend] using h) rfl⟩
theorem el_cons (h1 : EX X F e te G G1 r m1) (h2 : EL X F es tr G1 G2 r ml) (hs : PySem.W.isStarred e = false := by rfl) : EL X F (e :: es) (tCons te tr) G G2 r (bnd m1 fun a => bnd ml fun l => ret (a :: l)) :=
  ⟨pa_cons h1.pe h2.pa (star1 hs), fun T t σ s H Q h q => by
    refine h1.go T t σ s H _ h (wp_mono (wp_bnd q) (fun a s1 q1 v H1 at1 => ?_) fun _ _ z => z)
    refine h2.go _ _ σ s1 H1 _ at1 (wp_mono (wp_bnd q1) (fun l s2 q2 vs H2 at2 hl => ?_) fun _ _ z => z)
    exact q2 (v :: vs) H2 (by simpa [pend] using at2) (by simp [hl])⟩
/-- *e: the items own nothing -/
theorem el_star {p : Pos} {xs : W → List U} (h1 : EO X F e te G G1 argW m2) (c : r.Cp) (hx : ∀ a s, Rdd (G1 s) (argW a) (rList r) (xs a)) (h2 : EL X F es tr G1 G2 r ml) (hs : starEach (.Starred e p :: es) X.env = (true, eval e X.env) :: starEach es X.env := by rfl) :
    EL X F (.Starred e p :: es) (StX.tStar X.K te tr) G G2 r (bnd m2 fun a => bnd ml fun l => ret (xs a ++ l)) :=
  ⟨StX.pa_star h1.pe h2.pa hs, fun T t σ s H Q h q => by
    refine h1.go T t σ s H _ h (wp_mono (wp_bnd q) (fun a s1 q1 ts v H1 at1 av => ?_) fun _ _ z => z)
    obtain ⟨A1, A2, at1⟩ := at1
    obtain ⟨v', B, e1, p, vs, A, ev, hp, hA, eB⟩ := rddM (j := 0) at1 av rfl (hx a s1)
    cases e1
    have eA := cp_all c hA
    subst eA
    refine ⟨p, vs, ev, .inr (SqL.of hp), ?_⟩
    have at2 := at1.pushAll hA rfl
    have at3 : At F (pend r (xs a) ++ T) (vs.reverse ++ t) (G1 s1) σ H1 := At.dropM (by rw [List.length_reverse, pend_len, hA.length]) (by simp [(argV_len av).2]) ⟨A1, A2, at2⟩
    refine h2.go _ _ σ s1 H1 _ at3 (wp_mono (wp_bnd q1) (fun l s2 q2 ws H2 at4 hl => ?_) fun _ _ z => z)
    exact q2 (vs ++ ws) H2 (by simpa [pend] using at4) (by simp [hl, hA.length])⟩
end
end Td

set_option Elab.async false
set_option linter.all false
set_option maxRecDepth 100000
set_option maxHeartbeats 4000000
namespace Td
open PySem PySem.Spec PyProof.Rows L2

section
variable {X : Cx} {S : Type} {F : FC X.K S} {U W Z : Type} {r r1 : Rp U} {r2 : Rp W} {r3 : Rp Z} {e a b : Expr} {es : List Expr} {te ta tb : TE} {tr : TA} {G G1 G2 G' : S → List Slot} {m m1 : SM S U} {m2 : SM S W} {ml : SM S (List U)} {pos p0 : Pos} {arg : U → Arg} {argW : W → Arg}
def lenG {S T : Type} (xs : List T) : SM S Unit := grd (xs.length ≤ sizeLine)
theorem ex_lst (h : EL X F es tr G G' r ml) : EX X F (.List es pos) (tLst tr) G G' (rList r) (bnd ml fun xs => bnd (lenG xs) fun _ => ret xs) :=
  ⟨pe_lst h.pa, fun T t σ s H Q h0 q => h.go T t σ s H _ h0 (wp_mono (wp_bnd q) (fun xs s1 q1 vs H1 at1 hl => by
    obtain ⟨hz, q1⟩ := wp_grd (wp_bnd q1)
    exact ⟨by rw [hl]; exact hz, fun p hp => q1 _ _ (at1.lst hl hp)⟩) fun _ _ z => z)⟩
/-- one argument read -/
theorem go_call1 {rr : List V → Hp → VK → Prop} {f : U → SM S Z} (h : GO F te G G' arg m) (hf : ∀ a, Stl (f a))
    (hv : ∀ (a : U) (s : S) (T : List Slot) (t ts : List V) (v : V) (σ : L2.St) (H : Hp) (Q : VK) (A1 A2 : List Addr), AtP F ((tmps [arg a]).reverse ++ T) (ts.reverse ++ t) (G' s) σ H A1 A2 → ArgV σ [arg a] ts [v] →
      (f a s).wp (fun c s' => s' = s ∧ ∀ u H', At F (.is r3 c :: T) (u :: t) (G' s) σ H' → Q u H') (fun _ _ => True) → rr [v] H Q) : GE F (tCB rr (tCons te tNil)) G G' r3 (bnd m f) := by
  intro T t σ s H Q h0 q
  refine h T t σ s H _ h0 (wp_mono (wp_bnd q) (fun a s1 q1 ts v H1 at1 av => ?_) fun _ _ z => z)
  obtain ⟨A1, A2, at1⟩ := at1
  refine hv a s1 T t ts v σ H1 Q A1 A2 at1 av (wp_mono ((hf a).wp (E' := fun _ _ => True) q1) (fun c s2 q2 => ?_) fun _ _ _ => trivial)
  obtain ⟨e, q2⟩ := q2
  subst e
  exact ⟨rfl, q2⟩
theorem ex_callB1 {id : String} {x : Str} {rr : List V → Hp → VK → Prop} {f : U → SM S Z} (hc : CallR X (.builtin id) rr) (hg : Gl X x) (hm : X.mg x = none) (hv : bootBuiltins x = some (.builtin id)) (h : EO X F e te G G' arg m) (hgo : GE F (tCB rr (tCons te tNil)) G G' r3 (bnd m f))
    (hs : PySem.W.isStarred e = false := by rfl) (hn : x ≠ "__name__" := by decide) (hdb : (x == ("__debug__" : Str)) = false := by decide) : EX X F (.Call (.Name x p0) [e] [] pos) (tCB rr (tCons te tNil)) G G' r3 (bnd m f) :=
  ⟨pe_callB hc hg hm hv (pa_cons h.pe pa_nil (star1 hs)) hn hdb (star1 hs), hgo⟩
theorem ex_len {xs : U → List Z} (h : EO X F e te G G' arg m) (hx : ∀ a s, Rdd (G' s) (arg a) (rList r3) (xs a)) (hg : Gl X "len") (hm : X.mg "len" = none) (hs : PySem.W.isStarred e = false := by rfl) :
    EX X F (.Call (.Name "len" p0) [e] [] pos) (tCB (fun xs H Q => ∃ p ys, xs = [.ref p] ∧ (SqL X.K H p ys ∨ SqT X.K H p ys) ∧ Q (.int ys.length) H) (tCons te tNil)) G G' rInt (bnd m fun a => ret ((xs a).length : Int)) :=
  ex_callB1 call_len_seq hg hm PySem.boot_len h (go_call1 h.go (fun _ => stl_ret _) fun a s T t ts v σ H Q A1 A2 at1 av q => by
    obtain ⟨v', B, e1, p, vs, A, ev, hp, hA, eB⟩ := rddM (j := 0) at1 av rfl (hx a s)
    cases e1
    obtain ⟨_, q⟩ := q
    exact ⟨p, vs, by rw [ev], .inl (SqL.of hp), q _ H (at1.fin av ⟨by rw [hA.length], rfl⟩)⟩) hs
theorem ex_lenT {xs : U → List Z} (h : EO X F e te G G' arg m) (hx : ∀ a s, Rdd (G' s) (arg a) (rTupL r3) (xs a)) (hg : Gl X "len") (hm : X.mg "len" = none) (hs : PySem.W.isStarred e = false := by rfl) :
    EX X F (.Call (.Name "len" p0) [e] [] pos) (tCB (fun xs H Q => ∃ p ys, xs = [.ref p] ∧ (SqL X.K H p ys ∨ SqT X.K H p ys) ∧ Q (.int ys.length) H) (tCons te tNil)) G G' rInt (bnd m fun a => ret ((xs a).length : Int)) :=
  ex_callB1 call_len_seq hg hm PySem.boot_len h (go_call1 h.go (fun _ => stl_ret _) fun a s T t ts v σ H Q A1 A2 at1 av q => by
    obtain ⟨v', B, e1, p, vs, ev, hp, hA⟩ := rddM (j := 0) at1 av rfl (hx a s)
    cases e1
    obtain ⟨_, q⟩ := q
    exact ⟨p, vs, by rw [ev], .inr hp, q _ H (at1.fin av ⟨by rw [hA.length], rfl⟩)⟩) hs
/-- list(xs): a new list of things that own nothing -/
theorem ex_list {xs : U → List Z} (h : EO X F e te G G' arg m) (c : r3.Cp) (hx : ∀ a s, Rdd (G' s) (arg a) (rList r3) (xs a)) (hg : Gl X "list") (hm : X.mg "list" = none) (hs : PySem.W.isStarred e = false := by rfl) :
    EX X F (.Call (.Name "list" p0) [e] [] pos) (tCB (fun xs H Q => ∃ p ys, xs = [.ref p] ∧ (SqL X.K H p ys ∨ SqT X.K H p ys) ∧ ∀ l, H l = none → Q (.ref l) (upd H l (.lst ys))) (tCons te tNil)) G G' (rList r3) (bnd m fun a => ret (xs a)) :=
  ⟨pe_callTy call_list_of hg hm PyProof.Rows.boot_list (pa_cons h.pe pa_nil (star1 hs)) (he := star1 hs), go_call1 h.go (fun _ => stl_ret _) fun a s T t ts v σ H Q A1 A2 at1 av q => by
    obtain ⟨v', B, e1, p, vs, A, ev, hp, hA, eB⟩ := rddM (j := 0) at1 av rfl (hx a s)
    cases e1
    obtain ⟨_, q⟩ := q
    have eA := cp_all c hA
    subst eA
    exact ⟨p, vs, by rw [ev], .inl (SqL.of hp), fun l hl => q _ _ (at1.newL av hA hl)⟩⟩
theorem ex_listT {xs : U → List Z} (h : EO X F e te G G' arg m) (c : r3.Cp) (hx : ∀ a s, Rdd (G' s) (arg a) (rTupL r3) (xs a)) (hg : Gl X "list") (hm : X.mg "list" = none) (hs : PySem.W.isStarred e = false := by rfl) :
    EX X F (.Call (.Name "list" p0) [e] [] pos) (tCB (fun xs H Q => ∃ p ys, xs = [.ref p] ∧ (SqL X.K H p ys ∨ SqT X.K H p ys) ∧ ∀ l, H l = none → Q (.ref l) (upd H l (.lst ys))) (tCons te tNil)) G G' (rList r3) (bnd m fun a => ret (xs a)) :=
  ⟨pe_callTy call_list_of hg hm PyProof.Rows.boot_list (pa_cons h.pe pa_nil (star1 hs)) (he := star1 hs), go_call1 h.go (fun _ => stl_ret _) fun a s T t ts v σ H Q A1 A2 at1 av q => by
    obtain ⟨v', B, e1, p, vs, ev, hp, hA⟩ := rddM (j := 0) at1 av rfl (hx a s)
    cases e1
    obtain ⟨_, q⟩ := q
    have eA := cp_all c hA
    subst eA
    exact ⟨p, vs, by rw [ev], .inr hp, fun l hl => q _ _ (at1.newL av hA hl)⟩⟩
/-- calls of built-ins on plain values -/
theorem go_callP1 {rr : List V → Hp → VK → Prop} {f : U → SM S Z} (h : GE F te G G' r m) (hf : ∀ a, Stl (f a)) (hv : VO1 X.K S r r3 (fun v H Q => rr [v] H Q) f) : GE F (tCB rr (tCons te tNil)) G G' r3 (bnd m f) := by
  intro T t σ s H Q h0 q
  refine h T t σ s H _ h0 (wp_mono (wp_bnd q) (fun a s1 q1 v H1 at1 => ?_) fun _ _ z => z)
  obtain ⟨M, B, k⟩ := top_rel at1
  refine hv a v M B H1 Q s1 k (wp_mono ((hf a).wp q1) (fun c s2 q2 e u hu => ?_) fun _ _ z => z)
  exact q2.2 u H1 (at1.pop.push hu)
theorem go_callP2 {rr : List V → Hp → VK → Prop} {f : U → W → SM S Z} (h1 : GE F ta G G1 r m) (h2 : GE F tb G1 G2 r2 m2) (hf : ∀ a b, Stl (f a b)) (hv : VO2 X.K S r r2 r3 (fun v w H Q => rr [v, w] H Q) f) : GE F (tCB rr (tCons ta (tCons tb tNil))) G G2 r3 (bnd m fun a => bnd m2 fun b => f a b) := by
  intro T t σ s H Q h0 q
  refine h1 T t σ s H _ h0 (wp_mono (wp_bnd q) (fun a s1 q1 v H1 at1 => ?_) fun _ _ z => z)
  refine h2 _ _ σ s1 H1 _ at1 (wp_mono (wp_bnd q1) (fun b s2 q2 w H2 at2 => ?_) fun _ _ z => z)
  obtain ⟨M1, B1, k1⟩ := snd_rel at2
  obtain ⟨M2, B2, k2⟩ := top_rel at2
  refine hv a b v w M1 B1 M2 B2 H2 Q s2 k1 k2 (wp_mono ((hf a b).wp q2) (fun c s3 q3 e u hu => ?_) fun _ _ z => z)
  exact q3.2 u H2 (fin2 at2 hu)
end
section
variable {X : Cx} {S : Type} {F : FC X.K S} {e a b : Expr} {te ta tb : TE} {G G1 G2 G' : S → List Slot} {m m1 m2 : SM S Int} {mb : SM S Bool} {pos p0 : Pos}
theorem ex_abs (h : EX X F e te G G' rInt m) (hg : Gl X "abs") (hm : X.mg "abs" = none) (hs : PySem.W.isStarred e = false := by rfl) :
    EX X F (.Call (.Name "abs" p0) [e] [] pos) (tCB (fun xs H Q => ∃ i, xs = [.int i] ∧ Q (.int (if i < 0 then -i else i)) H) (tCons te tNil)) G G' rInt (bnd m fun i => ret (if i < 0 then -i else i)) :=
  ⟨pe_callB call_abs hg hm PyProof.Rows.boot_abs (pa_cons h.pe pa_nil (star1 hs)) (he := star1 hs), go_callP1 h.go (fun _ => stl_ret _) fun a v M B H Q s k q => ⟨a, by rw [k.1], q rfl _ fun _ => ⟨rfl, rfl⟩⟩⟩
theorem ex_intI (h : EX X F e te G G' rInt m) (hg : Gl X "int") (hm : X.mg "int" = none) (hs : PySem.W.isStarred e = false := by rfl) :
    EX X F (.Call (.Name "int" p0) [e] [] pos) (tCB (fun xs H Q => (∃ i, xs = [.int i] ∧ Q (.int i) H) ∨ ∃ k, xs = [.bl k] ∧ Q (.int (if k then 1 else 0)) H) (tCons te tNil)) G G' rInt (bnd m fun i => ret i) :=
  ⟨pe_callTy call_int1 hg hm PyProof.Rows.boot_int (pa_cons h.pe pa_nil (star1 hs)) (he := star1 hs), go_callP1 h.go (fun _ => stl_ret _) fun a v M B H Q s k q => .inl ⟨a, by rw [k.1], q rfl _ fun _ => ⟨rfl, rfl⟩⟩⟩
theorem ex_intB (h : EX X F e te G G' rBool mb) (hg : Gl X "int") (hm : X.mg "int" = none) (hs : PySem.W.isStarred e = false := by rfl) :
    EX X F (.Call (.Name "int" p0) [e] [] pos) (tCB (fun xs H Q => (∃ i, xs = [.int i] ∧ Q (.int i) H) ∨ ∃ k, xs = [.bl k] ∧ Q (.int (if k then 1 else 0)) H) (tCons te tNil)) G G' rInt (bnd mb fun k => ret (if k then 1 else 0)) :=
  ⟨pe_callTy call_int1 hg hm PyProof.Rows.boot_int (pa_cons h.pe pa_nil (star1 hs)) (he := star1 hs), go_callP1 h.go (fun _ => stl_ret _) fun a v M B H Q s k q => .inr ⟨a, by rw [k.1], q rfl _ fun _ => ⟨rfl, rfl⟩⟩⟩
theorem ex_max2 (h1 : EX X F a ta G G1 rInt m1) (h2 : EX X F b tb G1 G2 rInt m2) (hg : Gl X "max") (hm : X.mg "max" = none) (hc : X.calm = true := by rfl) (hs : PySem.W.isStarred a = false := by rfl) (hs2 : PySem.W.isStarred b = false := by rfl) :
    EX X F (.Call (.Name "max" p0) [a, b] [] pos) (tCB (fun xs H Q => ∃ i j, xs = [.int i, .int j] ∧ Q (.int (if j > i then j else i)) H) (tCons ta (tCons tb tNil))) G G2 rInt (bnd m1 fun i => bnd m2 fun j => ret (if j > i then j else i)) :=
  ⟨pe_callB (call_max2 hc) hg hm PyProof.Rows.boot_max (pa_cons h1.pe (pa_cons h2.pe pa_nil (star1 hs2)) (star1 hs)) (he := star1 hs) (hpl := by rw [star1 hs2]; rfl), go_callP2 h1.go h2.go (fun _ _ => stl_ret _) fun a b v w M B M' B' H Q s k k' q => ⟨a, b, by rw [k.1, k'.1], q rfl _ fun _ => ⟨rfl, rfl⟩⟩⟩
theorem ex_min2 (h1 : EX X F a ta G G1 rInt m1) (h2 : EX X F b tb G1 G2 rInt m2) (hg : Gl X "min") (hm : X.mg "min" = none) (hc : X.calm = true := by rfl) (hs : PySem.W.isStarred a = false := by rfl) (hs2 : PySem.W.isStarred b = false := by rfl) :
    EX X F (.Call (.Name "min" p0) [a, b] [] pos) (tCB (fun xs H Q => ∃ i j, xs = [.int i, .int j] ∧ Q (.int (if j < i then j else i)) H) (tCons ta (tCons tb tNil))) G G2 rInt (bnd m1 fun i => bnd m2 fun j => ret (if j < i then j else i)) :=
  ⟨pe_callB (call_min2 hc) hg hm PyProof.Rows.boot_min (pa_cons h1.pe (pa_cons h2.pe pa_nil (star1 hs2)) (star1 hs)) (he := star1 hs) (hpl := by rw [star1 hs2]; rfl), go_callP2 h1.go h2.go (fun _ _ => stl_ret _) fun a b v w M B M' B' H Q s k k' q => ⟨a, b, by rw [k.1, k'.1], q rfl _ fun _ => ⟨rfl, rfl⟩⟩⟩
/-- unary minus -/
theorem ex_neg (h : EX X F e te G G' rInt m) : EX X F (.UnaryOp .USub e pos) (tUn (rU fun i => .int (-i)) te) G G' rInt (bnd m fun i => ret (-i)) :=
  ⟨pe_un un_neg h.pe, fun T t σ s H Q h0 q => h.go T t σ s H _ h0 (wp_mono (wp_bnd q) (fun i s1 q1 v H1 at1 => by
    obtain ⟨M, B, k, _⟩ := top_rel at1
    exact ⟨i, k, q1 _ H1 (at1.pop.push fun _ => ⟨rfl, rfl⟩)⟩) fun _ _ z => z)⟩
end

/-! ### things that are walked -/
structure Src {K : PySem.W.Frag} {S : Type} (F : FC K S) (C : List Slot → Prop) (J : It) (g : List Slot) (hv : List V) {A : Type} (rx : Rp A) (xs : List A) : Prop where
  len : hv.length = g.length
  go : ∀ {i T1 t1 T t G σ H}, C G → t1.length = T1.length → At F (T1 ++ (g ++ T)) (t1 ++ (hv ++ t)) G σ H → i < xs.length → J.go i H
  stop : ∀ {i T1 t1 T t G σ H}, C G → t1.length = T1.length → At F (T1 ++ (g ++ T)) (t1 ++ (hv ++ t)) G σ H → xs.length ≤ i → J.stop i H
  yld : ∀ {i a x T1 t1 T t G σ H H'}, C G → t1.length = T1.length → At F (T1 ++ (g ++ T)) (t1 ++ (hv ++ t)) G σ H → J.yld i H x H' → xs[i]? = some a → At F (.is rx a :: (T1 ++ (g ++ T))) (x :: (t1 ++ (hv ++ t))) G σ H'
def GI {K : PySem.W.Frag} {S : Type} (F : FC K S) {A : Type} (wi : TI) (G G' : S → List Slot) (C : List Slot → Prop) (rx : Rp A) (m : SM S (List A)) : Prop :=
  ∀ (T : List Slot) (t : List V) (σ : L2.St) (s : S) (H : Hp) (R : It → Hp → Prop), At F T t (G s) σ H →
    (m s).wp (fun xs s' => ∀ J g hv H', Src F C J g hv rx xs → At F (g ++ T) (hv ++ t) (G' s') σ H' → R J H') (XP F σ) → wi σ H R
structure EI (X : Cx) {S : Type} (F : FC X.K S) {A : Type} (tg e : Expr) (wi : TI) (G G' : S → List Slot) (C : List Slot → Prop) (rx : Rp A) (m : SM S (List A)) : Prop where
  pi : PI X tg e wi
  go : GI F wi G G' C rx m
section
variable {K : PySem.W.Frag} {S : Type} {F : FC K S} {T : List Slot} {t : List V} {G : List Slot} {σ : L2.St} {H : Hp} {A : Type} {rx : Rp A} {xs : List A}
theorem rev_get' {T : Type _} (l1 l2 : List T) (k : Nat) : (l1 ++ l2)[l1.length + k]? = l2[k]? := by
  rw [List.getElem?_append_right (by omega)]
  congr 1; omega
/-- a held temp, wherever it stands -/
theorem held {T1 : List Slot} {t1 : List V} {g : Slot} {v : V} {A1 A2 : List Addr} (e : t1.length = T1.length) (h : AtP F (T1 ++ ([g] ++ T)) (t1 ++ ([v] ++ t)) G σ H A1 A2) : ∃ B, g.ok K (A1 ++ A2 ++ F.M0) H (some v) B := by
  obtain ⟨x, B, e1, h1, _⟩ := h.tmp.mem (i := T1.length + 0) (g := g) (by rw [rev_get']; rfl)
  rw [List.map_append, show T1.length + 0 = (t1.map some).length + 0 by rw [List.length_map, e], rev_get'] at e1
  cases e1
  exact ⟨B, h1⟩
/-- a shared list -/
theorem src_sh {a : Addr} (c : rx.Cp) : Src F (fun _ => True) (Itl K a) [.is (sh (rList rx)) xs] [.ref a] rx xs where
  len := rfl
  go := by
    intro i T1 t1 T t G σ H _ e h hi
    obtain ⟨A1, A2, h⟩ := h
    obtain ⟨B, v, ev, _, C, ⟨p, vs, A, ep, hp, hA, _⟩, _⟩ := held e h
    cases ev
    cases ep
    have hi' : i < vs.length := by rw [hA.length]; exact hi
    exact ⟨vs, vs[i], SqL.of hp, List.getElem?_eq_getElem hi'⟩
  stop := by
    intro i T1 t1 T t G σ H _ e h hi
    obtain ⟨A1, A2, h⟩ := h
    obtain ⟨B, v, ev, _, C, ⟨p, vs, A, ep, hp, hA, _⟩, _⟩ := held e h
    cases ev
    cases ep
    exact ⟨vs, SqL.of hp, by rw [hA.length]; exact hi⟩
  yld := by
    intro i a x T1 t1 T t G σ H H' _ e h hy ha
    obtain ⟨A1, A2, h⟩ := h
    obtain ⟨B, v, ev, _, C, ⟨p, vs, A, ep, hp, hA, _⟩, _⟩ := held e h
    cases ev
    cases ep
    obtain ⟨rfl, hy⟩ := hy
    obtain ⟨w, D, e1, hr, _⟩ := hA.get' ha
    have e2 := hy vs (SqL.of hp)
    rw [e1] at e2
    cases e2
    have eD := c hr
    subst eD
    exact ⟨A1, A2, h.pushM hr⟩
theorem src_shS {a : Addr} : Src F (fun _ => True) (Itl K a) [.is (sh (rList rx)) xs] [.ref a] (sh rx) xs where
  len := rfl
  go := by
    intro i T1 t1 T t G σ H _ e h hi
    obtain ⟨A1, A2, h⟩ := h
    obtain ⟨B, v, ev, _, C, ⟨p, vs, A, ep, hp, hA, _⟩, _⟩ := held e h
    cases ev
    cases ep
    have hi' : i < vs.length := by rw [hA.length]; exact hi
    exact ⟨vs, vs[i], SqL.of hp, List.getElem?_eq_getElem hi'⟩
  stop := by
    intro i T1 t1 T t G σ H _ e h hi
    obtain ⟨A1, A2, h⟩ := h
    obtain ⟨B, v, ev, _, C, ⟨p, vs, A, ep, hp, hA, _⟩, _⟩ := held e h
    cases ev
    cases ep
    exact ⟨vs, SqL.of hp, by rw [hA.length]; exact hi⟩
  yld := by
    intro i a x T1 t1 T t G σ H H' _ e h hy ha
    obtain ⟨A1, A2, h⟩ := h
    obtain ⟨B, v, ev, _, C, ⟨p, vs, A, ep, hp, hA, eC⟩, hC⟩ := held e h
    cases ev
    cases ep
    obtain ⟨rfl, hy⟩ := hy
    obtain ⟨w, D, e1, hr, sub⟩ := hA.get' ha
    have e2 := hy vs (SqL.of hp)
    rw [e1] at e2
    cases e2
    exact ⟨A1, A2, h.pushM (r := sh rx) ⟨rfl, D, hr, fun x hx => hC x (by rw [eC]; exact List.mem_cons_of_mem _ (sub x hx))⟩⟩
/-- lo, lo + 1, .. -/
def upto (lo : Int) (n : Nat) : List Int := (List.range n).map fun (i : Nat) => lo + (i : Int)
theorem upto_len (lo : Int) (n : Nat) : (upto lo n).length = n := by simp [upto]
theorem upto_get {lo : Int} {n i : Nat} {a : Int} (h : (upto lo n)[i]? = some a) : a = lo + (i : Int) := by
  unfold upto at h
  rw [List.getElem?_map] at h
  cases e : (List.range n)[i]? with
  | none => rw [e] at h; cases h
  | some j =>
    rw [e] at h
    have e2 : j = i := by
      rw [List.getElem?_range] at e
      · cases e; rfl
      · have := (List.getElem?_eq_some_iff.mp e).1
        simpa using this
    subst e2
    exact (Option.some.inj h).symm
theorem src_rng {lo : Int} {n : Nat} : Src F (fun _ => True) (Itr lo n) [] [] rInt (upto lo n) where
  len := rfl
  go := fun _ _ _ hi => by rw [upto_len] at hi; exact hi
  stop := fun _ _ _ hi => by rw [upto_len] at hi; exact hi
  yld := by
    intro i a x T1 t1 T t G σ H H' _ e h hy ha
    obtain ⟨rfl, rfl⟩ := hy
    rw [upto_get ha]
    exact At.push h fun _ => ⟨rfl, rfl⟩
end
end Td

set_option Elab.async false
set_option linter.all false
set_option maxRecDepth 100000
set_option maxHeartbeats 4000000
namespace Td
open PySem PySem.Spec PyProof.Rows L2

/-! ### targets -/
def GG {K : PySem.W.Frag} {S : Type} (F : FC K S) (g : TG) (ws : List Nat) {A : Type} (rx : Rp A) (G : List Slot) (Gt : A → List Slot) : Prop :=
  ∀ (T : List Slot) (t : List V) (σ : L2.St) (H : Hp) (v : V) (a : A) (Q : L2.St → Hp → Prop), At F (.is rx a :: T) (v :: t) G σ H →
    (∀ σ', At F T t (Gt a) σ' H → σ'.length = σ.length → (∀ j, j ∉ ws → σ'[j]? = σ[j]?) → Q σ' H) → g v σ H Q
structure EG (X : Cx) {S : Type} (F : FC X.K S) (tg : Expr) (g : TG) (ws : List Nat) {A : Type} (rx : Rp A) (G : List Slot) (Gt : A → List Slot) : Prop where
  pg : PG X tg g
  go : GG F g ws rx G Gt
section
variable {X : Cx} {S : Type} {F : FC X.K S} {A B C : Type} {rx : Rp A} {ry : Rp B} {rz : Rp C} {G : List Slot} {pos : Pos}
theorem gg_name {K : PySem.W.Frag} {F : FC K S} {i : Nat} {g' : Slot} (e : G[i]? = some g') : GG F (gName i) [i] rx G (fun a => G.set i (.is rx a)) := by
  intro T t σ H v a Q h q
  refine q _ (h.store i e) (by simp) fun j hj => ?_
  rw [List.getElem?_set_ne (by intro z; exact hj (by simp [z]))]
theorem eg_name {i : Nat} {x : Str} {g' : Slot} (e : G[i]? = some g') (hN : X.N.Nodup) (hi : X.N[i]? = some x := by rfl) (hx : Loc X.env.scope x := by first | exact Or.inl rfl | exact Or.inr rfl) (hf : X.fn x = true ∨ X.env.scope.names.lookup x = some .local := by first | exact .inl rfl | exact .inr rfl) :
    EG X F (.Name x pos) (gName i) [i] rx G (fun a => G.set i (.is rx a)) := ⟨pg_name hN hi hx hf, gg_name e⟩
theorem eg_pair {e1 e2 : Expr} {g1 g2 : TG} {w1 w2 : List Nat} {k : Nat} {ws : List Nat} {Gt : A × B → List Slot} {G1 : A → List Slot} {G2 : A → B → List Slot} (hc : X.calm = true) (h1 : EG X F e1 g1 w1 rx G G1) (h2 : ∀ a, EG X F e2 g2 w2 ry (G1 a) (G2 a))
    (ha : Inhabited A) (hws : ws = w1 ++ w2 := by rfl) (hGt : ∀ p, Gt p = G2 p.1 p.2 := by intro _; rfl) (hs1 : (assignEach [e1, e2] X.env).map (·.2) = assign e1 X.env :: (assignEach [e2] X.env).map (·.2) := by rfl) (hs2 : (assignEach [e2] X.env).map (·.2) = assign e2 X.env :: (assignEach [] X.env).map (·.2) := by rfl)
    (hn : (assignEach [e1, e2] X.env).length = 2 := by rfl) (hst : (assignEach [e1, e2] X.env).findIdx? (·.1) = none := by rfl) :
    EG X F (.Tuple [e1, e2] k pos) (gTup X.K 2 (gCons g1 (gCons g2 gNil))) ws (rPair rx ry) G Gt :=
  ⟨pg_tup hc (pgs_cons h1.pg (pgs_cons (h2 ha.default).pg pgs_nil hs2) hs1) hn hst, fun T t σ H v a Q h q => by
    have eG : Gt = fun p => G2 p.1 p.2 := funext hGt
    subst hws eG
    obtain ⟨p, x, y, ev, hT, h⟩ := h.unpair
    refine ⟨p, [x, y], ev, hT, rfl, x, [y], rfl, ?_⟩
    refine h1.go _ _ σ H x a.1 _ h fun σ1 at1 l1 k1 => ?_
    refine ⟨y, [], rfl, ?_⟩
    refine (h2 a.1).go _ _ σ1 H y a.2 _ at1 fun σ2 at2 l2 k2 => ?_
    exact ⟨rfl, q σ2 at2 (l2.trans l1) fun j hj => (k2 j fun z => hj (List.mem_append_right _ z)).trans (k1 j fun z => hj (List.mem_append_left _ z))⟩⟩
theorem eg_pairS {e1 e2 : Expr} {g1 g2 : TG} {w1 w2 : List Nat} {k : Nat} {ws : List Nat} {Gt : A × B → List Slot} {G1 : A → List Slot} {G2 : A → B → List Slot} (hc : X.calm = true) (h1 : EG X F e1 g1 w1 (sh rx) G G1) (h2 : ∀ a, EG X F e2 g2 w2 (sh ry) (G1 a) (G2 a))
    (ha : Inhabited A) (hws : ws = w1 ++ w2 := by rfl) (hGt : ∀ p, Gt p = G2 p.1 p.2 := by intro _; rfl) (hs1 : (assignEach [e1, e2] X.env).map (·.2) = assign e1 X.env :: (assignEach [e2] X.env).map (·.2) := by rfl) (hs2 : (assignEach [e2] X.env).map (·.2) = assign e2 X.env :: (assignEach [] X.env).map (·.2) := by rfl)
    (hn : (assignEach [e1, e2] X.env).length = 2 := by rfl) (hst : (assignEach [e1, e2] X.env).findIdx? (·.1) = none := by rfl) :
    EG X F (.Tuple [e1, e2] k pos) (gTup X.K 2 (gCons g1 (gCons g2 gNil))) ws (sh (rPair rx ry)) G Gt :=
  ⟨pg_tup hc (pgs_cons h1.pg (pgs_cons (h2 ha.default).pg pgs_nil hs2) hs1) hn hst, fun T t σ H v a Q h q => by
    have eG : Gt = fun p => G2 p.1 p.2 := funext hGt
    subst hws eG
    obtain ⟨p, x, y, ev, hT, h⟩ := h.unpairS
    refine ⟨p, [x, y], ev, hT, rfl, x, [y], rfl, ?_⟩
    refine h1.go _ _ σ H x a.1 _ h fun σ1 at1 l1 k1 => ?_
    refine ⟨y, [], rfl, ?_⟩
    refine (h2 a.1).go _ _ σ1 H y a.2 _ at1 fun σ2 at2 l2 k2 => ?_
    exact ⟨rfl, q σ2 at2 (l2.trans l1) fun j hj => (k2 j fun z => hj (List.mem_append_right _ z)).trans (k1 j fun z => hj (List.mem_append_left _ z))⟩⟩
end

/-! ### statements -/
/-- how a block ends: on its end with n, at a return with b, at break or continue with l -/
inductive Fl (N L R : Type) where
  | nx (n : N)
  | rt (b : R)
  | bk (l : L)
  | ct (l : L)
def FlP {K : PySem.W.Frag} {S : Type} (F : FC K S) {N L R : Type} (T : List Slot) (t : List V) (GN : N → S → List Slot) (GL : L → S → List Slot) (r : Rp R) (D : Ends) : Fl N L R → S → Prop
  | .nx n, s => ∀ σ' H', At F T t (GN n s) σ' H' → D.nx σ' H'
  | .ct l, s => ∀ σ' H', At F T t (GL l s) σ' H' → D.ct σ' H'
  | .bk l, s => ∀ σ' H', At F T t (GL l s) σ' H' → D.bk σ' H'
  | .rt b, s => ∀ v σ' H', At F [.is r b] [v] (F.io s) σ' H' → D.rt v H'
def XA {K : PySem.W.Frag} {S : Type} (F : FC K S) (e : Exn) (s : S) : Prop := ∀ σ, XP F σ e s
def GB {K : PySem.W.Frag} {S : Type} (F : FC K S) {N L R : Type} (ts : TS) (G : S → List Slot) (GN : N → S → List Slot) (GL : L → S → List Slot) (r : Rp R) (out : SM S (Fl N L R)) : Prop :=
  ∀ (T : List Slot) (t : List V) (σ : L2.St) (s : S) (H : Hp) (D : Ends), At F T t (G s) σ H → (out s).wp (FlP F T t GN GL r D) (XA F) → ts D σ H
structure BX (X : Cx) {S : Type} (F : FC X.K S) {N L R : Type} (sts : List Stmt) (ts : TS) (G : S → List Slot) (GN : N → S → List Slot) (GL : L → S → List Slot) (r : Rp R) (out : SM S (Fl N L R)) : Prop where
  ps : PSs X sts ts
  go : GB F ts G GN GL r out
def thn_ {S N N' L R : Type} (m : SM S (Fl N L R)) (k : N → SM S (Fl N' L R)) : SM S (Fl N' L R) := bnd m fun fl => match fl with
  | .nx n => k n
  | .rt b => ret (.rt b)
  | .bk l => ret (.bk l)
  | .ct l => ret (.ct l)
/-- a block that does not come to its end -/
def esc {S N L R : Type} (m : SM S (Fl Empty L R)) : SM S (Fl N L R) := bnd m fun fl => match fl with
  | .nx n => n.elim
  | .rt b => ret (.rt b)
  | .bk l => ret (.bk l)
  | .ct l => ret (.ct l)
inductive Lp (L R : Type) where
  | dn (l : L)
  | rt (b : R)
/-- for: the items, the body, the loop's state -/
def forM_ {S A L R : Type} : List A → (L → A → SM S (Fl L L R)) → L → SM S (Lp L R)
  | [], _, l => ret (.dn l)
  | x :: xs, f, l => bnd (f l x) fun fl => match fl with
    | .nx l' => forM_ xs f l'
    | .ct l' => forM_ xs f l'
    | .bk l' => ret (.dn l')
    | .rt b => ret (.rt b)
/-- while: fuel, test, body -/
def whileM_ {S L R : Type} : Nat → (L → SM S Bool) → (L → SM S (Fl L L R)) → L → SM S (Lp L R)
  | 0, _, _, _ => stk
  | n + 1, c, f, l => bnd (c l) fun k => if k then bnd (f l) fun fl => (match fl with
    | .nx l' => whileM_ n c f l'
    | .ct l' => whileM_ n c f l'
    | .bk l' => ret (.dn l')
    | .rt b => ret (.rt b)) else ret (.dn l)
def lpM {S N L L' R : Type} (m : SM S (Lp L R)) (k : L → SM S (Fl N L' R)) : SM S (Fl N L' R) := bnd m fun fl => match fl with
  | .dn l => k l
  | .rt b => ret (.rt b)
section
variable {X : Cx} {S : Type} {F : FC X.K S} {N N' L L' R : Type} {G G1 G2 : S → List Slot} {GN : N → S → List Slot} {GJ : N' → S → List Slot} {GL : L → S → List Slot} {GP : L' → S → List Slot} {r : Rp R} {pos p0 p1 : Pos} {rest : List Stmt} {tr : TS}
theorem bx_end (n : N) (hw : ∀ s, Weak (G s) (GN n s)) : BX X F [] tNext G GN GL r (ret (.nx n)) :=
  ⟨pss_nil, fun T t σ s H D h q => q σ H (h.weak (hw s))⟩
theorem bx_asg {U : Type} {r1 : Rp U} {e : Expr} {te : TE} {m : SM S U} {out : U → SM S (Fl N L R)} {x : Str} (i : Nat) {gs : S → Slot} (hN : X.N.Nodup) (h : EX X F e te G G1 r1 m) (hb : ∀ a, BX X F rest tr (fun s => (G1 s).set i (.is r1 a)) GN GL r (out a)) (ha : Inhabited U)
    (he : ∀ s, (G1 s)[i]? = some (gs s)) (hs : swapsWith e (some (.Name x p0)) pos.line X.env = pure false := by rfl) (hi : X.N[i]? = some x := by rfl) (hx : Loc X.env.scope x := by first | exact Or.inl rfl | exact Or.inr rfl) (hf : X.fn x = true ∨ X.env.scope.names.lookup x = some .local := by first | exact .inl rfl | exact .inr rfl) :
    BX X F (.Assign [.Name x p0] e pos :: rest) (tSeq (tAsg te (gName i)) tr) G GN GL r (bnd m out) :=
  ⟨pss_cons (ps_set hN hi hx h.pe hs hf) (hb ha.default).ps, fun T t σ s H D h0 q =>
    h.go T t σ s H _ h0 (wp_mono (wp_bnd q) (fun a s1 q1 v H1 at1 => (hb a).go T t _ s1 H1 D (at1.store i (he s1)) q1) fun e s z => z σ)⟩
/-- a comprehension given to a name on one line -/
theorem bx_asgW {U : Type} {r1 : Rp U} {st : Stmt} {te : TE} {m : SM S U} {out : U → SM S (Fl N L R)} (i : Nat) {gs : S → Slot} (hp : PS X st (tAsg te (gName i))) (h : GE F te G G1 r1 m) (hb : ∀ a, BX X F rest tr (fun s => (G1 s).set i (.is r1 a)) GN GL r (out a)) (ha : Inhabited U)
    (he : ∀ s, (G1 s)[i]? = some (gs s)) : BX X F (st :: rest) (tSeq (tAsg te (gName i)) tr) G GN GL r (bnd m out) :=
  ⟨pss_cons hp (hb ha.default).ps, fun T t σ s H D h0 q =>
    h T t σ s H _ h0 (wp_mono (wp_bnd q) (fun a s1 q1 v H1 at1 => (hb a).go T t _ s1 H1 D (at1.store i (he s1)) q1) fun e s z => z σ)⟩
/-- a target of several names -/
theorem bx_tgt {U : Type} {r1 : Rp U} {e tg : Expr} {te : TE} {g : TG} {ws : List Nat} {Gt : S → U → List Slot} {m : SM S U} {out : U → SM S (Fl N L R)} (h : EX X F e te G G1 r1 m) (hg : ∀ s, EG X F tg g ws r1 (G1 s) (Gt s)) (hb : ∀ a, BX X F rest tr (fun s => Gt s a) GN GL r (out a)) (ha : Inhabited U) (hS : Inhabited S)
    (hs : swapsWithSole [tg] e pos.line X.env = pure false := by rfl) (hw : swappedStores [tg] e X.env = pure none := by rfl) (h1 : (assignEach [tg] X.env).map (·.2) = [assign tg X.env] := by rfl) :
    BX X F (.Assign [tg] e pos :: rest) (tSeq (tAsg te g) tr) G GN GL r (bnd m out) :=
  ⟨pss_cons (ps_asg h.pe (hg hS.default).pg hs hw h1) (hb ha.default).ps, fun T t σ s H D h0 q =>
    h.go T t σ s H _ h0 (wp_mono (wp_bnd q) (fun a s1 q1 v H1 at1 => (hg s1).go T t σ H1 v a _ at1 fun σ' at2 _ _ => (hb a).go T t σ' s1 H1 D at2 q1) fun e s z => z σ)⟩
/-- a, b = e1, e2 -/
theorem bx_par {U W : Type} {r1 : Rp U} {r2 : Rp W} {a b : Expr} {ta tb : TE} {m1 : SM S U} {m2 : SM S W} {out : U → W → SM S (Fl N L R)} {x y : Str} {px py pt pt2 : Pos} {kt k2 : Nat} (i j : Nat) {gs gs' : S → Slot} (hN : X.N.Nodup) (hc : X.calm = true) (hij : i ≠ j)
    (h1 : EX X F a ta G G1 r1 m1) (h2 : EX X F b tb G1 G2 r2 m2) (hb : ∀ a b, BX X F rest tr (fun s => ((G2 s).set j (.is r2 b)).set i (.is r1 a)) GN GL r (out a b)) (ha : Inhabited U) (ha2 : Inhabited W) (he : ∀ s, (G2 s)[i]? = some (gs s)) (he2 : ∀ s, (G2 s)[j]? = some (gs' s))
    (hw : swappedStores [.Tuple [.Name x px, .Name y py] kt pt] (.Tuple [a, b] k2 pt2) X.env = pure (some [x, y]) := by rfl) (hs : swapsWithSole [.Tuple [.Name x px, .Name y py] kt pt] (.Tuple [a, b] k2 pt2) pos.line X.env = pure false := by rfl)
    (hi : X.N[i]? = some x := by rfl) (hj : X.N[j]? = some y := by rfl) (hx : X.env.scope.names.lookup x = some .local := by rfl) (hy : X.env.scope.names.lookup y = some .local := by rfl) (hsa : PySem.W.isStarred a = false := by rfl) (hsb : PySem.W.isStarred b = false := by rfl) :
    BX X F (.Assign [.Tuple [.Name x px, .Name y py] kt pt] (.Tuple [a, b] k2 pt2) pos :: rest) (tSeq (tPar i j (tCons ta (tCons tb tNil))) tr) G GN GL r (bnd m1 fun a => bnd m2 fun b => out a b) :=
  ⟨pss_cons (ps_par hc hN hi hj hij hx hy (pa_cons h1.pe (pa_cons h2.pe pa_nil (star1 hsb)) (star1 hsa)) hw hs) (hb ha.default ha2.default).ps, fun T t σ s H D h0 q => by
    refine h1.go T t σ s H _ h0 (wp_mono (wp_bnd q) (fun a s1 q1 v H1 at1 => ?_) fun e s z => z σ)
    refine h2.go _ _ σ s1 H1 _ at1 (wp_mono (wp_bnd q1) (fun b s2 q2 w H2 at2 => ?_) fun e s z => z σ)
    refine ⟨v, w, rfl, (hb a b).go T t _ s2 H2 D ?_ q2⟩
    have z := (at2.store j (he2 s2)).store i (by rw [List.getElem?_set_ne (Ne.symm hij)]; exact he s2)
    rwa [List.set_comm (l := σ) _ _ (Ne.symm hij)] at z⟩
theorem bx_ret {e : Expr} {te : TE} {m : SM S R} (h : EX X F e te G G1 r m) (hw : ∀ s, Weak (G1 s) (F.io s)) : BX X F (.Return (some e) pos :: rest) (tSeq (tRet te) tNever) G GN GL r (bnd m fun a => ret (.rt a)) :=
  ⟨pss_cons (ps_ret h.pe) pss_never, fun T t σ s H D h0 q =>
    h.go T t σ s H _ h0 (wp_mono (wp_bnd q) (fun a s1 q1 v H1 at1 => q1 v σ H1 (by
      have z := at1.weak (hw s1)
      exact At.dropM (T0 := [_]) (t0 := [v]) (T := []) (t := []) rfl (T1 := T) (t1 := t) (by obtain ⟨A1, A2, hz⟩ := h0; have := hz.tmp.length; simpa using this) (by simpa using z))) fun e s z => z σ)⟩
theorem bx_expr {U : Type} {r1 : Rp U} {e : Expr} {te : TE} {m : SM S U} {out : SM S (Fl N L R)} (h : EX X F e te G G1 r1 m) (hb : BX X F rest tr G1 GN GL r out) (hs : swapsWith e none pos.line X.env = pure false := by rfl) :
    BX X F (.Expr e pos :: rest) (tSeq (tDrop te) tr) G GN GL r (bnd m fun _ => out) :=
  ⟨pss_cons (ps_expr h.pe hs) hb.ps, fun T t σ s H D h0 q =>
    h.go T t σ s H _ h0 (wp_mono (wp_bnd q) (fun a s1 q1 v H1 at1 => hb.go T t σ s1 H1 D at1.pop q1) fun e s z => z σ)⟩
theorem bx_pass {out : SM S (Fl N L R)} (hb : BX X F rest tr G GN GL r out) : BX X F (.Pass pos :: rest) (tSeq tNext tr) G GN GL r out := ⟨pss_cons ps_pass hb.ps, fun T t σ s H D h0 q => hb.go T t σ s H D h0 q⟩
theorem bx_brk (l : L) (hw : ∀ s, Weak (G s) (GL l s)) : BX X F (.Break pos :: rest) (tSeq tBreak tNever) G GN GL r (ret (.bk l)) := ⟨pss_cons ps_break pss_never, fun T t σ s H D h0 q => q σ H (h0.weak (hw s))⟩
theorem bx_cnt (l : L) (hw : ∀ s, Weak (G s) (GL l s)) : BX X F (.Continue pos :: rest) (tSeq tCont tNever) G GN GL r (ret (.ct l)) := ⟨pss_cons ps_continue pss_never, fun T t σ s H D h0 q => q σ H (h0.weak (hw s))⟩
theorem flp_mono {T : List Slot} {t : List V} {D D' : Ends} {fl : Fl N L R} {s : S} (h : FlP F T t GN GL r D fl s) (hn : ∀ σ H, D.nx σ H → D'.nx σ H) (hr : ∀ v H, D.rt v H → D'.rt v H) (hb : ∀ σ H, D.bk σ H → D'.bk σ H) (hc : ∀ σ H, D.ct σ H → D'.ct σ H) : FlP F T t GN GL r D' fl s := by
  cases fl with
  | nx n => exact fun σ' H' z => hn _ _ (h σ' H' z)
  | rt b => exact fun v σ' H' z => hr _ _ (h v σ' H' z)
  | bk l => exact fun σ' H' z => hb _ _ (h σ' H' z)
  | ct l => exact fun σ' H' z => hc _ _ (h σ' H' z)
theorem bx_if {c : Expr} {A B : List Stmt} {tc : TT} {ta tb : TS} {mc : SM S Bool} {oA oB : SM S (Fl N' L R)} {out : N' → SM S (Fl N L R)} (hc : ET X F c tc G G1 mc) (h1 : BX X F A ta G1 GJ GL r oA) (h2 : BX X F B tb G1 GJ GL r oB) (hr : ∀ n, BX X F rest tr (GJ n) GN GL r (out n)) (ha : Inhabited N') :
    BX X F (.If c A B pos :: rest) (tSeq (tIfS tc ta tb) tr) G GN GL r (bnd mc fun k => thn_ (if k then oA else oB) out) :=
  ⟨pss_cons (ps_if hc.pt h1.ps h2.ps) (hr ha.default).ps, fun T t σ s H D h0 q => by
    refine hc.go T t σ s H _ h0 (wp_mono (wp_bnd q) (fun k s1 q1 H1 at1 => ?_) fun e s z => z σ)
    have fin : ∀ {fl : Fl N' L R} {s2 : S}, ((match fl with | .nx n => out n | .rt b => ret (.rt b) | .bk l => ret (.bk l) | .ct l => ret (.ct l) : SM S (Fl N L R)) s2).wp (FlP F T t GN GL r D) (XA F) → FlP F T t GJ GL r { D with nx := tr D } fl s2 := fun {fl s2} q2 => by
      cases fl with
      | nx n => exact fun σ' H' at2 => (hr n).go T t σ' s2 H' D at2 q2
      | rt b => exact q2
      | bk l => exact q2
      | ct l => exact q2
    cases k with
    | true => exact h1.go T t σ s1 H1 { D with nx := tr D } at1 (wp_mono (wp_bnd q1) (fun fl s2 q2 => fin q2) fun _ _ z => z)
    | false => exact h2.go T t σ s1 H1 { D with nx := tr D } at1 (wp_mono (wp_bnd q1) (fun fl s2 q2 => fin q2) fun _ _ z => z)⟩
/-- if whose suite does not come to its end, without else -/
theorem bx_ifr {c : Expr} {A : List Stmt} {tc : TT} {ta : TS} {mc : SM S Bool} {oA : SM S (Fl Empty L R)} {out : SM S (Fl N L R)} {GE_ : Empty → S → List Slot} (hc : ET X F c tc G G1 mc) (h1 : BX X F A ta G1 GE_ GL r oA) (hr : BX X F rest tr G1 GN GL r out) :
    BX X F (.If c A [] pos :: rest) (tSeq (tIfS tc ta tNext) tr) G GN GL r (bnd mc fun k => if k then esc oA else out) :=
  ⟨pss_cons (ps_if hc.pt h1.ps pss_nil) hr.ps, fun T t σ s H D h0 q => by
    refine hc.go T t σ s H _ h0 (wp_mono (wp_bnd q) (fun k s1 q1 H1 at1 => ?_) fun e s z => z σ)
    cases k with
    | true =>
      refine h1.go T t σ s1 H1 { D with nx := tr D } at1 (wp_mono (wp_bnd q1) (fun fl s2 q2 => ?_) fun _ _ z => z)
      cases fl with
      | nx n => exact n.elim
      | rt b => exact q2
      | bk l => exact q2
      | ct l => exact q2
    | false => exact hr.go T t σ s1 H1 D at1 q1⟩
/-- both suites do not come to their ends -/
theorem bx_ife {c : Expr} {A B : List Stmt} {tc : TT} {ta tb : TS} {mc : SM S Bool} {oA oB : SM S (Fl Empty L R)} {GE_ : Empty → S → List Slot} {GE2 : Empty → S → List Slot} (hc : ET X F c tc G G1 mc) (h1 : BX X F A ta G1 GE_ GL r oA) (h2 : BX X F B tb G1 GE2 GL r oB) :
    BX X F (.If c A B pos :: rest) (tSeq (tIfS tc ta tb) tNever) G GN GL r (bnd mc fun k => if k then esc oA else esc oB) :=
  ⟨pss_cons (ps_if hc.pt h1.ps h2.ps) pss_never, fun T t σ s H D h0 q => by
    refine hc.go T t σ s H _ h0 (wp_mono (wp_bnd q) (fun k s1 q1 H1 at1 => ?_) fun e s z => z σ)
    cases k with
    | true =>
      refine h1.go T t σ s1 H1 _ at1 (wp_mono (wp_bnd q1) (fun fl s2 q2 => ?_) fun _ _ z => z)
      cases fl with
      | nx n => exact n.elim
      | rt b => exact q2
      | bk l => exact q2
      | ct l => exact q2
    | false =>
      refine h2.go T t σ s1 H1 _ at1 (wp_mono (wp_bnd q1) (fun fl s2 q2 => ?_) fun _ _ z => z)
      cases fl with
      | nx n => exact n.elim
      | rt b => exact q2
      | bk l => exact q2
      | ct l => exact q2⟩
/-- for -/
theorem bx_for {A : Type} {rx : Rp A} {tg e : Expr} {body : List Stmt} {wi : TI} {g : TG} {ws : List Nat} {tb : TS} {mi : SM S (List A)} {f : L' → A → SM S (Fl L' L' R)} {out : L' → SM S (Fl N L R)} {Gt : L' → S → A → List Slot} {C : List Slot → Prop}
    (hp : PassesOwn (model X.prog X.w) X.A X.env X.xe) (hc : X.calm = true) (GP : L' → S → List Slot) (l0 : L') (hi : EI X F tg e wi G G1 C rx mi) (hw : ∀ s, Weak (G1 s) (GP l0 s)) (hC : ∀ l s, C (GP l s)) (hg : ∀ l s, EG X F tg g ws rx (GP l s) (Gt l s))
    (hb : ∀ l x, BX X F body tb (fun s => Gt l s x) GP GP r (f l x)) (hr : ∀ l, BX X F rest tr (GP l) GN GL r (out l)) (hA : Inhabited A) (hS : Inhabited S) (hs : ∀ x, foldedSetIterable e X.env x = pure x := by intro _; rfl) :
    BX X F (.For tg e body [] pos :: rest) (tSeq (tFor wi g tb) tr) G GN GL r (bnd mi fun xs => lpM (forM_ xs f l0) out) :=
  ⟨pss_cons (ps_for hp hc hi.pi (hg l0 hS.default).pg (hb l0 hA.default).ps hs) (hr l0).ps, fun T t σ s H D h0 q => by
    refine hi.go T t σ s H _ h0 (wp_mono (wp_bnd q) (fun xs s1 q1 J gv hv H1 src at1 => ?_) fun e s z => z σ)
    refine ⟨fun i m σ H => m = xs.length - i ∧ i ≤ xs.length ∧ ∃ l s, At F (gv ++ T) (hv ++ t) (GP l s) σ H ∧ ((lpM (forM_ (xs.drop i) f l) out : SM S (Fl N L R)) s).wp (FlP F T t GN GL r D) (XA F),
      ⟨xs.length, by simp, Nat.zero_le _, l0, s1, at1.weak (hw s1), by simpa using q1⟩, ?_⟩
    rintro i m σ H ⟨rfl, hi, l, s, at2, q2⟩
    by_cases hlt : i < xs.length
    · refine .inr ⟨src.go (T1 := []) (t1 := []) (hC l s) rfl at2 hlt, fun σ' H' => ∃ l s, At F (gv ++ T) (hv ++ t) (GP l s) σ' H' ∧ ((lpM (forM_ (xs.drop (i + 1)) f l) out : SM S (Fl N L R)) s).wp (FlP F T t GN GL r D) (XA F),
        fun σ' H' ⟨l, s, at3, q3⟩ => ⟨xs.length - (i + 1), by omega, rfl, hlt, l, s, at3, q3⟩, fun x H' hy => ?_⟩
      have at3 := src.yld (T1 := []) (t1 := []) (hC l s) rfl at2 hy (List.getElem?_eq_getElem hlt)
      refine (hg l s).go _ _ σ H' x xs[i] _ at3 fun σ2 at4 _ _ => ?_
      rw [List.drop_eq_getElem_cons hlt] at q2
      refine (hb l xs[i]).go (gv ++ T) (hv ++ t) σ2 s H' _ at4 ?_
      refine wp_mono (wp_bnd (wp_bnd q2)) (fun fl s3 q3 => ?_) fun _ _ z => z
      cases fl with
      | nx l' => exact fun σ' H' z => ⟨l', s3, z, bnd_wp q3⟩
      | ct l' => exact fun σ' H' z => ⟨l', s3, z, bnd_wp q3⟩
      | bk l' => exact fun σ' H' z => (hr l').go T t σ' s3 H' D (At.drop src.len z) q3
      | rt b => exact q3
    · have e : i = xs.length := by omega
      subst e
      refine .inl ⟨src.stop (T1 := []) (t1 := []) (hC l s) rfl at2 (Nat.le_refl _), ?_⟩
      rw [List.drop_length] at q2
      exact (hr l).go T t σ s H D (At.drop src.len at2) (wp_bnd q2)⟩
/-- while -/
theorem bx_while {c : Expr} {body : List Stmt} {tc : TT} {tb : TS} {mc : L' → SM S Bool} {f : L' → SM S (Fl L' L' R)} {out : L' → SM S (Fl N L R)}
    (hp : PassesOwn (model X.prog X.w) X.A X.env X.xe) (GP : L' → S → List Slot) (l0 : L') (n : Nat) (hw : ∀ s, Weak (G s) (GP l0 s)) (hc : ∀ l, ET X F c tc (GP l) (GP l) (mc l)) (hb : ∀ l, BX X F body tb (GP l) GP GP r (f l)) (hr : ∀ l, BX X F rest tr (GP l) GN GL r (out l)) :
    BX X F (.While c body [] pos :: rest) (tSeq (tWhile tc tb) tr) G GN GL r (lpM (whileM_ n mc f l0) out) :=
  ⟨pss_cons (ps_while hp (hc l0).pt (hb l0).ps) (hr l0).ps, fun T t σ s H D h0 q => by
    refine ⟨fun m σ H => ∃ l s, At F T t (GP l s) σ H ∧ ((lpM (whileM_ m mc f l) out : SM S (Fl N L R)) s).wp (FlP F T t GN GL r D) (XA F), ⟨n, l0, s, h0.weak (hw s), q⟩, ?_⟩
    rintro m σ H ⟨l, s, at1, q1⟩
    cases m with
    | zero => exact (wp_bnd q1).elim
    | succ m =>
      refine (hc l).go T t σ s H _ at1 (wp_mono (wp_bnd (wp_bnd q1)) (fun k s2 q2 H2 at2 => ?_) fun e s z => z σ)
      cases k with
      | true =>
        refine ⟨fun σ' H' => ∃ l s, At F T t (GP l s) σ' H' ∧ ((lpM (whileM_ m mc f l) out : SM S (Fl N L R)) s).wp (FlP F T t GN GL r D) (XA F), fun σ' H' z => ⟨m, Nat.lt_succ_self m, z⟩, ?_⟩
        refine (hb l).go T t σ s2 H2 _ at2 (wp_mono (wp_bnd q2) (fun fl s3 q3 => ?_) fun _ _ z => z)
        cases fl with
        | nx l' => exact fun σ' H' z => ⟨l', s3, z, bnd_wp q3⟩
        | ct l' => exact fun σ' H' z => ⟨l', s3, z, bnd_wp q3⟩
        | bk l' => exact fun σ' H' z => (hr l').go T t σ' s3 H' D z q3
        | rt b => exact q3
      | false => exact (hr l).go T t σ s2 H2 D at2 q2⟩
end
end Td

set_option Elab.async false
set_option linter.all false
set_option maxRecDepth 100000
set_option maxHeartbeats 4000000
namespace Td
open PySem PySem.Spec PyProof.Rows L2

/-! ### a def's promise -/
def FC.c {K : PySem.W.Frag} {S : Type} (H : Hp) (I M0 : List Addr) : FC K S := ⟨H, I, M0, fun _ => [], fun _ _ _ _ => True⟩
theorem At.re {K : PySem.W.Frag} {S S' : Type} {F : FC K S} {F' : FC K S'} {T : List Slot} {t : List V} {G : List Slot} {σ : L2.St} {H : Hp} (h : At F T t G σ H) (e1 : F'.H0 = F.H0) (e2 : F'.I = F.I) (e3 : F'.M0 = F.M0) : At F' T t G σ H := by
  obtain ⟨A1, A2, h⟩ := h
  obtain ⟨h1, h2, h3⟩ := h
  exact ⟨A1, A2, by rw [e3]; exact h1, by rw [e3]; exact h2, ⟨h3.nd, by rw [e3]; exact h3.out, by rw [e1, e2]; exact h3.new, by rw [e2]; exact h3.has, by rw [e1, e2]; exact h3.stay, by rw [e1, e2, e3]; exact h3.m0⟩⟩
def SpG (K : PySem.W.Frag) {S U W : Type} (n : Nat) (Ps : U → S → List V → List Slot) (ioT : S → List Slot) (iov : List V → List V) (r : Rp W) (f : U → SM S W) : Sp := fun vs H Q E =>
  ∃ (u : U) (s : S) (I M0 : List Addr), vs.length = n ∧ At (FC.c (K := K) (S := S) H I M0) [] [] (Ps u s vs) (vs.map some) H ∧
    (f u s).wp (fun b s' => ∀ v H', At (FC.c (K := K) (S := S) H I M0) (.is r b :: ioT s') (v :: iov vs) [] [] H' → Q v H')
      (fun e s' => ∀ d H', At (FC.c (K := K) (S := S) H I M0) (.is rXd e.pay :: ioT s') (.ref d :: iov vs) [] [] H' → E (.ref (He.ga K e.cls)) (some d) H')
/-- a def without an in/out argument -/
abbrev SpP (K : PySem.W.Frag) {U W : Type} (n : Nat) (Ps : U → List Slot) (r : Rp W) (f : U → SM Unit W) : Sp := SpG K (S := Unit) n (fun u _ _ => Ps u) (fun _ => []) (fun _ => []) r f

/-- what stands in a representation does not hang on M -/
def Rp.Clo {T : Type} (r : Rp T) : Prop := ∀ {K M M' H v a B}, r.rel K M H v a B → r.rel K M' H v a B
theorem clo_pl {T : Type} {f : T → V} : (rPl f).Clo := fun h => h
theorem clo_int : rInt.Clo := fun h => h
theorem clo_bool : rBool.Clo := fun h => h
theorem clo_str : rStr.Clo := fun h => h
theorem clo_non : rNon.Clo := fun h => h
theorem clo_pair {T U : Type} {r : Rp T} {q : Rp U} (c1 : r.Clo) (c2 : q.Clo) : (rPair r q).Clo := by
  rintro K M M' H v a B ⟨p, v1, v2, B1, B2, e, hT, h1, h2, eB⟩
  exact ⟨p, v1, v2, B1, B2, e, hT, c1 h1, c2 h2, eB⟩
theorem clo_tup3 {T U W : Type} {r : Rp T} {q : Rp U} {t : Rp W} (c1 : r.Clo) (c2 : q.Clo) (c3 : t.Clo) : (rTup3 r q t).Clo := by
  rintro K M M' H v a B ⟨p, v1, v2, v3, B1, B2, B3, e, hT, h1, h2, h3, eB⟩
  exact ⟨p, v1, v2, v3, B1, B2, B3, e, hT, c1 h1, c2 h2, c3 h3, eB⟩
theorem clo_opt {T : Type} {r : Rp T} (c : r.Clo) : (rOpt r).Clo := by
  intro K M M' H v a B h
  cases a with
  | none => exact h
  | some a => exact c h
theorem clo_list {T : Type} {r : Rp T} (c : r.Clo) : (rList r).Clo := by
  rintro K M M' H v a B ⟨p, vs, A, e, hp, hA, eB⟩
  exact ⟨p, vs, A, e, hp, hA.imp fun _ _ _ _ h => c h, eB⟩
theorem clo_pay : rPay.Clo := by
  intro K M M' H v a B h
  cases a with
  | non => exact h
  | int i => exact h
  | pair a b => exact clo_pair clo_int clo_int h
  | lsI l => exact clo_list clo_int h
  | lsP l => exact clo_list (clo_pair clo_int clo_int) h
  | str x => exact h

theorem clo_xd : rXd.Clo := by
  rintro K M M' H v a B ⟨d, w, C, e, hd, h, eB⟩
  exact ⟨d, w, C, e, hd, clo_pay h, eB⟩

section
variable {K : PySem.W.Frag} {S S' : Type} {F : FC K S} {T : List Slot} {t : List V} {G : List Slot} {σ : L2.St} {H H' : Hp}
/-- behind a call: what it gave, and all that stood -/
theorem At.back {U : Type} {r : Rp U} {b : U} {v : V} {M0' : List Addr} {A1 A2 : List Addr} (h : AtP F T t G σ H A1 A2) (hx : At (FC.c (K := K) (S := S') H [] M0') [.is r b] [v] [] [] H')
    (hM : r.Clo ∨ ∀ p, p ∈ A1 ++ A2 ++ F.M0 → p ∈ M0') : At F (.is r b :: T) (v :: t) G σ H' := by
  obtain ⟨X1, X2, hx⟩ := hx
  obtain ⟨B, A', eA, ⟨v', ev, hr⟩, ht⟩ := AtS.cons_inv hx.tmp
  cases ev
  cases ht
  have e2 : X2 = [] := by
    have := hx.loc
    cases this; rfl
  subst e2 eA
  have gx := hx.good
  have nB : ∀ p, p ∈ B → H p = none := fun p hp => (gx.new p (by simpa using hp)).resolve_right (by intro z; cases z)
  have st : ∀ p o, H p = some o → H' p = some o := fun p o e => gx.stay p o e (by intro z; cases z)
  have ndB : B.Nodup := by simpa using gx.nd
  have tr : ∀ p, p ∈ A1 ++ A2 ++ F.M0 → H p ≠ none := fun p hp e => by
    rcases List.mem_append.mp hp with hp | hp
    · rcases List.mem_append.mp hp with hp | hp
      · obtain ⟨o, z, _⟩ := h.tmp.trk p hp; rw [e] at z; cases z
      · obtain ⟨o, z, _⟩ := h.loc.trk p hp; rw [e] at z; cases z
    · obtain ⟨⟨o, z, _⟩, hI⟩ := h.good.m0 p hp
      have := h.good.stay p o z hI
      rw [e] at this; cases this
  have dis : ∀ p, p ∈ B → p ∉ A1 ++ A2 ++ F.M0 := fun p hp z => tr p z (nB p hp)
  have hM' : ∀ x, x ∈ (B ++ A1) ++ A2 ++ F.M0 → x ∈ A1 ++ A2 ++ F.M0 ∨ H x = none := fun x hx => by
    by_cases hB : x ∈ B
    · exact .inr (nB x hB)
    · left
      simp only [List.mem_append] at *
      grind
  refine ⟨B ++ A1, A2, .cons ⟨v, rfl, ?_⟩ ((h.tmp.grow hM').keep fun p o e _ => st p o e), (h.loc.grow hM').keep fun p o e _ => st p o e, ?_⟩
  · rcases hM with c | hM
    · exact c hr
    · refine r.grow hr fun p hp => .inl ?_
      have z := hM p
      show p ∈ (B ++ []) ++ [] ++ M0'
      simp only [List.mem_append] at *
      grind
  · refine ⟨?_, fun p hp => ?_, fun p hp => ?_, fun p hp => ?_, fun p o e hI => st p o (h.good.stay p o e hI), h.good.m0⟩
    · have := h.good.nd
      have d := dis
      simp only [List.nodup_append, List.mem_append] at *
      grind
    · have := h.good.out p
      have d := dis p
      simp only [List.mem_append] at *
      grind
    · by_cases hB : p ∈ B
      · exact .inl (h.good.fresh (nB p hB)).1
      · exact h.good.new p (by simp only [List.mem_append] at *; grind)
    · obtain ⟨o, e, z⟩ := h.good.has p hp
      exact ⟨o, st p o e, z⟩
/-- arguments as a callee's slots -/
inductive Ent (G : List Slot) : List Arg → List Slot → Prop
  | nil : Ent G [] []
  | sh {arg L P U} {r : Rp U} {a : U} (rd : Rdd G arg r a) (h : Ent G L P) : Ent G (arg :: L) (.is (sh r) a :: P)
  | cp {arg L P U} {r : Rp U} {a : U} (c : r.Cp) (rd : Rdd G arg r a) (h : Ent G L P) : Ent G (arg :: L) (.is r a :: P)
inductive EntS (G : List Slot) : List Arg → List Slot → Prop
  | nil : EntS G [] []
  | sh {arg L P U} {r : Rp U} {a : U} (rd : RdS G arg r a) (h : EntS G L P) : EntS G (arg :: L) (.is (sh r) a :: P)
  | cp {arg L P U} {r : Rp U} {a : U} (c : r.Cp) (rd : RdS G arg r a) (h : EntS G L P) : EntS G (arg :: L) (.is r a :: P)
theorem ent_at {ts vs : List V} {L : List Arg} {A1 A2 : List Addr} (h : AtP F ((tmps L).reverse ++ T) (ts.reverse ++ t) G σ H A1 A2) (av : ArgV σ L ts vs) {P : List Slot} (he : Ent G L P) : AtS K [] H P (vs.map some) [] := by
  have key : ∀ {L1 : List Arg} {P : List Slot}, Ent G L1 P → ∀ (k : Nat), L1 = L.drop k → AtS K [] H P ((vs.drop k).map some) [] := by
    intro L1 P he
    induction he with
    | nil =>
      intro k e
      have hk : L.length ≤ k := by
        have := congrArg List.length e
        simp at this
        omega
      rw [List.drop_of_length_le (by rw [(argV_len av).1]; exact hk)]
      exact .nil
    | @sh arg L1 P U r a rd _ ih =>
      intro k e
      have ek : L[k]? = some arg := by
        have := congrArg (fun l => l[0]?) e
        simpa using this.symm
      obtain ⟨v, B, ev, hr⟩ := rddM h av ek rd
      have e2 : L1 = L.drop (k + 1) := by
        have := congrArg List.tail e
        simpa using this
      have z := ih (k + 1) e2
      obtain ⟨hk, ev'⟩ := List.getElem?_eq_some_iff.mp ev
      rw [List.drop_eq_getElem_cons hk, ev']
      exact .cons (B := []) ⟨v, rfl, rfl, B, rel_nil hr, fun _ _ z => by cases z⟩ z
    | @cp arg L1 P U r a c rd _ ih =>
      intro k e
      have ek : L[k]? = some arg := by
        have := congrArg (fun l => l[0]?) e
        simpa using this.symm
      obtain ⟨v, B, ev, hr⟩ := rddM h av ek rd
      have e2 : L1 = L.drop (k + 1) := by
        have := congrArg List.tail e
        simpa using this
      have z := ih (k + 1) e2
      obtain ⟨hk, ev'⟩ := List.getElem?_eq_some_iff.mp ev
      rw [List.drop_eq_getElem_cons hk, ev']
      have eB := c hr
      subst eB
      exact .cons (B := []) ⟨v, rfl, rel_nil hr⟩ z
  exact key he 0 rfl
theorem entS_at {ts vs : List V} {L : List Arg} {A1 A2 : List Addr} (h : AtP F ((tmps L).reverse ++ T) (ts.reverse ++ t) G σ H A1 A2) (av : ArgV σ L ts vs) {P : List Slot} (he : EntS G L P) : AtS K (A1 ++ A2 ++ F.M0) H P (vs.map some) [] := by
  have key : ∀ {L1 : List Arg} {P : List Slot}, EntS G L1 P → ∀ (k : Nat), L1 = L.drop k → AtS K (A1 ++ A2 ++ F.M0) H P ((vs.drop k).map some) [] := by
    intro L1 P he
    induction he with
    | nil =>
      intro k e
      have hk : L.length ≤ k := by
        have := congrArg List.length e
        simp at this
        omega
      rw [List.drop_of_length_le (by rw [(argV_len av).1]; exact hk)]
      exact .nil
    | @sh arg L1 P U r a rd _ ih =>
      intro k e
      have ek : L[k]? = some arg := by
        have := congrArg (fun l => l[0]?) e
        simpa using this.symm
      obtain ⟨v, ev, hr⟩ := rdS h av ek rd
      have e2 : L1 = L.drop (k + 1) := by
        have := congrArg List.tail e
        simpa using this
      have z := ih (k + 1) e2
      obtain ⟨hk, ev'⟩ := List.getElem?_eq_some_iff.mp ev
      rw [List.drop_eq_getElem_cons hk, ev']
      exact .cons (B := []) ⟨v, rfl, hr⟩ z
    | @cp arg L1 P U r a c rd _ ih =>
      intro k e
      have ek : L[k]? = some arg := by
        have := congrArg (fun l => l[0]?) e
        simpa using this.symm
      obtain ⟨v, ev, _, B, hr, _⟩ := rdS h av ek rd
      have e2 : L1 = L.drop (k + 1) := by
        have := congrArg List.tail e
        simpa using this
      have z := ih (k + 1) e2
      obtain ⟨hk, ev'⟩ := List.getElem?_eq_some_iff.mp ev
      rw [List.drop_eq_getElem_cons hk, ev']
      have eB := c hr
      subst eB
      exact .cons (B := []) ⟨v, rfl, hr⟩ z
  exact key he 0 rfl
theorem good_c {M0 : List Addr} (h : ∀ p, p ∈ M0 → ∃ o, H p = some o ∧ isTup o = false) : Good (FC.c (K := K) (S := S') H [] M0) H [] :=
  ⟨.nil, fun _ z => (nomatch z), fun _ z => (nomatch z), fun _ z => (nomatch z), fun _ _ e _ => e, fun p hp => ⟨h p hp, fun z => (nomatch z)⟩⟩
theorem AtP.m_trk {A1 A2 : List Addr} (h : AtP F T t G σ H A1 A2) : ∀ p, p ∈ A1 ++ A2 ++ F.M0 → ∃ o, H p = some o ∧ isTup o = false := fun p hp => by
  rcases List.mem_append.mp hp with hp | hp
  · rcases List.mem_append.mp hp with hp | hp
    · exact h.tmp.trk p hp
    · exact h.loc.trk p hp
  · obtain ⟨⟨o, z, zt⟩, hI⟩ := h.good.m0 p hp
    exact ⟨o, h.good.stay p o z hI, zt⟩
/-- the reading of a call of a def without an in/out argument -/
theorem go_call {U W A : Type} {n : Nat} {Ps : U → List Slot} {r : Rp W} {f : U → SM Unit W} {fa : A → SM Unit W} {E : L2.St → XK} {ta : TA} {G G' : S → List Slot} {LA : A → List Arg} {mA : SM S A} (u : A → U) (hf : ∀ a, fa a = f (u a)) (h : GA F ta G G' LA mA) (hn : ∀ a, (LA a).length = n)
    (he : (r.Clo ∧ ∀ a s, Ent (G' s) (LA a) (Ps (u a))) ∨ ∀ a s, EntS (G' s) (LA a) (Ps (u a))) (hW : ∀ c d σ H, F.W c d σ H → E σ c d H) (hw : ∀ s, Weak (G' s) (F.io s)) :
    GE F (tCallSD (SpP K n Ps r f) [] E ta) G G' r (bnd mA fun a => lft (fa a)) := by
  intro T t σ s H Q h0 q
  have ef : fa = fun a => f (u a) := funext hf
  subst ef
  refine h T t σ s H _ h0 (wp_mono (wp_bnd q) (fun a s1 q1 ts vs H1 at1 av => ?_) fun _ _ z => z)
  have q2 := wp_lft q1
  have lv : (vs ++ ([] : List V)).length = n := by rw [List.append_nil, (argV_len av).1, hn]
  obtain ⟨A1, A2, at1⟩ := at1
  have run : ∀ (M0 : List Addr), (∀ p, p ∈ M0 → ∃ o, H1 p = some o ∧ isTup o = false) → AtS K M0 H1 (Ps (u a)) (vs.map some) [] → (r.Clo ∨ ∀ p, p ∈ A1 ++ A2 ++ F.M0 → p ∈ M0) → SpP K n Ps r f (vs ++ []) H1 Q (E σ) := by
    intro M0 hM0 hat hor
    have hat2 : AtS K ([] ++ [] ++ (FC.c (K := K) (S := Unit) H1 [] M0).M0) H1 (Ps (u a)) ((vs ++ []).map some) [] := by
      rw [List.append_nil vs]
      exact hat
    refine ⟨u a, (), [], M0, lv, ⟨[], [], .nil, hat2, good_c hM0⟩, wp_mono q2 (fun b _ q3 v H' hx => ?_) (fun e _ q3 d H' hx => ?_)⟩
    · have z := At.back at1 hx hor
      exact q3 v H' (At.dropU (by simp [(argV_len av).2]) z)
    · have z := At.back at1 hx (.inl clo_xd)
      have z2 := (At.dropU (by simp [(argV_len av).2]) z).weak (hw s1)
      refine hW _ _ σ _ (q3 d H' ?_)
      exact At.dropM (T0 := [_]) (t0 := [.ref d]) (T := []) (t := []) rfl (T1 := T) (t1 := t) (by obtain ⟨B1, B2, hz⟩ := h0; have := hz.tmp.length; simpa using this) (by simpa using z2)
  rcases he with ⟨c, he⟩ | he
  · exact run [] (fun _ z => by cases z) (ent_at at1 av (he a s1)) (.inl c)
  · exact run (A1 ++ A2 ++ F.M0) at1.m_trk (entS_at at1 av (he a s1)) (.inr fun _ z => z)
end
section
variable {X : Cx} {S : Type} {F : FC X.K S} {U W A : Type} {n k : Nat} {Ps : U → List Slot} {r : Rp W} {f : U → SM Unit W} {E : XK} {ta : TA} {G G' : S → List Slot} {LA : A → List Arg} {mA : SM S A} {CX : CXT} {fA : Addr} {fd : FuncData} {ps : List Str} {x : Str} {p pos : Pos} {e : Expr} {es : List Expr}
theorem ex_call {fm : A → SM Unit W} (u : A → U) (FO : FnOk X.prog X.w X.K X.mg X.base CX k fA fd ps (SpP X.K n Ps r f)) (hr : Room k X.A) (hg : Gl X x) (hm : X.mg x = some (.ref fA)) (hk : PySem.W.keepIn X.K (.ref fA) = true) (hb : Binds X.K fd ps []) (hx : Passes CX X E)
    (h : EA X F (e :: es) ta G G' LA mA) (hn : ∀ a, (LA a).length = n) (he : (r.Clo ∧ ∀ a s, Ent (G' s) (LA a) (Ps (u a))) ∨ ∀ a s, EntS (G' s) (LA a) (Ps (u a))) (hW : ∀ c d σ H, F.W c d σ H → E c d H) (hw : ∀ s, Weak (G' s) (F.io s))
    (hf : ∀ a, fm a = f (u a) := by intro _; rfl)
    (hst : PySem.W.isStarred e = false := by rfl) (hpl : (backTo pos (starEach es X.env)).any (·.1) = false := by rfl) (hdb : (x == ("__debug__" : Str)) = false := by decide) :
    EX X F (.Call (.Name x p) (e :: es) [] pos) (tCall (SpP X.K n Ps r f) [] E ta) G G' r (bnd mA fun a => lft (fm a)) :=
  ⟨pe_call FO hr hg hm hk hb .nil hx h.pa (hdb := hdb) (he := star1 hst) (hpl := hpl), go_call (E := fun _ => E) u hf h.go hn he hW hw⟩
end
end Td

set_option Elab.async false
set_option linter.all false
set_option maxRecDepth 100000
set_option maxHeartbeats 4000000
namespace Td
open PySem PySem.Spec PyProof.Rows L2

/-! ### a def's body -/
def runB {S R : Type} (m : SM S (Fl Empty Empty R)) : SM S R := bnd m fun fl => match fl with
  | .rt b => ret b
  | .nx n => n.elim
  | .bk l => l.elim
  | .ct l => l.elim
/-- a def that may come to its end: None -/
def runP {S : Type} (m : SM S (Fl Unit Empty Unit)) : SM S Unit := bnd m fun fl => match fl with
  | .rt b => ret b
  | .nx n => ret n
  | .bk l => l.elim
  | .ct l => l.elim
def uns (n : Nat) : List Slot := List.replicate n .un
section
variable {K : PySem.W.Frag} {S : Type}
theorem at_start {F : FC K S} {P : List Slot} {vs : List V} {H : Hp} {N : List Str} (h : At F [] [] P (vs.map some) H) : At F [] [] (P ++ uns (N.length - vs.length)) (start N vs) H := by
  obtain ⟨A1, A2, h⟩ := h
  have z : AtS K (A1 ++ A2 ++ F.M0) H (uns (N.length - vs.length)) (List.replicate (N.length - vs.length) none) [] := by
    have y := AtS.un (K := K) (H := H) (M := A1 ++ A2 ++ F.M0) (s := List.replicate (N.length - vs.length) (none : Option V))
    simpa [uns] using y
  have w := h.loc.append z
  rw [List.append_nil] at w
  exact ⟨A1, A2, h.tmp, w, h.good⟩
theorem AtS.uns_nil {M : List Addr} {H : Hp} : ∀ {n : Nat} {s : List (Option V)} {A : List Addr}, AtS K M H (uns n) s A → A = []
  | 0, _, _, h => by cases h; rfl
  | n + 1, _, _, h => by
    unfold uns at h
    rw [List.replicate_succ] at h
    cases h with
    | @cons _ _ B _ _ A h t =>
      rw [show B = [] from h, AtS.uns_nil (n := n) t]; rfl
theorem at_exit {F : FC K S} {T : List Slot} {t : List V} {n : Nat} {σ : L2.St} {H : Hp} (h : At F T t (uns n) σ H) : At F T t [] [] H := by
  obtain ⟨A1, A2, h⟩ := h
  have e := AtS.uns_nil h.loc
  subst e
  exact ⟨A1, [], h.tmp, .nil, h.good⟩
/-- the in/out thing in slot 0 becomes a temp, the slots go -/
theorem at_exitIo {F : FC K S} {g : Slot} {x v : V} {U : Type} {r : Rp U} {a : U} {n : Nat} {σ : L2.St} {H : Hp} (h : At F [g] [x] (.pn v r a :: uns n) σ H) : At F [g, .is r a] [x, v] [] [] H := by
  obtain ⟨A1, A2, h⟩ := h
  have hl := h.loc
  cases hl with
  | @cons _ y B _ s A hs ht =>
    obtain ⟨ey, hr⟩ := hs
    have e := AtS.uns_nil ht
    subst e
    obtain ⟨C, A', eA, h1, h2⟩ := AtS.cons_inv h.tmp
    cases h2
    subst eA
    have hM : ∀ p, p ∈ (C ++ (B ++ [])) ++ [] ++ F.M0 → p ∈ (C ++ []) ++ (B ++ []) ++ F.M0 ∨ H p = none := fun p hp => .inl (by simp only [List.append_nil, List.mem_append] at *; grind)
    exact ⟨C ++ (B ++ []), [], .cons (Slot.ok_grow h1 hM) (.cons ⟨v, rfl, r.grow hr hM⟩ .nil), .nil, h.good.sub (by simpa using h.good.nd) fun p hp => by simp only [List.append_nil, List.mem_append] at *; grind⟩
end
section
variable {P : Program} {w : World} {K : PySem.W.Frag} {mg : Str → Option Value} {base : Heap} {x qual : Str} {params : Arguments} {body : List Stmt} {scope : Scope} {f : Addr} {fd : FuncData} {N ps : List Str} {k : Nat}
/-- a def without an in/out argument: by its body -/
theorem fn_pure {U W : Type} {Ps : U → List Slot} {r : Rp W} {fm : U → SM Unit W} (FD : FunD K x qual params body scope [] [] f fd) (Sc : FnScope N ps scope) (out : U → SM Unit (Fl Empty Empty W)) (hfm : ∀ u, fm u = runB (out u))
    (hbody : ∀ (u : U) (cdv : Value) (A : Around) (outer : List Env) (s : Shared) (H : Hp) (E : XK), Room k (A.deeper (envOfC qual scope s.heap.objs.size f cdv)) →
      ∀ F : FC K Unit, F.io = (fun _ => uns N.length) → F.W = (fun c d _ H' => E c d H') → ∃ t, BX (cxOf (L2.CX P w) P w K mg base N qual scope f cdv A outer s H E) F body t (fun _ => Ps u ++ uns (N.length - ps.length)) (fun (e : Empty) _ => e.elim) (fun (e : Empty) _ => e.elim) r (out u)) :
    FnOk P w K mg base (L2.CX P w) (k + 1) f fd ps (SpP K ps.length Ps r fm) := by
  refine FD.ok Sc (fun vs H Q E h => ?_) (fun cdv A outer s H vs Q E hr h => ?_)
  · obtain ⟨u, _, _, _, h, _⟩ := h
    exact h
  · obtain ⟨u, s0, I, M0, hl, at0, q⟩ := h
    obtain ⟨t, hB⟩ := hbody u cdv A outer s H E hr ⟨H, I, M0, fun _ => uns N.length, fun c d _ H' => E c d H'⟩ rfl rfl
    refine ⟨t, hB.ps, hB.go [] [] (start N vs) s0 H _ ?_ ?_⟩
    · have z := at_start (N := N) at0
      rw [hl] at z
      exact z.re rfl rfl rfl
    · rw [hfm u] at q
      refine wp_mono (wp_bnd q) (fun fl s1 q1 => ?_) (fun e s1 q1 σ d H' h1 => q1 d H' ((at_exit h1).re rfl rfl rfl))
      cases fl with
      | nx n => exact n.elim
      | bk n => exact n.elim
      | ct n => exact n.elim
      | rt b => exact fun v σ' H' h1 => q1 v H' ((at_exit h1).re rfl rfl rfl)
theorem fn_proc {U : Type} {Ps : U → List Slot} {fm : U → SM Unit Unit} (FD : FunD K x qual params body scope [] [] f fd) (Sc : FnScope N ps scope) (out : U → SM Unit (Fl Unit Empty Unit)) (hfm : ∀ u, fm u = runP (out u))
    (hbody : ∀ (u : U) (cdv : Value) (A : Around) (outer : List Env) (s : Shared) (H : Hp) (E : XK), Room k (A.deeper (envOfC qual scope s.heap.objs.size f cdv)) →
      ∀ F : FC K Unit, F.io = (fun _ => uns N.length) → F.W = (fun c d _ H' => E c d H') → ∃ t, BX (cxOf (L2.CX P w) P w K mg base N qual scope f cdv A outer s H E) F body t (fun _ => Ps u ++ uns (N.length - ps.length)) (fun (_ : Unit) _ => uns N.length) (fun (e : Empty) _ => e.elim) rNon (out u)) :
    FnOk P w K mg base (L2.CX P w) (k + 1) f fd ps (SpP K ps.length Ps rNon fm) := by
  refine FD.ok Sc (fun vs H Q E h => ?_) (fun cdv A outer s H vs Q E hr h => ?_)
  · obtain ⟨u, _, _, _, h, _⟩ := h
    exact h
  · obtain ⟨u, s0, I, M0, hl, at0, q⟩ := h
    obtain ⟨t, hB⟩ := hbody u cdv A outer s H E hr ⟨H, I, M0, fun _ => uns N.length, fun c d _ H' => E c d H'⟩ rfl rfl
    refine ⟨t, hB.ps, hB.go [] [] (start N vs) s0 H _ ?_ ?_⟩
    · have z := at_start (N := N) at0
      rw [hl] at z
      exact z.re rfl rfl rfl
    · rw [hfm u] at q
      refine wp_mono (wp_bnd q) (fun fl s1 q1 => ?_) (fun e s1 q1 σ d H' h1 => q1 d H' ((at_exit h1).re rfl rfl rfl))
      cases fl with
      | nx n => exact fun σ' H' h1 => q1 .non H' ((At.push (r := rNon) (a := ()) (v := V.non) (at_exit h1) fun _ => ⟨rfl, rfl⟩).re rfl rfl rfl)
      | bk n => exact n.elim
      | ct n => exact n.elim
      | rt b => exact fun v σ' H' h1 => q1 v H' ((at_exit h1).re rfl rfl rfl)
/-- a def whose first argument is in/out -/
abbrev SpI (K : PySem.W.Frag) {S U W : Type} (n : Nat) (rio : Rp S) (Pr : U → List Slot) (r : Rp W) (f : U → SM S W) : Sp := SpG K n (fun u s vs => .pn (vs.headD .non) rio s :: Pr u) (fun s => [.is rio s]) (fun vs => [vs.headD .non]) r f
theorem fn_io {S U W : Type} {rio : Rp S} {Pr : U → List Slot} {r : Rp W} {fm : U → SM S W} (FD : FunD K x qual params body scope [] [] f fd) (Sc : FnScope N ps scope) (out : U → SM S (Fl Empty Empty W)) (hfm : ∀ u, fm u = runB (out u))
    (hbody : ∀ (u : U) (v0 : V) (cdv : Value) (A : Around) (outer : List Env) (s : Shared) (H : Hp) (E : XK), Room k (A.deeper (envOfC qual scope s.heap.objs.size f cdv)) →
      ∀ F : FC K S, F.io = (fun s => .pn v0 rio s :: uns (N.length - 1)) → F.W = (fun c d _ H' => E c d H') → ∃ t, BX (cxOf (L2.CX P w) P w K mg base N qual scope f cdv A outer s H E) F body t (fun s => .pn v0 rio s :: (Pr u ++ uns (N.length - ps.length))) (fun (e : Empty) _ => e.elim) (fun (e : Empty) _ => e.elim) r (out u)) :
    FnOk P w K mg base (L2.CX P w) (k + 1) f fd ps (SpI K ps.length rio Pr r fm) := by
  refine FD.ok Sc (fun vs H Q E h => ?_) (fun cdv A outer s H vs Q E hr h => ?_)
  · obtain ⟨u, _, _, _, h, _⟩ := h
    exact h
  · obtain ⟨u, s0, I, M0, hl, at0, q⟩ := h
    obtain ⟨t, hB⟩ := hbody u (vs.headD .non) cdv A outer s H E hr ⟨H, I, M0, fun s => .pn (vs.headD .non) rio s :: uns (N.length - 1), fun c d _ H' => E c d H'⟩ rfl rfl
    refine ⟨t, hB.ps, hB.go [] [] (start N vs) s0 H _ ?_ ?_⟩
    · have z := at_start (N := N) at0
      rw [hl] at z
      exact z.re rfl rfl rfl
    · rw [hfm u] at q
      refine wp_mono (wp_bnd q) (fun fl s1 q1 => ?_) (fun e s1 q1 σ d H' h1 => q1 d H' ((at_exitIo h1).re rfl rfl rfl))
      cases fl with
      | nx n => exact n.elim
      | bk n => exact n.elim
      | ct n => exact n.elim
      | rt b => exact fun v σ' H' h1 => q1 v H' ((at_exitIo h1).re rfl rfl rfl)
end

/-! ### calls with an in/out argument -/
section
variable {K : PySem.W.Frag} {S : Type} {F : FC K S} {T : List Slot} {t : List V} {G : List Slot} {σ : L2.St} {H H' : Hp}
theorem At.backIo {U S' : Type} {r : Rp U} {b : U} {v w : V} {M0' A1 A2 P1 P2 C : List Addr} {j : Nat} {Sio : Type} {rio : Rp Sio} {s' : Sio} (h : AtP F T t G σ H A1 A2) (eA : A2 = P1 ++ (C ++ P2))
    (back : ∀ (M' : List Addr) (H' : Hp) (g' : Slot) (x' : Option V) (B' : List Addr), (∀ {g x B}, Slot.ok K (A1 ++ A2 ++ F.M0) H g x B → (∀ p, p ∈ B → p ∈ P1 ∨ p ∈ P2) → Slot.ok K M' H' g x B) → g'.ok K M' H' x' B' → AtS K M' H' (G.set j g') (σ.set j x') (P1 ++ (B' ++ P2)))
    (ew : σ[j]? = some (some w)) (tC : ∀ p, p ∈ C → ∃ o, H p = some o ∧ isTup o = false) (hx : At (FC.c (K := K) (S := S') H C M0') [.is r b, .is rio s'] [v, w] [] [] H') (cio : rio.Clo)
    (hM : r.Clo ∨ ∀ p, p ∈ A1 ++ (P1 ++ P2) ++ F.M0 → p ∈ M0') : At F (.is r b :: T) (v :: t) (G.set j (.pn w rio s')) σ H' := by
  obtain ⟨X1, X2, hx⟩ := hx
  obtain ⟨B, A', eX, ⟨v', ev, hr⟩, ht⟩ := AtS.cons_inv hx.tmp
  obtain ⟨D, A'', eA'', ⟨w', ew', hio⟩, ht2⟩ := AtS.cons_inv ht
  cases ev
  cases ew'
  cases ht2
  have e2 : X2 = [] := by
    have := hx.loc
    cases this; rfl
  subst e2 eX eA'' eA
  have gx := hx.good
  have nd := h.good.nd
  have nB : ∀ p, p ∈ B ++ D → H p = none ∨ p ∈ C := fun p hp => gx.new p (by simpa using hp)
  have st : ∀ p o, H p = some o → p ∉ C → H' p = some o := fun p o e hp => gx.stay p o e hp
  have ndB : (B ++ D).Nodup := by simpa using gx.nd
  have tr := h.m_trk
  have trn : ∀ p, p ∈ A1 ++ (P1 ++ (C ++ P2)) ++ F.M0 → H p ≠ none := fun p hp e => by
    obtain ⟨o, z, _⟩ := tr p hp
    rw [e] at z; cases z
  have ndC : ∀ p, p ∈ C → p ∉ A1 ∧ p ∉ P1 ∧ p ∉ P2 := fun p hp => by
    simp only [List.nodup_append, List.mem_append] at nd
    grind
  have outC : ∀ p, p ∈ C → p ∉ F.M0 := fun p hp => h.good.out p (by simp only [List.mem_append]; grind)
  have inBD : ∀ p, p ∈ B ++ D → p ∉ A1 ∧ p ∉ P1 ∧ p ∉ P2 ∧ p ∉ F.M0 := fun p hp => by
    rcases nB p hp with z | z
    · have q := fun y => trn p y z
      simp only [List.mem_append] at q
      grind
    · have q := ndC p z
      have q2 := outC p z
      grind
  have hU : ∀ x, x ∈ (A1 ++ (P1 ++ (C ++ P2)) ++ F.M0) ++ (B ++ D) → x ∈ A1 ++ (P1 ++ (C ++ P2)) ++ F.M0 ∨ H x = none := fun x hx => by
    rcases List.mem_append.mp hx with z | z
    · exact .inl z
    · rcases nB x z with y | y
      · exact .inr y
      · left; simp only [List.mem_append]; grind
  have hV : ∀ x, x ∈ (B ++ A1) ++ (P1 ++ (D ++ P2)) ++ F.M0 → x ∈ (A1 ++ (P1 ++ (C ++ P2)) ++ F.M0) ++ (B ++ D) ∨ H' x = none := fun x hx => .inl (by
    simp only [List.mem_append] at *
    grind)
  have kp : ∀ {B0 : List Addr}, (∀ p, p ∈ B0 → p ∈ A1 ∨ p ∈ P1 ∨ p ∈ P2) → ∀ p o, H p = some o → (p ∉ (A1 ++ (P1 ++ (C ++ P2)) ++ F.M0) ++ (B ++ D) ∨ p ∈ B0 ∨ isTup o = true) → H' p = some o := by
    intro B0 hB0 p o e hp
    by_cases hC : p ∈ C
    · exfalso
      obtain ⟨o', z, zt⟩ := tC p hC
      rw [e] at z
      cases z
      rcases hp with q | q | q
      · exact q (by simp only [List.mem_append]; grind)
      · have := hB0 p q
        have := ndC p hC
        grind
      · rw [zt] at q; cases q
    · exact st p o e hC
  refine ⟨B ++ A1, P1 ++ (D ++ P2), .cons ⟨v, rfl, ?_⟩ (((h.tmp.grow hU).keep (kp fun p hp => .inl hp)).grow hV), ?_, ?_⟩
  · rcases hM with c | hM
    · exact c hr
    · refine r.grow hr fun p hp => ?_
      show p ∈ (B ++ (D ++ [])) ++ [] ++ M0' ∨ _
      have z := hM p
      left
      simp only [List.mem_append] at *
      grind
  · have z := back ((B ++ A1) ++ (P1 ++ (D ++ P2)) ++ F.M0) H' (.pn w rio s') (some w) D (fun hs sub => Slot.ok_grow (Slot.ok_keep (Slot.ok_grow hs hU) (kp fun p hp => .inr (sub p hp))) hV) ⟨rfl, cio hio⟩
    rwa [set_self ew] at z
  · refine ⟨?_, fun p hp => ?_, fun p hp => ?_, fun p hp => ?_, fun p o e hI => ?_, h.good.m0⟩
    · simp only [List.nodup_append, List.mem_append] at *
      grind
    · have := h.good.out p
      have := inBD p
      simp only [List.mem_append] at *
      grind
    · by_cases hB : p ∈ B ++ D
      · rcases nB p hB with z | z
        · exact .inl (h.good.fresh z).1
        · exact h.good.new p (by simp only [List.mem_append]; grind)
      · exact h.good.new p (by simp only [List.mem_append] at *; grind)
    · obtain ⟨o, e, z⟩ := h.good.has p hp
      by_cases hC : p ∈ C
      · exact gx.has p hC
      · exact ⟨o, st p o e hC, z⟩
    · by_cases hC : p ∈ C
      · rcases h.good.new p (by simp only [List.mem_append]; grind) with z | z
        · rw [z] at e; cases e
        · exact absurd z hI
      · exact st p o (h.good.stay p o e hI) hC
/-- the reading of such a call: the first argument is the name in slot j -/
theorem go_callIo {U W A : Type} {n : Nat} {rio : Rp S} {Pr : U → List Slot} {r : Rp W} {f : U → SM S W} {fm : A → SM S W} {E : XK} {ta : TA} {G G' : S → List Slot} {LA : A → List Arg} {mA : SM S A} {w : V} (j : Nat) (u : A → U) (hf : ∀ a, fm a = f (u a)) (cio : rio.Clo) (h : GA F ta G G' (fun a => .v j :: LA a) mA) (hn : ∀ a, (LA a).length + 1 = n)
    (hG : ∀ s, (G' s)[j]? = some (.pn w rio s)) (hS : ∀ s s', (G' s).set j (.pn w rio s') = G' s')
    (he : ∀ a s, EntS (G' s) (LA a) (Pr (u a))) (hW : ∀ c d σ H, F.W c d σ H → E c d H) (hw : ∀ s, Weak (G' s) (F.io s)) :
    GE F (tCall (SpI K n rio Pr r f) [] E ta) G G' r (bnd mA fm) := by
  intro T t σ s H Q h0 q
  have ef : fm = fun a => f (u a) := funext hf
  subst ef
  refine h T t σ s H _ h0 (wp_mono (wp_bnd q) (fun a s1 q1 ts vs H1 at1 av => ?_) fun _ _ z => z)
  obtain ⟨A1, A2, at1⟩ := at1
  have lv : (vs ++ ([] : List V)).length = n := by rw [List.append_nil, (argV_len av).1, List.length_cons, hn]
  obtain ⟨v0, vr, evs, ev0, avr⟩ : ∃ v0 vr, vs = v0 :: vr ∧ σ[j]? = some (some v0) ∧ ArgV σ (LA a) ts vr := by
    cases av with
    | v e h => exact ⟨_, _, rfl, e, h⟩
  subst evs
  have at1' : AtP F ((tmps (LA a)).reverse ++ T) (ts.reverse ++ t) (G' s1) σ H1 A1 A2 := at1
  obtain ⟨x, C, P1, P2, ex, hC, eA, back⟩ := at1.loc.at_ (hG s1)
  rw [ev0] at ex
  cases ex
  obtain ⟨ew, hio⟩ := hC
  have ew' : v0 = w := Option.some.inj ew
  subst ew'
  have tC := rio.trk hio
  have nd := at1.good.nd
  have ndC : C.Nodup := by
    rw [eA] at nd
    simp only [List.nodup_append] at nd
    exact nd.2.1.2.1.1
  have tr := at1.m_trk
  have disC : ∀ p, p ∈ C → p ∉ A1 ++ (P1 ++ P2) ++ F.M0 := fun p hp z => by
    have out := at1.good.out p
    rw [eA] at nd out
    simp only [List.nodup_append, List.mem_append] at *
    grind
  have hent := entS_at at1' avr (he a s1)
  have entry : At (FC.c (K := K) (S := S) H1 C (A1 ++ (P1 ++ P2) ++ F.M0)) [] [] (.pn v0 rio s1 :: Pr (u a)) ((v0 :: vr).map some) H1 := by
    refine ⟨[], C ++ [], .nil, .cons ⟨rfl, cio hio⟩ (hent.grow fun p hp => .inl ?_), ⟨by simpa using ndC, fun p hp => disC p (by simpa using hp), fun p hp => .inr (show p ∈ C by simpa using hp), tC, fun _ _ e _ => e, fun p hp => ⟨tr p ?_, fun z => disC p z hp⟩⟩⟩
    · have hp' : p ∈ [] ++ (C ++ []) ++ (A1 ++ (P1 ++ P2) ++ F.M0) := hp
      rw [eA]
      simp only [List.mem_append, List.append_nil, List.nil_append] at *
      grind
    · have hp' : p ∈ A1 ++ (P1 ++ P2) ++ F.M0 := hp
      rw [eA]
      clear back at1 at1' h0 q q1
      simp only [List.mem_append] at *
      grind
  have hM : ∀ p, p ∈ A1 ++ (P1 ++ P2) ++ F.M0 → p ∈ A1 ++ (P1 ++ P2) ++ F.M0 := fun _ z => z
  show SpI K n rio Pr r f (v0 :: vr ++ []) H1 Q E
  rw [List.append_nil]
  rw [List.append_nil] at lv
  refine ⟨u a, s1, C, _, lv, entry, wp_mono q1 (fun b s2 q3 v H' hx => ?_) (fun e s2 q3 d H' hx => ?_)⟩
  · have z := At.backIo at1' eA back ev0 tC hx cio (.inr hM)
    rw [hS] at z
    exact q3 v H' (At.dropU (by simp [(argV_len avr).2]) z)
  · have z := At.backIo at1' eA back ev0 tC hx cio (.inr hM)
    rw [hS] at z
    have z2 := (At.dropU (by simp [(argV_len avr).2]) z).weak (hw s2)
    refine hW _ _ σ _ (q3 d H' ?_)
    exact At.dropM (T0 := [_]) (t0 := [.ref d]) (T := []) (t := []) rfl (T1 := T) (t1 := t) (by obtain ⟨B1, B2, hz⟩ := h0; have := hz.tmp.length; simpa using this) (by simpa using z2)
end
section
variable {X : Cx} {S : Type} {F : FC X.K S} {U W A : Type} {n k : Nat} {rio : Rp S} {Pr : U → List Slot} {r : Rp W} {f : U → SM S W} {E : XK} {ta : TA} {G G' : S → List Slot} {LA : A → List Arg} {mA : SM S A} {CX : CXT} {fa : Addr} {fd : FuncData} {ps : List Str} {x : Str} {p pos : Pos} {e : Expr} {es : List Expr} {w : V}
theorem ex_callIo {fm : A → SM S W} (j : Nat) (u : A → U) (FO : FnOk X.prog X.w X.K X.mg X.base CX k fa fd ps (SpI X.K n rio Pr r f)) (hr : Room k X.A) (hg : Gl X x) (hm : X.mg x = some (.ref fa)) (hk : PySem.W.keepIn X.K (.ref fa) = true) (hb : Binds X.K fd ps []) (hx : Passes CX X E)
    (cio : rio.Clo) (h : EA X F (e :: es) ta G G' (fun a => .v j :: LA a) mA) (hn : ∀ a, (LA a).length + 1 = n) (hG : ∀ s, (G' s)[j]? = some (.pn w rio s)) (hS : ∀ s s', (G' s).set j (.pn w rio s') = G' s')
    (he : ∀ a s, EntS (G' s) (LA a) (Pr (u a))) (hW : ∀ c d σ H, F.W c d σ H → E c d H) (hw : ∀ s, Weak (G' s) (F.io s))
    (hf : ∀ a, fm a = f (u a) := by intro _; rfl)
    (hst : PySem.W.isStarred e = false := by rfl) (hpl : (backTo pos (starEach es X.env)).any (·.1) = false := by rfl) (hdb : (x == ("__debug__" : Str)) = false := by decide) :
    EX X F (.Call (.Name x p) (e :: es) [] pos) (tCall (SpI X.K n rio Pr r f) [] E ta) G G' r (bnd mA fm) :=
  ⟨pe_call FO hr hg hm hk hb .nil hx h.pa (hdb := hdb) (he := star1 hst) (hpl := hpl), go_callIo j u hf cio h.go hn hG hS he hW hw⟩
end
end Td

set_option Elab.async false
set_option linter.all false
set_option maxRecDepth 100000
set_option maxHeartbeats 4000000
namespace Td
open PySem PySem.Spec PyProof.Rows L2

/-! ### what is walked -/
section
variable {X : Cx} {S : Type} {F : FC X.K S} {A : Type} {rx : Rp A} {tg e a b c : Expr} {te ta tb tc : TE} {G G1 G2 G3 G' : S → List Slot} {m : SM S (List A)} {mi m1 m2 m3 : SM S Int} {pos p0 : Pos}
theorem ei_sh (h : EX X F e te G G' (sh (rList rx)) m) (c : rx.Cp) : EI X F tg e (iList X.K te) G G' (fun _ => True) rx m :=
  ⟨pi_list h.pe, fun T t σ s H R h0 q => h.go T t σ s H _ h0 (wp_mono q (fun xs s1 q1 v H1 at1 => by
    obtain ⟨M, B, _, C, ⟨p, vs, D, ev, hp, hD, _⟩, _⟩ := top_rel at1
    subst ev
    exact ⟨p, rfl, ⟨vs, SqL.of hp⟩, q1 _ [_] [_] H1 (src_sh c) at1⟩) fun _ _ z => z)⟩
theorem ei_shS (h : EX X F e te G G' (sh (rList rx)) m) : EI X F tg e (iList X.K te) G G' (fun _ => True) (sh rx) m :=
  ⟨pi_list h.pe, fun T t σ s H R h0 q => h.go T t σ s H _ h0 (wp_mono q (fun xs s1 q1 v H1 at1 => by
    obtain ⟨M, B, _, C, ⟨p, vs, D, ev, hp, hD, _⟩, _⟩ := top_rel at1
    subst ev
    exact ⟨p, rfl, ⟨vs, SqL.of hp⟩, q1 _ [_] [_] H1 src_shS at1⟩) fun _ _ z => z)⟩
def rngG {S : Type} (j : Int) : SM S Unit := grd (-(2 ^ 62) ≤ j ∧ j < 2 ^ 62)
theorem ei_rng1 (h : EX X F a ta G G' rInt mi) (hg : Gl X "range") (hm : X.mg "range" = none) (hs : PySem.W.isStarred a = false := by rfl) :
    EI X F tg (.Call (.Name "range" p0) [a] [] pos) (iRng1 (tCons ta tNil)) G G' (fun _ => True) rInt (bnd mi fun j => bnd (rngG j) fun _ => ret (upto 0 j.toNat)) :=
  ⟨pi_range1 hg hm (pa_cons h.pe pa_nil (star1 hs)) (by first | (rw [star1 hs]; done) | (rw [star1 hs]; rfl)), fun T t σ s H R h0 q => h.go T t σ s H _ h0 (wp_mono (wp_bnd q) (fun j s1 q1 v H1 at1 => by
    obtain ⟨⟨h1, h2⟩, q1⟩ := wp_grd (wp_bnd q1)
    obtain ⟨M, B, k, _⟩ := top_rel at1
    exact ⟨j, by rw [k], h1, h2, q1 _ [] [] H1 src_rng at1.pop⟩) fun _ _ z => z)⟩
theorem ei_rng2 (h : EX X F a ta G G1 rInt m1) (h2 : EX X F b tb G1 G2 rInt m2) (hg : Gl X "range") (hm : X.mg "range" = none) (hs : PySem.W.isStarred a = false := by rfl) (hs2 : PySem.W.isStarred b = false := by rfl) :
    EI X F tg (.Call (.Name "range" p0) [a, b] [] pos) (iRng2 (tCons ta (tCons tb tNil))) G G2 (fun _ => True) rInt (bnd m1 fun i => bnd m2 fun j => bnd (rngG i) fun _ => bnd (rngG j) fun _ => ret (upto i (j - i).toNat)) :=
  ⟨pi_range2 hg hm (pa_cons h.pe (pa_cons h2.pe pa_nil (star1 hs2)) (star1 hs)) (by first | (rw [star1 hs, star1 hs2]; done) | (rw [star1 hs, star1 hs2]; rfl)) (by first | (rw [star1 hs2]; done) | (rw [star1 hs2]; rfl)), fun T t σ s H R h0 q => h.go T t σ s H _ h0 (wp_mono (wp_bnd q) (fun i s1 q1 v H1 at1 => by
    refine h2.go _ _ σ s1 H1 _ at1 (wp_mono (wp_bnd q1) (fun j s2 q2 w H2 at2 => ?_) fun _ _ z => z)
    obtain ⟨⟨h1, h2⟩, q2⟩ := wp_grd (wp_bnd q2)
    obtain ⟨⟨h3, h4⟩, q2⟩ := wp_grd (wp_bnd q2)
    obtain ⟨M1, B1, k1, _⟩ := snd_rel at2
    obtain ⟨M2, B2, k2, _⟩ := top_rel at2
    exact ⟨i, j, by rw [k1, k2], ⟨h1, h2, h3, h4⟩, q2 _ [] [] H2 src_rng at2.pop.pop⟩) fun _ _ z => z)⟩
/-- hi, hi - 1, .. above lo -/
def dnto (hi : Int) (n : Nat) : List Int := (List.range n).map fun (i : Nat) => hi + (i : Int) * (-1)
theorem dnto_len (lo : Int) (n : Nat) : (dnto lo n).length = n := by simp [dnto]
theorem dnto_get {lo : Int} {n i : Nat} {a : Int} (h : (dnto lo n)[i]? = some a) : a = lo + (i : Int) * (-1) := by
  unfold dnto at h
  rw [List.getElem?_map] at h
  cases e : (List.range n)[i]? with
  | none => rw [e] at h; cases h
  | some j =>
    rw [e] at h
    have e2 : j = i := by
      rw [List.getElem?_range] at e
      · cases e; rfl
      · have := (List.getElem?_eq_some_iff.mp e).1
        simpa using this
    subst e2
    exact (Option.some.inj h).symm
theorem src_dn {K : PySem.W.Frag} {F : FC K S} {lo : Int} {n : Nat} : Src F (fun _ => True) (Itc lo (-1) n) [] [] rInt (dnto lo n) where
  len := rfl
  go := fun _ _ _ hi => by rw [dnto_len] at hi; exact hi
  stop := fun _ _ _ hi => by rw [dnto_len] at hi; exact hi
  yld := by
    intro i a x T1 t1 T t G σ H H' _ e h hy ha
    obtain ⟨rfl, rfl⟩ := hy
    rw [dnto_get ha]
    exact At.push h fun _ => ⟨rfl, rfl⟩
theorem ei_rng3 {k : Nat} {p1 p2 : Pos} (h : EX X F a ta G G1 rInt m1) (h2 : EX X F b tb G1 G2 rInt m2) (hg : Gl X "range") (hm : X.mg "range" = none) (hs : PySem.W.isStarred a = false := by rfl) (hs2 : PySem.W.isStarred b = false := by rfl) :
    EI X F tg (.Call (.Name "range" p0) [a, b, .UnaryOp .USub (.Constant (.int 1) k p1) p2] [] pos) (iRng3 (tCons ta (tCons tb (tCons (tUn (rU fun i => .int (-i)) (tC (.int 1))) tNil)))) G G2 (fun _ => True) rInt (bnd m1 fun i => bnd m2 fun j => bnd (rngG i) fun _ => bnd (rngG j) fun _ => ret (dnto i (i - j).toNat)) :=
  ⟨pi_range3 hg hm (pa_cons h.pe (pa_cons h2.pe (pa_cons (pe_un un_neg pe_int) pa_nil) (star1 hs2)) (star1 hs)) (star1 hs) (by rw [star1 hs2]; rfl), fun T t σ s H R h0 q => h.go T t σ s H _ h0 (wp_mono (wp_bnd q) (fun i s1 q1 v H1 at1 => by
    refine h2.go _ _ σ s1 H1 _ at1 (wp_mono (wp_bnd q1) (fun j s2 q2 w H2 at2 => ?_) fun _ _ z => z)
    obtain ⟨⟨h1, h2⟩, q2⟩ := wp_grd (wp_bnd q2)
    obtain ⟨⟨h3, h4⟩, q2⟩ := wp_grd (wp_bnd q2)
    obtain ⟨M1, B1, k1, _⟩ := snd_rel at2
    obtain ⟨M2, B2, k2, _⟩ := top_rel at2
    exact ⟨1, rfl, i, j, -1, (i - j).toNat, by rw [k1, k2], RgC.neg h1 h2 h3 h4, q2 _ [] [] H2 src_dn at2.pop.pop⟩) fun _ _ z => z)⟩
end
section
variable {K : PySem.W.Frag} {S : Type} {F : FC K S} {A B : Type} {rx : Rp A} {ry : Rp B}
/-- (0, x), (1, y), .. -/
def enum {A : Type} (xs : List A) : List (Int × A) := xs.mapIdx fun i x => ((i : Int), x)
theorem enum_len {A : Type} (xs : List A) : (enum xs).length = xs.length := by simp [enum]
theorem enum_get {A : Type} {xs : List A} {i : Nat} {a : Int × A} (h : (enum xs)[i]? = some a) : a.1 = (i : Int) ∧ xs[i]? = some a.2 := by
  unfold enum at h
  rw [List.getElem?_mapIdx] at h
  cases e : xs[i]? with
  | none => rw [e] at h; cases h
  | some x => rw [e] at h; cases h; exact ⟨rfl, rfl⟩
theorem src_enum {a : Addr} {xs : List A} : Src F (fun _ => True) (Ite K a) [.is (sh (rList rx)) xs] [.ref a] (rPair rInt (sh rx)) (enum xs) where
  len := rfl
  go := by
    intro i T1 t1 T t G σ H _ e h hi
    rw [enum_len] at hi
    obtain ⟨A1, A2, h⟩ := h
    obtain ⟨B, v, ev, _, C, ⟨p, vs, A, ep, hp, hA, _⟩, _⟩ := held e h
    cases ev
    cases ep
    have hi' : i < vs.length := by rw [hA.length]; exact hi
    exact ⟨vs, vs[i], SqL.of hp, List.getElem?_eq_getElem hi'⟩
  stop := by
    intro i T1 t1 T t G σ H _ e h hi
    rw [enum_len] at hi
    obtain ⟨A1, A2, h⟩ := h
    obtain ⟨B, v, ev, _, C, ⟨p, vs, A, ep, hp, hA, _⟩, _⟩ := held e h
    cases ev
    cases ep
    exact ⟨vs, SqL.of hp, by rw [hA.length]; exact hi⟩
  yld := by
    intro i a x T1 t1 T t G σ H H' _ e h hy ha
    obtain ⟨ha1, ha2⟩ := enum_get ha
    obtain ⟨A1, A2, h⟩ := h
    obtain ⟨B, v, ev, _, C, ⟨p, vs, A, ep, hp, hA, eC⟩, hC⟩ := held e h
    cases ev
    cases ep
    obtain ⟨T, y, rfl, hT, rfl, hy⟩ := hy
    obtain ⟨w, D, e1, hr, sub⟩ := hA.get' ha2
    have e2 := hy vs (SqL.of hp)
    rw [e1] at e2
    cases e2
    have z1 := h.pushM (r := rInt) (a := a.1) (u := .int (i : Nat)) ⟨by rw [ha1], rfl⟩
    have z2 := z1.pushM (r := sh rx) (a := a.2) (u := y) ⟨rfl, D, hr, fun x hx => hC x (by rw [eC]; exact List.mem_cons_of_mem _ (sub x hx))⟩
    exact At.tup2 ⟨A1, A2, z2⟩ hT
theorem src_enumC {a : Addr} {xs : List A} (c : rx.Cp) : Src F (fun _ => True) (Ite K a) [.is (sh (rList rx)) xs] [.ref a] (rPair rInt rx) (enum xs) where
  len := rfl
  go := (src_enum (rx := rx) (xs := xs) (a := a)).go
  stop := (src_enum (rx := rx) (xs := xs) (a := a)).stop
  yld := by
    intro i a x T1 t1 T t G σ H H' _ e h hy ha
    obtain ⟨ha1, ha2⟩ := enum_get ha
    obtain ⟨A1, A2, h⟩ := h
    obtain ⟨B, v, ev, _, C, ⟨p, vs, A, ep, hp, hA, eC⟩, hC⟩ := held e h
    cases ev
    cases ep
    obtain ⟨T, y, rfl, hT, rfl, hy⟩ := hy
    obtain ⟨w, D, e1, hr, sub⟩ := hA.get' ha2
    have e2 := hy vs (SqL.of hp)
    rw [e1] at e2
    cases e2
    have eD := c hr
    subst eD
    have z1 := h.pushM (r := rInt) (a := a.1) (u := .int (i : Nat)) ⟨by rw [ha1], rfl⟩
    have z2 := z1.pushM (r := rx) (a := a.2) (u := y) hr
    exact At.tup2 ⟨A1, A2, z2⟩ hT
/-- two lists side by side -/
theorem zip_get {xs : List A} {ys : List B} {i : Nat} {a : A × B} (h : (xs.zip ys)[i]? = some a) : xs[i]? = some a.1 ∧ ys[i]? = some a.2 := by
  rw [List.getElem?_zip_eq_some] at h
  exact h
theorem src_zip {a b : Addr} {xs : List A} {ys : List B} : Src F (fun _ => True) (Itz K a b) [.is (sh (rList ry)) ys, .is (sh (rList rx)) xs] [.ref b, .ref a] (rPair (sh rx) (sh ry)) (xs.zip ys) where
  len := rfl
  go := by
    intro i T1 t1 T t G σ H _ e h hi
    rw [List.length_zip] at hi
    obtain ⟨A1, A2, h⟩ := h
    obtain ⟨_, v, ev, _, _, ⟨p, vs, _, ep, hp, hA, _⟩, _⟩ := held e h
    have h2 : AtP F ((T1 ++ [.is (sh (rList ry)) ys]) ++ ([.is (sh (rList rx)) xs] ++ T)) ((t1 ++ [.ref b]) ++ ([.ref a] ++ t)) G σ H A1 A2 := by simpa using h
    obtain ⟨_, v2, ev2, _, _, ⟨p2, vs2, _, ep2, hp2, hA2, _⟩, _⟩ := held (by simp [e]) h2
    cases ev
    cases ep
    cases ev2
    cases ep2
    have i1 : i < vs2.length := by rw [hA2.length]; omega
    have i2 : i < vs.length := by rw [hA.length]; omega
    exact ⟨vs2, vs, vs2[i], vs[i], SqL.of hp2, SqL.of hp, List.getElem?_eq_getElem i1, List.getElem?_eq_getElem i2⟩
  stop := by
    intro i T1 t1 T t G σ H _ e h hi
    rw [List.length_zip] at hi
    obtain ⟨A1, A2, h⟩ := h
    obtain ⟨_, v, ev, _, _, ⟨p, vs, _, ep, hp, hA, _⟩, _⟩ := held e h
    have h2 : AtP F ((T1 ++ [.is (sh (rList ry)) ys]) ++ ([.is (sh (rList rx)) xs] ++ T)) ((t1 ++ [.ref b]) ++ ([.ref a] ++ t)) G σ H A1 A2 := by simpa using h
    obtain ⟨_, v2, ev2, _, _, ⟨p2, vs2, _, ep2, hp2, hA2, _⟩, _⟩ := held (by simp [e]) h2
    cases ev
    cases ep
    cases ev2
    cases ep2
    exact ⟨vs2, vs, SqL.of hp2, SqL.of hp, by rw [hA2.length, hA.length]; omega⟩
  yld := by
    intro i c x T1 t1 T t G σ H H' _ e h hy ha
    obtain ⟨ha1, ha2⟩ := zip_get ha
    obtain ⟨A1, A2, h⟩ := h
    obtain ⟨_, v, ev, _, C, ⟨p, vs, _, ep, hp, hA, eC⟩, hC⟩ := held e h
    have h2 : AtP F ((T1 ++ [.is (sh (rList ry)) ys]) ++ ([.is (sh (rList rx)) xs] ++ T)) ((t1 ++ [.ref b]) ++ ([.ref a] ++ t)) G σ H A1 A2 := by simpa using h
    obtain ⟨_, v2, ev2, _, C2, ⟨p2, vs2, _, ep2, hp2, hA2, eC2⟩, hC2⟩ := held (by simp [e]) h2
    cases ev
    cases ep
    cases ev2
    cases ep2
    obtain ⟨T, y1, y2, rfl, hT, rfl, hy1, hy2⟩ := hy
    obtain ⟨w1, D1, e1, hr1, sub1⟩ := hA2.get' ha1
    obtain ⟨w2, D2, e2, hr2, sub2⟩ := hA.get' ha2
    have q1 := hy1 vs2 (SqL.of hp2)
    have q2 := hy2 vs (SqL.of hp)
    rw [e1] at q1
    rw [e2] at q2
    cases q1
    cases q2
    have z1 := h.pushM (r := sh rx) (a := c.1) (u := y1) ⟨rfl, D1, hr1, fun x hx => hC2 x (by rw [eC2]; exact List.mem_cons_of_mem _ (sub1 x hx))⟩
    have z2 := z1.pushM (r := sh ry) (a := c.2) (u := y2) ⟨rfl, D2, hr2, fun x hx => hC x (by rw [eC]; exact List.mem_cons_of_mem _ (sub2 x hx))⟩
    exact At.tup2 ⟨A1, A2, z2⟩ hT
end
section
variable {X : Cx} {S : Type} {F : FC X.K S} {A B : Type} {rx : Rp A} {ry : Rp B} {e a b : Expr} {elts : List Expr} {kk : Nat} {tpos : Pos} {te ta tb : TE} {G G1 G2 G' : S → List Slot} {m : SM S (List A)} {m2 : SM S (List B)} {pos p0 : Pos}
theorem ei_enum (h : EX X F e te G G' (sh (rList rx)) m) (c : rx.Cp) (hg : Gl X "enumerate") (hm : X.mg "enumerate" = none) (hs : PySem.W.isStarred e = false := by rfl) :
    EI X F (.Tuple elts kk tpos) (.Call (.Name "enumerate" p0) [e] [] pos) (iEnum X.K (tCons te tNil)) G G' (fun _ => True) (rPair rInt rx) (bnd m fun xs => ret (enum xs)) :=
  ⟨pi_enum hg hm (pa_cons h.pe pa_nil (star1 hs)) (by first | (rw [star1 hs]; done) | (rw [star1 hs]; rfl)), fun T t σ s H R h0 q => h.go T t σ s H _ h0 (wp_mono (wp_bnd q) (fun xs s1 q1 v H1 at1 => by
    obtain ⟨M, B, _, C, ⟨p, vs, D, ev, hp, hD, _⟩, _⟩ := top_rel at1
    subst ev
    exact ⟨p, vs, rfl, SqL.of hp, q1 _ [_] [_] H1 (src_enumC c) at1⟩) fun _ _ z => z)⟩
theorem ei_enumS (h : EX X F e te G G' (sh (rList rx)) m) (hg : Gl X "enumerate") (hm : X.mg "enumerate" = none) (hs : PySem.W.isStarred e = false := by rfl) :
    EI X F (.Tuple elts kk tpos) (.Call (.Name "enumerate" p0) [e] [] pos) (iEnum X.K (tCons te tNil)) G G' (fun _ => True) (rPair rInt (sh rx)) (bnd m fun xs => ret (enum xs)) :=
  ⟨pi_enum hg hm (pa_cons h.pe pa_nil (star1 hs)) (by first | (rw [star1 hs]; done) | (rw [star1 hs]; rfl)), fun T t σ s H R h0 q => h.go T t σ s H _ h0 (wp_mono (wp_bnd q) (fun xs s1 q1 v H1 at1 => by
    obtain ⟨M, B, _, C, ⟨p, vs, D, ev, hp, hD, _⟩, _⟩ := top_rel at1
    subst ev
    exact ⟨p, vs, rfl, SqL.of hp, q1 _ [_] [_] H1 src_enum at1⟩) fun _ _ z => z)⟩
theorem ei_zip (h : EX X F a ta G G1 (sh (rList rx)) m) (h2 : EX X F b tb G1 G2 (sh (rList ry)) m2) (hg : Gl X "zip") (hm : X.mg "zip" = none) (hs : PySem.W.isStarred a = false := by rfl) (hs2 : PySem.W.isStarred b = false := by rfl) :
    EI X F (.Tuple elts kk tpos) (.Call (.Name "zip" p0) [a, b] [] pos) (iZip X.K (tCons ta (tCons tb tNil))) G G2 (fun _ => True) (rPair (sh rx) (sh ry)) (bnd m fun xs => bnd m2 fun ys => ret (xs.zip ys)) :=
  ⟨pi_zip hg hm (pa_cons h.pe (pa_cons h2.pe pa_nil (star1 hs2)) (star1 hs)) (by first | (rw [star1 hs, star1 hs2]; done) | (rw [star1 hs, star1 hs2]; rfl)) (by first | (rw [star1 hs2]; done) | (rw [star1 hs2]; rfl)), fun T t σ s H R h0 q => h.go T t σ s H _ h0 (wp_mono (wp_bnd q) (fun xs s1 q1 v H1 at1 => by
    refine h2.go _ _ σ s1 H1 _ at1 (wp_mono (wp_bnd q1) (fun ys s2 q2 w H2 at2 => ?_) fun _ _ z => z)
    obtain ⟨M, B, _, C, ⟨p, vs, D, ev, hp, hD, _⟩, _⟩ := snd_rel at2
    obtain ⟨M', B', _, C', ⟨p', vs', D', ev', hp', hD', _⟩, _⟩ := top_rel at2
    subst ev
    subst ev'
    exact ⟨p, p', vs, vs', rfl, SqL.of hp, SqL.of hp', q2 _ [_, _] [_, _] H2 src_zip at2⟩) fun _ _ z => z)⟩
end

/-! ### comprehensions -/
def FC.nx {K : PySem.W.Frag} {S : Type} (F : FC K S) : FC K S := { F with W := fun _ _ _ _ => False }
/-- nothing is raised -/
def nxc {S T : Type} (m : SM S T) : SM S T := fun s => match m s with
  | .ok a s' => .ok a s'
  | .exc _ _ => .stuck
  | .stuck => .stuck
theorem wp_nxc {S T : Type} {m : SM S T} {s : S} {P : T → S → Prop} {E E' : Exn → S → Prop} (h : (nxc m s).wp P E) : (m s).wp P E' := by
  unfold nxc at h
  cases hm : m s with
  | ok a s' => rw [hm] at h; exact h
  | exc e s' => rw [hm] at h; exact h.elim
  | stuck => rw [hm] at h; exact h
def lcM {S A B : Type} (f : A → SM S (Option B)) : List B → List A → SM S (List B)
  | acc, [] => ret acc
  | acc, x :: xs => bnd (nxc (f x)) fun o => match o with
    | some b => bnd (grd (acc.length < sizeLine)) fun _ => lcM f (acc ++ [b]) xs
    | none => lcM f acc xs
/-- an item of a comprehension: the test, then the element -/
def lcIt {S B : Type} (mt : SM S Bool) (me : SM S B) : SM S (Option B) := bnd mt fun k => if k then bnd me fun b => ret (some b) else ret none
structure ETs (X : Cx) {S : Type} (F : FC X.K S) (ifs : List Expr) (tt : TT) (G G' : S → List Slot) (m : SM S Bool) : Prop where
  pt : PTs X ifs tt
  go : GT F tt G G' m
section
variable {X : Cx} {S : Type} {F : FC X.K S} {G G1 G2 : S → List Slot}
theorem ets_nil : ETs X F [] tYes G G (ret true) := ⟨pts_nil, fun T t σ s H Q h q => q H h⟩
theorem ets_one {c : Expr} {tc : TT} {m : SM S Bool} (h : ET X F c tc G G1 m) : ETs X F [c] tc G G1 m := ⟨pts_one h.pt, h.go⟩
theorem nx_at {K : PySem.W.Frag} {F : FC K S} {T : List Slot} {t : List V} {Gs : List Slot} {σ : L2.St} {H : Hp} (h : At F T t Gs σ H) : At F.nx T t Gs σ H := h.re rfl rfl rfl
theorem at_nx {K : PySem.W.Frag} {F : FC K S} {T : List Slot} {t : List V} {Gs : List Slot} {σ : L2.St} {H : Hp} (h : At F.nx T t Gs σ H) : At F T t Gs σ H := h.re rfl rfl rfl
theorem wipe_get {vs : List Nat} {σ : L2.St} {j : Nat} (h : j ∉ vs) : (wipe σ vs)[j]? = σ[j]? := by
  induction vs with
  | nil => rfl
  | cons v vs ih =>
    unfold wipe
    rw [List.getElem?_set_ne (by intro z; exact h (by simp [z]))]
    exact ih fun z => h (List.mem_cons_of_mem _ z)
theorem wipe_in {vs : List Nat} {σ : L2.St} {j : Nat} (h : j ∈ vs) : (wipe σ vs)[j]? = if j < σ.length then some none else none := by
  induction vs with
  | nil => cases h
  | cons v vs ih =>
    unfold wipe
    by_cases e : v = j
    · subst e
      rw [List.getElem?_set]
      simp [wipe_length]
    · rw [List.getElem?_set_ne e]
      rcases List.mem_cons.mp h with z | z
      · exact absurd z.symm e
      · exact ih z
theorem wipe_eq {vs ws : List Nat} {σ σ2 : L2.St} (hl : σ2.length = (wipe σ vs).length) (hk : ∀ j, j ∉ ws → σ2[j]? = (wipe σ vs)[j]?) (sub : ∀ j, j ∈ ws → j ∈ vs) : wipe σ2 vs = wipe σ vs := by
  apply List.ext_getElem?
  intro j
  by_cases h : j ∈ vs
  · rw [wipe_in h, wipe_in h, hl, wipe_length]
  · rw [wipe_get h, wipe_get h, hk j fun z => h (sub j z), wipe_get h]
/-- the slots of a comprehension's own names -/
def setUn (G : List Slot) : List Nat → List Slot
  | [] => G
  | v :: vs => (setUn G vs).set v .un
theorem AtS.wiped {K : PySem.W.Frag} {M : List Addr} {H : Hp} : ∀ {vs : List Nat} {G : List Slot} {s : L2.St} {A : List Addr}, AtS K M H G s A → (∀ v, v ∈ vs → G[v]? = some .un ∨ G[v]? = none) → AtS K M H G (wipe s vs) A
  | [], _, _, _, h, _ => h
  | v :: vs, G, s, A, h, hv => by
    have z := AtS.wiped (vs := vs) h fun v h => hv v (List.mem_cons_of_mem _ h)
    unfold wipe
    rcases hv v (List.mem_cons_self ..) with e | e
    · obtain ⟨x, B, A1, A2, e1, h1, eA, back⟩ := z.at_ e
      have y := back M H .un none [] (fun h _ => h) rfl
      rw [set_self e] at y
      have eB : B = [] := h1
      subst eB
      rw [eA]
      exact y
    · have hl := z.length
      rw [List.set_eq_of_length_le (by rw [hl]; exact List.getElem?_eq_none_iff.mp e)]
      exact z
theorem At.wiped {K : PySem.W.Frag} {F : FC K S} {T : List Slot} {t : List V} {Gs : List Slot} {σ : L2.St} {H : Hp} {vs : List Nat} (h : At F T t Gs σ H) (hv : ∀ v, v ∈ vs → Gs[v]? = some .un ∨ Gs[v]? = none) : At F T t Gs (wipe σ vs) H := by
  obtain ⟨A1, A2, h⟩ := h
  exact ⟨A1, A2, h.tmp, h.loc.wiped hv, h.good⟩
end
end Td

set_option Elab.async false
set_option linter.all false
set_option maxRecDepth 100000
set_option maxHeartbeats 4000000
namespace Td
open PySem PySem.Spec PyProof.Rows L2

theorem AtS.re {K : PySem.W.Frag} {M : List Addr} {H : Hp} {G : List Slot} {s : L2.St} {A : List Addr} (h : AtS K M H G s A) : ∀ {s' : L2.St}, s'.length = s.length → (∀ (j : Nat), G[j]? = some Slot.un ∨ s'[j]? = s[j]?) → AtS K M H G s' A := by
  induction h with
  | nil =>
    intro s' e _
    obtain rfl : s' = [] := List.eq_nil_of_length_eq_zero (by simpa using e)
    exact .nil
  | @cons g x B G s A h t ih =>
    intro s' e k
    cases s' with
    | nil => simp at e
    | cons y s' =>
      refine .cons ?_ (ih (by simpa using e) fun j => by simpa using k (j + 1))
      rcases k 0 with z | z
      · have eg : g = .un := by simpa using z
        subst eg
        exact h
      · have ey : y = x := by simpa using z
        rw [ey]; exact h
theorem At.reS {K : PySem.W.Frag} {S : Type} {F : FC K S} {T : List Slot} {t : List V} {G : List Slot} {σ σ' : L2.St} {H : Hp} (h : At F T t G σ H) (e : σ'.length = σ.length) (k : ∀ (j : Nat), G[j]? = some Slot.un ∨ σ'[j]? = σ[j]?) : At F T t G σ' H := by
  obtain ⟨A1, A2, h⟩ := h
  exact ⟨A1, A2, h.tmp, h.loc.re e k, h.good⟩

section
variable {X : Cx} {S : Type} {F : FC X.K S} {A B : Type} {rx : Rp A} {rb : Rp B} {tg e elt : Expr} {ifs : List Expr} {scope : Scope} {own : List (Str × Nat)} {wi : TI} {g : TG} {ws : List Nat} {tt : TT} {te : TE} {G G1 : S → List Slot} {C : List Slot → Prop} {mi : SM S (List A)} {Gt : S → A → List Slot} {mt : A → SM S Bool} {me : A → SM S B} {pos : Pos}
theorem go_lc (hi : GI F wi G G1 C rx mi) (hC : ∀ s, C (G1 s)) (hun : ∀ s v, v ∈ own.map (·.2) → (G1 s)[v]? = some .un ∨ (G1 s)[v]? = none) (sub : ∀ j, j ∈ ws → j ∈ own.map (·.2)) (hg : ∀ s, GG F.nx g ws rx (G1 s) (Gt s)) (hwk : ∀ s x, Weak (Gt s x) (G1 s))
    (ht : ∀ x, GT F.nx tt (fun s => Gt s x) (fun s => Gt s x) (mt x)) (he : ∀ x, GE F.nx te (fun s => Gt s x) (fun s => Gt s x) rb (me x)) : GE F (tLc wi g tt te (own.map (·.2))) G G1 (rList rb) (bnd mi fun xs => lcM (fun x => lcIt (mt x) (me x)) [] xs) := by
  intro T t σ s H Q h0 q
  refine hi T t σ s H _ h0 (wp_mono (wp_bnd q) (fun xs s1 q1 J gv hv H1 src at1 D hD => ?_) fun _ _ z => z)
  refine ⟨fun i m H => m = xs.length - i ∧ i ≤ xs.length ∧ ∃ s acc, At F (.is (rList rb) acc :: (gv ++ T)) (.ref D :: (hv ++ t)) (G1 s) σ H ∧
      (lcM (fun x => lcIt (mt x) (me x)) acc (xs.drop i) s).wp (fun a s' => ∀ v H', At F (.is (rList rb) a :: T) (v :: t) (G1 s') σ H' → Q v H') (XP F σ),
    ⟨xs.length, by simp, Nat.zero_le _, s1, [], At.lst (r := rb) (as := []) (vs := []) (by simpa [pend] using at1) rfl hD, by simpa using q1⟩, ?_⟩
  rintro i m H ⟨rfl, hi, s, acc, at2, q2⟩
  by_cases hlt : i < xs.length
  · refine .inr ⟨src.go (T1 := [_]) (t1 := [_]) (hC s) rfl at2 hlt, fun H' => ∃ s acc, At F (.is (rList rb) acc :: (gv ++ T)) (.ref D :: (hv ++ t)) (G1 s) σ H' ∧
      (lcM (fun x => lcIt (mt x) (me x)) acc (xs.drop (i + 1)) s).wp (fun a s' => ∀ v H', At F (.is (rList rb) a :: T) (v :: t) (G1 s') σ H' → Q v H') (XP F σ),
      fun H' ⟨s, acc, at3, q3⟩ => ⟨xs.length - (i + 1), by omega, rfl, hlt, s, acc, at3, q3⟩, fun x H' hy => ?_⟩
    have at3 := src.yld (T1 := [_]) (t1 := [_]) (hC s) rfl at2 hy (List.getElem?_eq_getElem hlt)
    refine hg s _ _ _ H' x xs[i] _ (nx_at (at3.wiped (hun s))) fun σ2 at4 l4 k4 => ?_
    refine ⟨wipe_eq l4 k4 sub, ?_⟩
    rw [List.drop_eq_getElem_cons hlt] at q2
    have back : ∀ {T' : List Slot} {t' : List V} {s' : S} {H3 : Hp}, At F.nx T' t' (Gt s' xs[i]) σ2 H3 → At F T' t' (G1 s') σ H3 := fun {T' t' s' H3} z => by
      have y := (at_nx z).weak (hwk s' xs[i])
      refine y.reS (by rw [l4, wipe_length]) fun j => ?_
      by_cases hj : j ∈ own.map (·.2)
      · rcases hun s' j hj with w | w
        · exact .inl w
        · right
          have hl : σ2.length ≤ j := by rw [y.len]; exact List.getElem?_eq_none_iff.mp w
          rw [List.getElem?_eq_none hl, List.getElem?_eq_none (by rw [l4, wipe_length] at hl; exact hl)]
      · right
        rw [k4 j fun w => hj (sub j w), wipe_get hj]
    have q3 := wp_nxc (E' := XP F.nx σ2) (wp_bnd q2)
    refine ht xs[i] _ _ σ2 s H' _ at4 (wp_mono (wp_bnd q3) (fun k s4 q4 H4 at5 => ?_) fun _ _ z => z)
    cases k with
    | true =>
      rw [if_pos rfl] at q4
      rw [if_pos rfl]
      refine he xs[i] _ _ σ2 s4 H4 _ at5 (wp_mono (wp_bnd q4) (fun b s5 q5 v H5 at6 => ?_) fun _ _ z => z)
      have at7 := back at6
      obtain ⟨hz, q6⟩ := wp_grd (wp_bnd (show (bnd (grd (acc.length < sizeLine)) (fun _ => lcM (fun x => lcIt (mt x) (me x)) (acc ++ [b]) (List.drop (i + 1) xs)) s5).wp _ _ from q5))
      obtain ⟨us, hDu, hl, at8⟩ := At.appendT at7
      exact ⟨us, hDu, by rw [hl]; exact hz, s5, acc ++ [b], at8, q6⟩
    | false =>
      rw [if_neg Bool.false_ne_true] at q4
      rw [if_neg Bool.false_ne_true]
      exact ⟨s4, acc, back at5, q4⟩
  · have e : i = xs.length := by omega
    subst e
    rw [List.drop_length] at q2
    refine .inl ⟨src.stop (T1 := [_]) (t1 := [_]) (hC s) rfl at2 (Nat.le_refl _), ?_⟩
    exact q2 _ H (At.dropU src.len at2)
theorem ex_lc (sh0 : Shared) (hc : X.calm = true) (hN : X.N.Nodup) (hi : EI X F tg e wi G G1 C rx mi) (hC : ∀ s, C (G1 s)) (ok : BlkOk X.N X.env.scope scope own) (hun : ∀ s v, v ∈ own.map (·.2) → (G1 s)[v]? = some .un ∨ (G1 s)[v]? = none) (sub : ∀ j, j ∈ ws → j ∈ own.map (·.2)) (hwk : ∀ s x, Weak (Gt s x) (G1 s))
    (hg : ∀ (s0 : Shared) (H : Hp) (D : Addr) (cl : List (Str × Addr)) (fp : List Addr) (s : S), EG (X.blk s0 H scope (compEnvC scope cl D X.env) fp) F.nx tg g ws rx (G1 s) (Gt s))
    (ht : ∀ (s0 : Shared) (H : Hp) (D : Addr) (cl : List (Str × Addr)) (fp : List Addr) (x : A), ETs (X.blk s0 H scope (compEnvC scope cl D X.env) fp) F.nx ifs tt (fun s => Gt s x) (fun s => Gt s x) (mt x))
    (he : ∀ (s0 : Shared) (H : Hp) (D : Addr) (cl : List (Str × Addr)) (fp : List Addr) (x : A), EX (X.blk s0 H scope (compEnvC scope cl D X.env) fp) F.nx elt te (fun s => Gt s x) (fun s => Gt s x) rb (me x)) (hA : Inhabited A) (hS : Inhabited S)
    (hs : ∀ x, foldedSetIterable e X.env x = pure x := by intro _; rfl) : EX X F (.ListComp elt [⟨tg, e, ifs, 0⟩] scope pos) (tLc wi g tt te (own.map (·.2))) G G1 (rList rb) (bnd mi fun xs => lcM (fun x => lcIt (mt x) (me x)) [] xs) :=
  ⟨pe_lc hc hN hi.pi ok (fun s0 H D cl fp => (hg s0 H D cl fp hS.default).pg) (fun s0 H D cl fp => (ht s0 H D cl fp hA.default).pt) (fun s0 H D cl fp => (he s0 H D cl fp hA.default).pe) hs,
    go_lc hi.go hC hun sub (fun s => (hg sh0 (fun _ => none) 0 [] [] s).go) hwk (fun x => (ht sh0 (fun _ => none) 0 [] [] x).go) (fun x => (he sh0 (fun _ => none) 0 [] [] x).go)⟩
end
end Td

set_option Elab.async false
set_option linter.all false
set_option maxRecDepth 100000
set_option maxHeartbeats 4000000
namespace Td
open PySem PySem.Spec PyProof.Rows L2

def tChain3 (q1 q2 q3 : R2) (ta tb tc td : TE) : TE := fun σ H Q => ta σ H fun x H1 => tb σ H1 fun y H2 => q1 x y H2 fun z H3 => ∃ k, z = .bl k ∧
      (if k = true then tc σ H3 fun w H4 => q2 y w H4 (fun z2 H5 => ∃ k2, z2 = .bl k2 ∧ (if k2 = true then td σ H5 fun u H6 => q3 w u H6 Q else Q (.bl false) H5)) else Q (.bl false) H3)
section
variable {X : Cx} {S : Type} {F : FC X.K S} {U W Z N L R : Type} {r r1 : Rp U} {r2 : Rp W} {r3 : Rp Z} {rr : Rp R} {e a b c d : Expr} {es : List Expr} {te ta tb tc td : TE} {G G1 G2 G3 G4 G' : S → List Slot} {GN : N → S → List Slot} {GL : L → S → List Slot} {m m1 : SM S U} {m2 : SM S W} {m3 : SM S Z} {pos p0 : Pos} {arg argU : U → Arg} {argW : W → Arg}
/-! ### what is never reached -/
theorem ex_no : EX X F e (fun _ _ _ => False) G G' r stk := ⟨⟨fun _ _ _ _ _ _ h => h.elim⟩, fun T t σ s H Q h q => q.elim⟩
theorem bx_no {sts : List Stmt} : BX X F sts (fun _ _ _ => False) G GN GL rr stk := ⟨⟨fun _ _ _ _ _ _ h => h.elim⟩, fun T t σ s H D h q => q.elim⟩
/-! ### truth -/
theorem et_truI {mi : SM S Int} (h : EX X F e te G G' rInt mi) (he : ∀ whole, isTrue e X.env whole = (do let v ← whole; standAt e.pos; holding [v] (truthy v)) := by intro _; rfl) :
    ET X F e (fun σ H Q => te σ H fun x H' => ∃ k, TruV X.K x H' k ∧ Q k H') G G' (bnd mi fun i => ret (i != 0)) :=
  ⟨pt_truth h.pe he, fun T t σ s H Q h0 q => h.go T t σ s H _ h0 (wp_mono (wp_bnd q) (fun i s1 q1 v H1 at1 => by
    obtain ⟨M, B, k⟩ := top_rel at1
    obtain ⟨ev, _⟩ := k
    subst ev
    exact ⟨i != 0, rfl, q1 H1 at1.pop⟩) fun _ _ z => z)⟩
theorem et_truL {xs : U → List Z} (h : EO X F e te G G' arg m) (hx : ∀ a s, Rdd (G' s) (arg a) (rList r3) (xs a)) (he : ∀ whole, isTrue e X.env whole = (do let v ← whole; standAt e.pos; holding [v] (truthy v)) := by intro _; rfl) :
    ET X F e (fun σ H Q => te σ H fun x H' => ∃ k, TruV X.K x H' k ∧ Q k H') G G' (bnd m fun a => ret (!(xs a).isEmpty)) :=
  ⟨pt_truth h.pe he, fun T t σ s H Q h0 q => h.go T t σ s H _ h0 (wp_mono (wp_bnd q) (fun a s1 q1 ts v H1 at1 av => by
    obtain ⟨A1, A2, at2⟩ := id at1
    obtain ⟨v', B, e1, p, vs, A, ev, hp, hA, eB⟩ := rddM (j := 0) at2 av rfl (hx a s1)
    cases e1
    subst ev
    refine ⟨_, .inl ⟨vs, SqL.of hp, rfl⟩, ?_⟩
    have el : vs.isEmpty = (xs a).isEmpty := by
      have := hA.length
      cases vs <;> cases hxa : xs a <;> simp_all
    rw [el]
    exact q1 H1 (at1.drops av)) fun _ _ z => z)⟩
/-! ### is None -/
/-- never None -/
def Rp.Nn {T : Type} (r : Rp T) : Prop := ∀ {K M H v a B}, r.rel K M H v a B → v ≠ .non
theorem nn_int : rInt.Nn := fun h => by rw [h.1]; intro z; cases z
theorem nn_bool : rBool.Nn := fun h => by rw [h.1]; intro z; cases z
theorem nn_str : rStr.Nn := fun h => by rw [h.1]; intro z; cases z
theorem nn_pair {T U : Type} {r : Rp T} {q : Rp U} : (rPair r q).Nn := by
  rintro K M H v a B ⟨p, v1, v2, B1, B2, e, _⟩
  rw [e]; intro z; cases z
theorem nn_tup3 {T U W : Type} {r : Rp T} {q : Rp U} {l : Rp W} : (rTup3 r q l).Nn := by
  rintro K M H v a B ⟨p, v1, v2, v3, B1, B2, B3, e, _⟩
  rw [e]; intro z; cases z
theorem nn_list {T : Type} {r : Rp T} : (rList r).Nn := by
  rintro K M H v a B ⟨p, vs, A, e, _⟩
  rw [e]; intro z; cases z
theorem nn_tupL {T : Type} {r : Rp T} : (rTupL r).Nn := by
  rintro K M H v a B ⟨p, vs, e, _⟩
  rw [e]; intro z; cases z
theorem nn_sh {T : Type} {r : Rp T} (n : r.Nn) : (sh r).Nn := by
  rintro K M H v a B ⟨_, A, h, _⟩
  exact n h
theorem opt_non {T : Type} {r : Rp T} (n : r.Nn) {K M H v a B} (h : (rOpt r).rel K M H v a B) : decide (v = .non) = a.isNone := by
  cases a with
  | none =>
    have e : v = .non := h.1
    rw [e]; rfl
  | some a => exact decide_eq_false (n h)
theorem go_isN {oa : U → Option W} (n : r2.Nn) (h : GO F te G G' arg m) (hx : ∀ a s, Rdd (G' s) (arg a) (rOpt r2) (oa a)) : GE F (tOp (fun x y H Q => y = .non ∧ Q (.bl (decide (x = .non))) H) te (tC .non)) G G' rBool (bnd m fun a => ret (oa a).isNone) := by
  intro T t σ s H Q h0 q
  refine h T t σ s H _ h0 (wp_mono (wp_bnd q) (fun a s1 q1 ts v H1 at1 av => ?_) fun _ _ z => z)
  obtain ⟨A1, A2, at2⟩ := id at1
  obtain ⟨v', B, e1, hr⟩ := rddM (j := 0) at2 av rfl (hx a s1)
  cases e1
  refine ⟨rfl, ?_⟩
  rw [opt_non n hr]
  exact q1 _ H1 (at2.fin av ⟨rfl, rfl⟩)
theorem go_notN {oa : U → Option W} (n : r2.Nn) (h : GO F te G G' arg m) (hx : ∀ a s, Rdd (G' s) (arg a) (rOpt r2) (oa a)) : GE F (tOp (fun x y H Q => y = .non ∧ Q (.bl (!decide (x = .non))) H) te (tC .non)) G G' rBool (bnd m fun a => ret (oa a).isSome) := by
  intro T t σ s H Q h0 q
  refine h T t σ s H _ h0 (wp_mono (wp_bnd q) (fun a s1 q1 ts v H1 at1 av => ?_) fun _ _ z => z)
  obtain ⟨A1, A2, at2⟩ := id at1
  obtain ⟨v', B, e1, hr⟩ := rddM (j := 0) at2 av rfl (hx a s1)
  cases e1
  refine ⟨rfl, ?_⟩
  rw [opt_non n hr, show (!(oa a).isNone) = (oa a).isSome by cases oa a <;> rfl]
  exact q1 _ H1 (at2.fin av ⟨rfl, rfl⟩)
theorem ex_isN {oa : U → Option W} {j : Nat} {p1 : Pos} (n : r2.Nn) (h : EO X F e te G G' arg m) (hx : ∀ a s, Rdd (G' s) (arg a) (rOpt r2) (oa a)) : EX X F (.Compare e [.Is] [.Constant .none j p1] pos) (tOp (fun x y H Q => y = .non ∧ Q (.bl (decide (x = .non))) H) te (tC .non)) G G' rBool (bnd m fun a => ret (oa a).isNone) :=
  ⟨pe_cmpR op_isN h.pe pe_non rfl, go_isN n h.go hx⟩
theorem ex_notN {oa : U → Option W} {j : Nat} {p1 : Pos} (n : r2.Nn) (h : EO X F e te G G' arg m) (hx : ∀ a s, Rdd (G' s) (arg a) (rOpt r2) (oa a)) : EX X F (.Compare e [.IsNot] [.Constant .none j p1] pos) (tOp (fun x y H Q => y = .non ∧ Q (.bl (!decide (x = .non))) H) te (tC .non)) G G' rBool (bnd m fun a => ret (oa a).isSome) :=
  ⟨pe_cmpR op_notN h.pe pe_non rfl, go_notN n h.go hx⟩
theorem et_isN {oa : U → Option W} {j : Nat} {p1 : Pos} (n : r2.Nn) (h : EO X F e te G G' arg m) (hx : ∀ a s, Rdd (G' s) (arg a) (rOpt r2) (oa a)) : ET X F (.Compare e [.Is] [.Constant .none j p1] pos) (tTest (tOp (fun x y H Q => y = .non ∧ Q (.bl (decide (x = .non))) H) te (tC .non))) G G' (bnd m fun a => ret (oa a).isNone) :=
  ⟨pt_cmpR op_isN h.pe pe_non rfl, go_test (go_isN n h.go hx)⟩
theorem et_notN {oa : U → Option W} {j : Nat} {p1 : Pos} (n : r2.Nn) (h : EO X F e te G G' arg m) (hx : ∀ a s, Rdd (G' s) (arg a) (rOpt r2) (oa a)) : ET X F (.Compare e [.IsNot] [.Constant .none j p1] pos) (tTest (tOp (fun x y H Q => y = .non ∧ Q (.bl (!decide (x = .non))) H) te (tC .non))) G G' (bnd m fun a => ret (oa a).isSome) :=
  ⟨pt_cmpR op_notN h.pe pe_non rfl, go_test (go_notN n h.go hx)⟩
/-- what is known not to be None -/
def optM {T : Type} (o : Option T) : SM S T := match o with
  | some a => ret a
  | none => stk
theorem wp_optM {T : Type} {o : Option T} {s : S} {P : T → S → Prop} {E : Exn → S → Prop} (h : (optM o s).wp P E) : ∃ a, o = some a ∧ P a s := by
  cases o with
  | none => exact h.elim
  | some a => exact ⟨a, rfl, h⟩
theorem ex_unopt {mo : SM S (Option U)} (h : EX X F e te G G' (rOpt r) mo) : EX X F e te G G' r (bnd mo fun o => optM o) := ⟨h.pe, fun T t σ s H Q h0 q => h.go T t σ s H Q h0 (wp_mono (wp_bnd q) (fun o s1 q1 v H1 at1 => by
    obtain ⟨a, e, q2⟩ := wp_optM q1
    subst e
    refine q2 v H1 ?_
    obtain ⟨A1, A2, at1⟩ := at1
    refine ⟨A1, A2, ?_, at1.loc, at1.good⟩
    obtain ⟨B, A', eA, ⟨v', ev, hr⟩, ht⟩ := AtS.cons_inv at1.tmp
    subst eA
    exact .cons ⟨v', ev, hr⟩ ht) fun _ _ z => z)⟩
theorem ex_unoptS {mo : SM S (Option U)} (h : EX X F e te G G' (sh (rOpt r)) mo) : EX X F e te G G' (sh r) (bnd mo fun o => optM o) := ⟨h.pe, fun T t σ s H Q h0 q => h.go T t σ s H Q h0 (wp_mono (wp_bnd q) (fun o s1 q1 v H1 at1 => by
    obtain ⟨a, e, q2⟩ := wp_optM q1
    subst e
    refine q2 v H1 ?_
    obtain ⟨A1, A2, at1⟩ := at1
    refine ⟨A1, A2, ?_, at1.loc, at1.good⟩
    obtain ⟨B, A', eA, ⟨v', ev, eB, C, hr, hC⟩, ht⟩ := AtS.cons_inv at1.tmp
    subst eA
    exact .cons ⟨v', ev, eB, C, hr, hC⟩ ht) fun _ _ z => z)⟩
theorem pe_chain3 {op op' op2 : CmpOp} {q1 q2 q3 : R2} (ho : OpR X (compareOp op) q1) (ho' : OpR X (compareOp op') q2) (ho2 : OpR X (compareOp op2) q3) (ha : PE X a ta) (hb : PE X b tb) (hc : PE X c tc) (hd : PE X d td)
    (hm : lastMarks [op, op', op2] [b, c, d] = false := by with_unfolding_all rfl) : PE X (.Compare a [op, op', op2] [b, c, d] pos) (tChain3 q1 q2 q3 ta tb tc td) := by
  refine ⟨fun pins s σ H Q I h => ?_⟩
  refine Compare_chain (thn (ha.run pins s σ H _ I h) fun v s1 ⟨x, H1, I1, r1, q1⟩ => chain_link (thn (hb.run pins s1 σ H1 _ I1 q1) fun u s2 ⟨y, H2, I2, r2, q2⟩ =>
    thn (ho pins s2 σ H2 x y v u _ I2 r1 r2 q2) fun d s3 ⟨z, H3, I3, r3, k, e, q3⟩ => ?_)) hm
  subst e
  cases r3
  refine wpAny_truthy_bool ?_
  cases k with
  | false => exact ite_ff ⟨.bl false, H3, I3, rfl, q3⟩
  | true =>
    refine ite_tt (chain_link (thn (hc.run pins s3 σ H3 _ I3 q3) fun w' s4 ⟨z', H4, I4, r4, q4⟩ => thn (ho' pins s4 σ H4 y z' u w' _ I4 r2 r4 q4) fun d2 s5 ⟨z2, H5, I5, r5, k2, e2, q5⟩ => ?_))
    subst e2
    cases r5
    refine wpAny_truthy_bool ?_
    cases k2 with
    | false => exact ite_ff ⟨.bl false, H5, I5, rfl, q5⟩
    | true => exact ite_tt (chain_last (thn (hd.run pins s5 σ H5 _ I5 q5) fun w2 s6 ⟨z3, H6, I6, r6, q6⟩ => ho2 pins s6 σ H6 z' z3 w' w2 Q I6 r4 r6 q6))
theorem pt_chain3 {op op' op2 : CmpOp} {q1 q2 q3 : R2} (ho : OpR X (compareOp op) q1) (ho' : OpR X (compareOp op') q2) (ho2 : OpR X (compareOp op2) q3) (ha : PE X a ta) (hb : PE X b tb) (hc : PE X c tc) (hd : PE X d td)
    (hm : lastMarks [op, op', op2] [b, c, d] = false := by with_unfolding_all rfl) : PT X (.Compare a [op, op', op2] [b, c, d] pos) (tTest (tChain3 q1 q2 q3 ta tb tc td)) := by
  refine ⟨fun pins s σ H Q I h => ?_⟩
  refine isTrue_chain (thn (ha.run pins s σ H _ I h) fun v s1 ⟨x, H1, I1, r1, q1⟩ => test_link (thn (hb.run pins s1 σ H1 _ I1 q1) fun u s2 ⟨y, H2, I2, r2, q2⟩ =>
    thn (ho pins s2 σ H2 x y v u _ I2 r1 r2 q2) fun d s3 ⟨z, H3, I3, r3, k, e, q3⟩ => ?_)) hm
  subst e
  cases r3
  refine wpAny_truthy_bool ?_
  cases k with
  | false =>
    obtain ⟨k', e', q'⟩ := q3
    cases e'
    exact ite_ff ⟨H3, I3, q'⟩
  | true =>
    refine ite_tt (test_link (thn (hc.run pins s3 σ H3 _ I3 q3) fun w' s4 ⟨z', H4, I4, r4, q4⟩ => thn (ho' pins s4 σ H4 y z' u w' _ I4 r2 r4 q4) fun d2 s5 ⟨z2, H5, I5, r5, k2, e2, q5⟩ => ?_))
    subst e2
    cases r5
    refine wpAny_truthy_bool ?_
    cases k2 with
    | false =>
      obtain ⟨k', e', q'⟩ := q5
      cases e'
      exact ite_ff ⟨H5, I5, q'⟩
    | true =>
      refine ite_tt (test_last (thn (hd.run pins s5 σ H5 _ I5 q5) fun w2 s6 ⟨z3, H6, I6, r6, q6⟩ => thn (ho2 pins s6 σ H6 z' z3 w' w2 _ I6 r4 r6 q6) fun d' s7 ⟨z4, H7, I7, r7, k4, e4, q7⟩ => ?_))
      subst e4
      cases r7
      exact wpAny_truthy_bool ⟨H7, I7, q7⟩
end
section
variable {X : Cx} {S : Type} {F : FC X.K S} {a b c d : Expr} {ta tb tc td : TE} {G G1 G2 G3 G4 : S → List Slot} {ma mb mc md : SM S Int} {pos : Pos} {q1 q2 q3 : R2} {f1 f2 f3 : Int → Int → Bool} {op op' op2 : CmpOp}
/-- a comparison of ints -/
def CmpI (X : Cx) (op : CmpOp) (rr : R2) (f : Int → Int → Bool) : Prop := OpR X (compareOp op) rr ∧ ∀ i j H Q, Q (.bl (f i j)) H → rr (.int i) (.int j) H Q
theorem ci_lt : CmpI X .Lt (rI0 fun i j => .bl (decide (i < j))) (fun i j => decide (i < j)) := ⟨op_lt, fun i j H Q q => ⟨i, j, rfl, rfl, q⟩⟩
theorem ci_le : CmpI X .LtE (rI0 fun i j => .bl (decide (i ≤ j))) (fun i j => decide (i ≤ j)) := ⟨op_le, fun i j H Q q => ⟨i, j, rfl, rfl, q⟩⟩
theorem ci_gt : CmpI X .Gt (rI0 fun i j => .bl (decide (j < i))) (fun i j => decide (j < i)) := ⟨op_gt, fun i j H Q q => ⟨i, j, rfl, rfl, q⟩⟩
theorem ci_ge : CmpI X .GtE (rI0 fun i j => .bl (decide (j ≤ i))) (fun i j => decide (j ≤ i)) := ⟨op_ge, fun i j H Q q => ⟨i, j, rfl, rfl, q⟩⟩
theorem go_chain2 (c1 : CmpI X op q1 f1) (c2 : CmpI X op' q2 f2) (h1 : GE F ta G G1 rInt ma) (h2 : GE F tb G1 G2 rInt mb) (h3 : GE F tc G2 G2 rInt mc) : GE F (tChain q1 q2 ta tb tc) G G2 rBool (bnd ma fun i => bnd mb fun j => if f1 i j then bnd mc fun k => ret (f2 j k) else ret false) := by
  intro T t σ s H Q h0 q
  refine h1 T t σ s H _ h0 (wp_mono (wp_bnd q) (fun i s1 q1 v H1 at1 => ?_) fun _ _ z => z)
  refine h2 _ _ σ s1 H1 _ at1 (wp_mono (wp_bnd q1) (fun j s2 q2 w H2 at2 => ?_) fun _ _ z => z)
  obtain ⟨_, _, k1⟩ := snd_rel at2
  obtain ⟨_, _, k2⟩ := top_rel at2
  obtain ⟨ev, _⟩ := k1
  obtain ⟨ew, _⟩ := k2
  subst ev ew
  refine c1.2 i j H2 _ ⟨_, rfl, ?_⟩
  cases hf : f1 i j with
  | false =>
    rw [hf] at q2
    exact q2 _ H2 (at2.pop.pop.push fun _ => ⟨rfl, rfl⟩)
  | true =>
    rw [hf] at q2
    refine h3 _ _ σ s2 H2 _ at2.pop.pop (wp_mono (wp_bnd q2) (fun k s3 q3 u H3 at3 => ?_) fun _ _ z => z)
    obtain ⟨_, _, k3⟩ := top_rel at3
    obtain ⟨eu, _⟩ := k3
    subst eu
    exact c2.2 j k H3 _ (q3 _ H3 (at3.pop.push fun _ => ⟨rfl, rfl⟩))
theorem ex_chain2 (c1 : CmpI X op q1 f1) (c2 : CmpI X op' q2 f2) (h1 : EX X F a ta G G1 rInt ma) (h2 : EX X F b tb G1 G2 rInt mb) (h3 : EX X F c tc G2 G2 rInt mc) (hm : lastMarks [op, op'] [b, c] = false := by with_unfolding_all rfl) :
    EX X F (.Compare a [op, op'] [b, c] pos) (tChain q1 q2 ta tb tc) G G2 rBool (bnd ma fun i => bnd mb fun j => if f1 i j then bnd mc fun k => ret (f2 j k) else ret false) := ⟨pe_chain c1.1 c2.1 h1.pe h2.pe h3.pe hm, go_chain2 c1 c2 h1.go h2.go h3.go⟩
theorem et_chain2 (c1 : CmpI X op q1 f1) (c2 : CmpI X op' q2 f2) (h1 : EX X F a ta G G1 rInt ma) (h2 : EX X F b tb G1 G2 rInt mb) (h3 : EX X F c tc G2 G2 rInt mc) (hm : lastMarks [op, op'] [b, c] = false := by with_unfolding_all rfl) :
    ET X F (.Compare a [op, op'] [b, c] pos) (tTest (tChain q1 q2 ta tb tc)) G G2 (bnd ma fun i => bnd mb fun j => if f1 i j then bnd mc fun k => ret (f2 j k) else ret false) := ⟨pt_chain c1.1 c2.1 h1.pe h2.pe h3.pe hm, go_test (go_chain2 c1 c2 h1.go h2.go h3.go)⟩
theorem go_chain3 (c1 : CmpI X op q1 f1) (c2 : CmpI X op' q2 f2) (c3 : CmpI X op2 q3 f3) (h1 : GE F ta G G1 rInt ma) (h2 : GE F tb G1 G2 rInt mb) (h3 : GE F tc G2 G2 rInt mc) (h4 : GE F td G2 G2 rInt md) : GE F (tChain3 q1 q2 q3 ta tb tc td) G G2 rBool (bnd ma fun i => bnd mb fun j => if f1 i j then bnd mc fun k => if f2 j k then bnd md fun l => ret (f3 k l) else ret false else ret false) := by
  intro T t σ s H Q h0 q
  refine h1 T t σ s H _ h0 (wp_mono (wp_bnd q) (fun i s1 q1 v H1 at1 => ?_) fun _ _ z => z)
  refine h2 _ _ σ s1 H1 _ at1 (wp_mono (wp_bnd q1) (fun j s2 q2 w H2 at2 => ?_) fun _ _ z => z)
  obtain ⟨_, _, k1⟩ := snd_rel at2
  obtain ⟨_, _, k2⟩ := top_rel at2
  obtain ⟨ev, _⟩ := k1
  obtain ⟨ew, _⟩ := k2
  subst ev ew
  refine c1.2 i j H2 _ ⟨_, rfl, ?_⟩
  cases hf : f1 i j with
  | false =>
    rw [hf] at q2
    exact q2 _ H2 (at2.pop.pop.push fun _ => ⟨rfl, rfl⟩)
  | true =>
    rw [hf] at q2
    refine h3 _ _ σ s2 H2 _ at2.pop.pop (wp_mono (wp_bnd q2) (fun k s3 q3 u H3 at3 => ?_) fun _ _ z => z)
    obtain ⟨_, _, k3⟩ := top_rel at3
    obtain ⟨eu, _⟩ := k3
    subst eu
    refine c2.2 j k H3 _ ⟨_, rfl, ?_⟩
    cases hf2 : f2 j k with
    | false =>
      rw [hf2] at q3
      exact q3 _ H3 (at3.pop.push fun _ => ⟨rfl, rfl⟩)
    | true =>
      rw [hf2] at q3
      refine h4 _ _ σ s3 H3 _ at3.pop (wp_mono (wp_bnd q3) (fun l s4 q4 x H4 at4 => ?_) fun _ _ z => z)
      obtain ⟨_, _, k4⟩ := top_rel at4
      obtain ⟨ex, _⟩ := k4
      subst ex
      exact c3.2 k l H4 _ (q4 _ H4 (at4.pop.push fun _ => ⟨rfl, rfl⟩))
theorem ex_chain3 (c1 : CmpI X op q1 f1) (c2 : CmpI X op' q2 f2) (c3 : CmpI X op2 q3 f3) (h1 : EX X F a ta G G1 rInt ma) (h2 : EX X F b tb G1 G2 rInt mb) (h3 : EX X F c tc G2 G2 rInt mc) (h4 : EX X F d td G2 G2 rInt md) (hm : lastMarks [op, op', op2] [b, c, d] = false := by with_unfolding_all rfl) :
    EX X F (.Compare a [op, op', op2] [b, c, d] pos) (tChain3 q1 q2 q3 ta tb tc td) G G2 rBool (bnd ma fun i => bnd mb fun j => if f1 i j then bnd mc fun k => if f2 j k then bnd md fun l => ret (f3 k l) else ret false else ret false) := ⟨pe_chain3 c1.1 c2.1 c3.1 h1.pe h2.pe h3.pe h4.pe hm, go_chain3 c1 c2 c3 h1.go h2.go h3.go h4.go⟩
theorem et_chain3 (c1 : CmpI X op q1 f1) (c2 : CmpI X op' q2 f2) (c3 : CmpI X op2 q3 f3) (h1 : EX X F a ta G G1 rInt ma) (h2 : EX X F b tb G1 G2 rInt mb) (h3 : EX X F c tc G2 G2 rInt mc) (h4 : EX X F d td G2 G2 rInt md) (hm : lastMarks [op, op', op2] [b, c, d] = false := by with_unfolding_all rfl) :
    ET X F (.Compare a [op, op', op2] [b, c, d] pos) (tTest (tChain3 q1 q2 q3 ta tb tc td)) G G2 (bnd ma fun i => bnd mb fun j => if f1 i j then bnd mc fun k => if f2 j k then bnd md fun l => ret (f3 k l) else ret false else ret false) := ⟨pt_chain3 c1.1 c2.1 c3.1 h1.pe h2.pe h3.pe h4.pe hm, go_test (go_chain3 c1 c2 c3 h1.go h2.go h3.go h4.go)⟩
end
/-! ### all, any, sum of lists -/
theorem all_pl {T : Type} {f : T → V} {K : PySem.W.Frag} {M : List Addr} {H : Hp} {vs : List V} {as : List T} {A : List Addr} (h : All3 ((rPl f).rel K M H) vs as A) : vs = as.map f := by
  induction h with
  | nil => rfl
  | cons h t ih => rw [h.1, ih]; rfl
section
variable {X : Cx} {S : Type} {F : FC X.K S} {U : Type} {e : Expr} {te : TE} {G G' : S → List Slot} {m : SM S U} {arg : U → Arg} {pos p0 : Pos}
theorem ex_all {xs : U → List Bool} (h : EO X F e te G G' arg m) (hx : ∀ a s, Rdd (G' s) (arg a) (rList rBool) (xs a)) (hc : X.calm = true) (hg : Gl X "all") (hm : X.mg "all" = none) (hs : PySem.W.isStarred e = false := by rfl) :
    EX X F (.Call (.Name "all" p0) [e] [] pos) (tCB (rAll X.K) (tCons te tNil)) G G' rBool (bnd m fun a => ret ((xs a).all id)) :=
  ex_callB1 (cr_all hc) hg hm (by decide) h (go_call1 h.go (fun _ => stl_ret _) fun a s T t ts v σ H Q A1 A2 at1 av q => by
    obtain ⟨v', B, e1, p, vs, A, ev, hp, hA, eB⟩ := rddM (j := 0) at1 av rfl (hx a s)
    cases e1
    have evs := all_pl hA
    subst evs
    exact ⟨p, xs a, by rw [ev], SqL.of hp, q.2 _ H (at1.fin av ⟨rfl, rfl⟩)⟩) hs
theorem ex_any {xs : U → List Bool} (h : EO X F e te G G' arg m) (hx : ∀ a s, Rdd (G' s) (arg a) (rList rBool) (xs a)) (hc : X.calm = true) (hg : Gl X "any") (hm : X.mg "any" = none) (hs : PySem.W.isStarred e = false := by rfl) :
    EX X F (.Call (.Name "any" p0) [e] [] pos) (tCB (rAny X.K) (tCons te tNil)) G G' rBool (bnd m fun a => ret ((xs a).any id)) :=
  ex_callB1 (cr_any hc) hg hm (by decide) h (go_call1 h.go (fun _ => stl_ret _) fun a s T t ts v σ H Q A1 A2 at1 av q => by
    obtain ⟨v', B, e1, p, vs, A, ev, hp, hA, eB⟩ := rddM (j := 0) at1 av rfl (hx a s)
    cases e1
    have evs := all_pl hA
    subst evs
    exact ⟨p, xs a, by rw [ev], SqL.of hp, q.2 _ H (at1.fin av ⟨rfl, rfl⟩)⟩) hs
theorem ex_sum {xs : U → List Int} (h : EO X F e te G G' arg m) (hx : ∀ a s, Rdd (G' s) (arg a) (rList rInt) (xs a)) (hc : X.calm = true) (hg : Gl X "sum") (hm : X.mg "sum" = none) (hs : PySem.W.isStarred e = false := by rfl) :
    EX X F (.Call (.Name "sum" p0) [e] [] pos) (tCB (rSum X.K) (tCons te tNil)) G G' rInt (bnd m fun a => ret (xs a).sum) :=
  ex_callB1 (cr_sum hc) hg hm (by decide) h (go_call1 h.go (fun _ => stl_ret _) fun a s T t ts v σ H Q A1 A2 at1 av q => by
    obtain ⟨v', B, e1, p, vs, A, ev, hp, hA, eB⟩ := rddM (j := 0) at1 av rfl (hx a s)
    cases e1
    have evs := all_pl hA
    subst evs
    exact ⟨p, xs a, by rw [ev], SqL.of hp, q.2 _ H (at1.fin av ⟨rfl, rfl⟩)⟩) hs
end
end Td

set_option Elab.async false
set_option linter.all false
set_option maxRecDepth 100000
set_option maxHeartbeats 4000000
namespace Td
open PySem PySem.Spec PyProof.Rows L2

section
variable {X : Cx} {S : Type} {F : FC X.K S} {U W Z N L R : Type} {r r1 : Rp U} {r2 : Rp W} {r3 : Rp Z} {a b : Expr} {ta tb : TE} {G G1 G2 G' : S → List Slot} {m1 : SM S U} {m2 : SM S W} {pos p0 : Pos} {argU : U → Arg} {argW : W → Arg}
/-- an operation on two operands, each a temp or a name -/
theorem go_op2 {rr : R2} {f : U → W → SM S Z} (h1 : GO F ta G G1 argU m1) (h2 : GO F tb G1 G2 argW m2) (hf : ∀ a b, Stl (f a b))
    (hv : ∀ (a : U) (b : W) (s : S) (T : List Slot) (t ts : List V) (x y : V) (σ : L2.St) (H : Hp) (Q : VK) (A1 A2 : List Addr), AtP F ((tmps [argU a, argW b]).reverse ++ T) (ts.reverse ++ t) (G2 s) σ H A1 A2 → ArgV σ [argU a, argW b] ts [x, y] →
      (f a b s).wp (fun c s' => s' = s ∧ ∀ u H', At F (.is r3 c :: T) (u :: t) (G2 s) σ H' → Q u H') (fun _ _ => True) → rr x y H Q) : GE F (tOp rr ta tb) G G2 r3 (bnd m1 fun a => bnd m2 fun b => f a b) := by
  intro T t σ s H Q h0 q
  refine h1 T t σ s H _ h0 (wp_mono (wp_bnd q) (fun a s1 q1 ts x H1 at1 av1 => ?_) fun _ _ z => z)
  refine h2 _ _ σ s1 H1 _ at1 (wp_mono (wp_bnd q1) (fun b s2 q2 us y H2 at2 av2 => ?_) fun _ _ z => z)
  obtain ⟨A1, A2, at2⟩ := at2
  refine hv a b s2 T t (ts ++ us) x y σ H2 Q A1 A2 ?_ (argV_cons av1 av2) (wp_mono ((hf a b).wp (E' := fun _ _ => True) q2) (fun c s3 q3 => ?_) fun _ _ _ => trivial)
  · rw [tmps_cons]
    simpa using at2
  · obtain ⟨e, q3⟩ := q3
    subst e
    exact ⟨rfl, q3⟩
/-! ### data: == and != and repr -/
def Enc {T : Type} (r : Rp T) (f : T → PyData) : Prop := ∀ {K M H v a B}, r.rel K M H v a B → Dp K H v (f a)
theorem enc_int : Enc rInt .int := fun h => by rw [h.1]; exact .int _
theorem enc_bool : Enc rBool .bool := fun h => by rw [h.1]; exact .bl _
theorem enc_str : Enc rStr .str := fun h => by rw [h.1]; exact .str _
theorem enc_non : Enc rNon (fun _ => .none) := fun h => by rw [h.1]; exact .non
theorem enc_pair {T U : Type} {r : Rp T} {q : Rp U} {f : T → PyData} {g : U → PyData} (h1 : Enc r f) (h2 : Enc q g) : Enc (rPair r q) (fun p => .tuple [f p.1, g p.2]) := by
  rintro K M H v a B ⟨p, v1, v2, B1, B2, e, hT, k1, k2, _⟩
  rw [e]
  exact .tup hT (.cons (h1 k1) (.cons (h2 k2) .nil))
theorem enc_tup3 {T U W : Type} {r : Rp T} {q : Rp U} {l : Rp W} {f : T → PyData} {g : U → PyData} {k : W → PyData} (h1 : Enc r f) (h2 : Enc q g) (h3 : Enc l k) : Enc (rTup3 r q l) (fun p => .tuple [f p.1, g p.2.1, k p.2.2]) := by
  rintro K M H v a B ⟨p, v1, v2, v3, B1, B2, B3, e, hT, k1, k2, k3, _⟩
  rw [e]
  exact .tup hT (.cons (h1 k1) (.cons (h2 k2) (.cons (h3 k3) .nil)))
theorem enc_opt {T : Type} {r : Rp T} {f : T → PyData} (h1 : Enc r f) : Enc (rOpt r) (fun o => match o with | none => .none | some a => f a) := by
  intro K M H v a B h
  cases a with
  | none =>
    have e : v = .non := h.1
    rw [e]; exact .non
  | some a => exact h1 h
theorem enc_all {T : Type} {K : PySem.W.Frag} {R : V → T → List Addr → Prop} {H : Hp} {f : T → PyData} (h : ∀ v a B, R v a B → Dp K H v (f a)) : ∀ {vs : List V} {as : List T} {A : List Addr}, All3 R vs as A → DpAll K H vs (as.map f)
  | _, _, _, .nil => .nil
  | _, _, _, .cons k t => .cons (h _ _ _ k) (enc_all h t)
theorem enc_list {T : Type} {r : Rp T} {f : T → PyData} (h1 : Enc r f) : Enc (rList r) (fun xs => .list (xs.map f)) := by
  rintro K M H v a B ⟨p, vs, A, e, hp, hA, _⟩
  rw [e]
  exact .lst (SqL.of hp) (enc_all (fun _ _ _ k => h1 k) hA)
theorem enc_tupL {T : Type} {r : Rp T} {f : T → PyData} (h1 : Enc r f) : Enc (rTupL r) (fun xs => .tuple (xs.map f)) := by
  rintro K M H v a B ⟨p, vs, e, hp, hA⟩
  rw [e]
  exact .tup hp (enc_all (fun _ _ _ k => h1 k) hA)
theorem enc_sh {T : Type} {r : Rp T} {f : T → PyData} (h1 : Enc r f) : Enc (sh r) f := by
  rintro K M H v a B ⟨_, A, h, _⟩
  exact h1 h
def eqD (x y : PyData) : SM S Bool := bnd (grd (SeqAt.shaped x = true ∧ SeqAt.shaped y = true)) fun _ => ret (PyData.eqv x y)
def neD (x y : PyData) : SM S Bool := bnd (grd (SeqAt.shaped x = true ∧ SeqAt.shaped y = true)) fun _ => ret (!PyData.eqv x y)
theorem stl_eqD (x y : PyData) : Stl (eqD x y : SM S Bool) := stl_bnd stl_grd fun _ => stl_ret _
theorem stl_neD (x y : PyData) : Stl (neD x y : SM S Bool) := stl_bnd stl_grd fun _ => stl_ret _
/-- an operand read as data -/
inductive RdE (G : List Slot) (arg : Arg) : PyData → Prop
  | mk {T : Type} {r : Rp T} {f : T → PyData} {x : T} (e : Enc r f) (h : Rdd G arg r x) : RdE G arg (f x)
theorem rdE {K : PySem.W.Frag} {F : FC K S} {T : List Slot} {t ts vs : List V} {G : List Slot} {σ : L2.St} {H : Hp} {L : List Arg} {j : Nat} {arg : Arg} {d : PyData} {A1 A2 : List Addr} (h : AtP F ((tmps L).reverse ++ T) (ts.reverse ++ t) G σ H A1 A2) (av : ArgV σ L ts vs) (e : L[j]? = some arg) (rd : RdE G arg d) : ∃ v, vs[j]? = some v ∧ Dp K H v d := by
  obtain ⟨en, hr⟩ := rd
  obtain ⟨v, B, ev, k⟩ := rddM h av e hr
  exact ⟨v, ev, en k⟩
section
variable {da : U → PyData} {db : W → PyData}
theorem go_eqD (h1 : GO F ta G G1 argU m1) (h2 : GO F tb G1 G2 argW m2) (x1 : ∀ a s, RdE (G2 s) (argU a) (da a)) (x2 : ∀ a s, RdE (G2 s) (argW a) (db a)) :
    GE F (tOp (rEqD X.K) ta tb) G G2 rBool (bnd m1 fun a => bnd m2 fun b => eqD (da a) (db b)) :=
  go_op2 h1 h2 (fun _ _ => stl_eqD _ _) fun a b s T t ts x y σ H Q A1 A2 at1 av q => by
    obtain ⟨v, ev, k1⟩ := rdE (j := 0) at1 av rfl (x1 a s)
    obtain ⟨w, ew, k2⟩ := rdE (j := 1) at1 av rfl (x2 b s)
    cases ev; cases ew
    obtain ⟨⟨s1, s2⟩, q⟩ := wp_grd (wp_bnd q)
    exact ⟨_, _, k1, k2, s1, s2, q.2 _ H (at1.fin av ⟨rfl, rfl⟩)⟩
theorem go_neD (h1 : GO F ta G G1 argU m1) (h2 : GO F tb G1 G2 argW m2) (x1 : ∀ a s, RdE (G2 s) (argU a) (da a)) (x2 : ∀ a s, RdE (G2 s) (argW a) (db a)) :
    GE F (tOp (rNeD X.K) ta tb) G G2 rBool (bnd m1 fun a => bnd m2 fun b => neD (da a) (db b)) :=
  go_op2 h1 h2 (fun _ _ => stl_neD _ _) fun a b s T t ts x y σ H Q A1 A2 at1 av q => by
    obtain ⟨v, ev, k1⟩ := rdE (j := 0) at1 av rfl (x1 a s)
    obtain ⟨w, ew, k2⟩ := rdE (j := 1) at1 av rfl (x2 b s)
    cases ev; cases ew
    obtain ⟨⟨s1, s2⟩, q⟩ := wp_grd (wp_bnd q)
    exact ⟨_, _, k1, k2, s1, s2, q.2 _ H (at1.fin av ⟨rfl, rfl⟩)⟩
variable (hu : X.A.units + 64 < cLine)
include hu
theorem ex_eqD (h1 : EO X F a ta G G1 argU m1) (h2 : EO X F b tb G1 G2 argW m2) (x1 : ∀ a s, RdE (G2 s) (argU a) (da a)) (x2 : ∀ a s, RdE (G2 s) (argW a) (db a)) (hm : behindInMarks .Eq b = false := by rfl) :
    EX X F (.Compare a [.Eq] [b] pos) (tOp (rEqD X.K) ta tb) G G2 rBool (bnd m1 fun a => bnd m2 fun b => eqD (da a) (db b)) := ⟨pe_cmpR (op_eqD hu) h1.pe h2.pe hm, go_eqD h1.go h2.go x1 x2⟩
theorem ex_neD (h1 : EO X F a ta G G1 argU m1) (h2 : EO X F b tb G1 G2 argW m2) (x1 : ∀ a s, RdE (G2 s) (argU a) (da a)) (x2 : ∀ a s, RdE (G2 s) (argW a) (db a)) (hm : behindInMarks .NotEq b = false := by rfl) :
    EX X F (.Compare a [.NotEq] [b] pos) (tOp (rNeD X.K) ta tb) G G2 rBool (bnd m1 fun a => bnd m2 fun b => neD (da a) (db b)) := ⟨pe_cmpR (op_neD hu) h1.pe h2.pe hm, go_neD h1.go h2.go x1 x2⟩
theorem et_eqD (h1 : EO X F a ta G G1 argU m1) (h2 : EO X F b tb G1 G2 argW m2) (x1 : ∀ a s, RdE (G2 s) (argU a) (da a)) (x2 : ∀ a s, RdE (G2 s) (argW a) (db a)) (hm : behindInMarks .Eq b = false := by rfl) :
    ET X F (.Compare a [.Eq] [b] pos) (tTest (tOp (rEqD X.K) ta tb)) G G2 (bnd m1 fun a => bnd m2 fun b => eqD (da a) (db b)) := ⟨pt_cmpR (op_eqD hu) h1.pe h2.pe hm, go_test (go_eqD h1.go h2.go x1 x2)⟩
theorem et_neD (h1 : EO X F a ta G G1 argU m1) (h2 : EO X F b tb G1 G2 argW m2) (x1 : ∀ a s, RdE (G2 s) (argU a) (da a)) (x2 : ∀ a s, RdE (G2 s) (argW a) (db a)) (hm : behindInMarks .NotEq b = false := by rfl) :
    ET X F (.Compare a [.NotEq] [b] pos) (tTest (tOp (rNeD X.K) ta tb)) G G2 (bnd m1 fun a => bnd m2 fun b => neD (da a) (db b)) := ⟨pt_cmpR (op_neD hu) h1.pe h2.pe hm, go_test (go_neD h1.go h2.go x1 x2)⟩
end
/-! ### items, list + list -/
/-- xs[i] -/
theorem ex_ix {xs : U → List Z} {mi : SM S Int} (h1 : EO X F a ta G G1 argU m1) (h2 : EX X F b tb G1 G2 rInt mi) (c : r3.Cp) (hx : ∀ a s, Rdd (G2 s) (argU a) (rList r3) (xs a)) (hs : PlainIx b := by exact fun _ _ => rfl) :
    EX X F (.Subscript a b pos) (tOp (rIxL X.K) ta tb) G G2 r3 (bnd m1 fun a => bnd mi fun i => ixM (xs a) i) :=
  ⟨pe_ix ix_list h1.pe h2.pe hs, go_op2 h1.go (eo_t h2).go (fun _ _ => stl_ixM _ _) fun a i s T t ts x y σ H Q A1 A2 at1 av q => by
    obtain ⟨v, B, e1, p, vs, A, ev, hp, hA, eB⟩ := rddM (j := 0) at1 av rfl (hx a s)
    obtain ⟨w, B', e2, ew, _⟩ := rddM (j := 1) at1 av rfl .t
    cases e1; cases e2
    obtain ⟨z, ez, _, q⟩ := wp_ixM q
    obtain ⟨u, Bu, e3, hr, _⟩ := atI_all (K := X.K) hA ez
    have eBu := c hr
    subst eBu
    exact ⟨p, vs, i, u, ev, ew, SqL.of hp, e3, q u H (at1.fin av hr)⟩⟩
theorem ex_ixS {xs : U → List Z} {mi : SM S Int} (h1 : EO X F a ta G G1 argU m1) (h2 : EX X F b tb G1 G2 rInt mi) (hx : ∀ a s, RdS (G2 s) (argU a) (rList r3) (xs a)) (hs : PlainIx b := by exact fun _ _ => rfl) :
    EX X F (.Subscript a b pos) (tOp (rIxL X.K) ta tb) G G2 (sh r3) (bnd m1 fun a => bnd mi fun i => ixM (xs a) i) :=
  ⟨pe_ix ix_list h1.pe h2.pe hs, go_op2 h1.go (eo_t h2).go (fun _ _ => stl_ixM _ _) fun a i s T t ts x y σ H Q A1 A2 at1 av q => by
    obtain ⟨v, e1, _, C, ⟨p, vs, A, ev, hp, hA, eC⟩, hC⟩ := rdS (j := 0) at1 av rfl (hx a s)
    obtain ⟨w, B', e2, ew, _⟩ := rddM (j := 1) at1 av rfl .t
    cases e1; cases e2
    obtain ⟨z, ez, _, q⟩ := wp_ixM q
    obtain ⟨u, Bu, e3, hr, sub⟩ := atI_all (K := X.K) hA ez
    exact ⟨p, vs, i, u, ev, ew, SqL.of hp, e3, q u H (at1.fin (r := sh r3) av ⟨rfl, Bu, hr, fun x hx => hC x (by rw [eC]; exact List.mem_cons_of_mem _ (sub x hx))⟩)⟩⟩
/-- t[i] of a tuple of many -/
theorem ex_ixT {xs : U → List Z} {mi : SM S Int} (h1 : EO X F a ta G G1 argU m1) (h2 : EX X F b tb G1 G2 rInt mi) (c : r3.Cp) (hx : ∀ a s, Rdd (G2 s) (argU a) (rTupL r3) (xs a)) (hs : PlainIx b := by exact fun _ _ => rfl) :
    EX X F (.Subscript a b pos) (tOp (rIxT X.K) ta tb) G G2 r3 (bnd m1 fun a => bnd mi fun i => ixM (xs a) i) :=
  ⟨pe_ix ix_tup h1.pe h2.pe hs, go_op2 h1.go (eo_t h2).go (fun _ _ => stl_ixM _ _) fun a i s T t ts x y σ H Q A1 A2 at1 av q => by
    obtain ⟨v, B, e1, p, vs, ev, hp, hA⟩ := rddM (j := 0) at1 av rfl (hx a s)
    obtain ⟨w, B', e2, ew, _⟩ := rddM (j := 1) at1 av rfl .t
    cases e1; cases e2
    obtain ⟨z, ez, _, q⟩ := wp_ixM q
    obtain ⟨u, Bu, e3, hr, _⟩ := atI_all (K := X.K) hA ez
    have eBu := c hr
    subst eBu
    exact ⟨p, vs, i, u, ev, ew, hp, e3, q u H (at1.fin av hr)⟩⟩
def catM {T : Type} (xs ys : List T) : SM S (List T) := bnd (lenG (xs ++ ys)) fun _ => ret (xs ++ ys)
/-- xs + ys of things that own nothing -/
theorem ex_cat {xs : U → List Z} {ys : W → List Z} (h1 : EO X F a ta G G1 argU m1) (h2 : EO X F b tb G1 G2 argW m2) (c : r3.Cp) (hx : ∀ a s, Rdd (G2 s) (argU a) (rList r3) (xs a)) (hy : ∀ a s, Rdd (G2 s) (argW a) (rList r3) (ys a)) :
    EX X F (.BinOp a .Add b pos) (tOp rCat ta tb) G G2 (rList r3) (bnd m1 fun a => bnd m2 fun b => catM (xs a) (ys b)) :=
  ⟨pe_op op_cat h1.pe h2.pe, go_op2 h1.go h2.go (fun _ _ => stl_bnd stl_grd fun _ => stl_ret _) fun a b s T t ts x y σ H Q A1 A2 at1 av q => by
    obtain ⟨v, B, e1, p, vs, A, ev, hp, hA, eB⟩ := rddM (j := 0) at1 av rfl (hx a s)
    obtain ⟨v2, B2, e2, p2, vs2, A', ev2, hp2, hA2, eB2⟩ := rddM (j := 1) at1 av rfl (hy b s)
    cases e1; cases e2
    obtain ⟨hz, q⟩ := wp_grd (wp_bnd q)
    have eA := cp_all c hA
    have eA2 := cp_all c hA2
    subst eA; subst eA2
    have hz' : (xs a ++ ys b).length ≤ sizeLine := hz
    rw [List.length_append, ← hA.length, ← hA2.length] at hz'
    exact ⟨p, p2, vs, vs2, ev, ev2, hp, hp2, hz', fun l hl => q.2 _ _ (at1.newL av (hA.append hA2) hl)⟩⟩
/-- x in xs, of flat plain things -/
theorem ex_inL {xs : W → List Int} {mi : SM S Int} (h1 : EX X F a ta G G1 rInt mi) (h2 : EO X F b tb G1 G2 argW m2) (hx : ∀ a s, Rdd (G2 s) (argW a) (rList rInt) (xs a)) (hm : behindInMarks .In b = false := by with_unfolding_all rfl) :
    EX X F (.Compare a [.In] [b] pos) (tOp (rIn X.K false) ta tb) G G2 rBool (bnd mi fun i => bnd m2 fun b => ret ((xs b).any (· == i))) :=
  ⟨pe_cmpR op_in_seq h1.pe h2.pe hm, go_op2 (eo_t h1).go h2.go (fun _ _ => stl_ret _) fun i b s T t ts x y σ H Q A1 A2 at1 av q => by
    obtain ⟨v, B, e1, ei, _⟩ := rddM (j := 0) at1 av rfl .t
    obtain ⟨v2, B2, e2, p2, vs2, A', ev2, hp2, hA2, eB2⟩ := rddM (j := 1) at1 av rfl (hx b s)
    cases e1; cases e2
    have evs := all_pl hA2
    subst evs ei
    refine ⟨p2, _, ev2, .inl (SqL.of hp2), rfl, by simp [flatV], ?_⟩
    have e : inV (.int i) ((xs b).map V.int) = (xs b).any (· == i) := by
      unfold inV
      rw [List.any_map]
      rfl
    show Q (.bl (if false = true then _ else _)) H
    rw [if_neg Bool.false_ne_true, e]
    exact q.2 _ H (at1.fin av ⟨rfl, rfl⟩)⟩
theorem ex_inT {xs : W → List Int} {mi : SM S Int} (h1 : EX X F a ta G G1 rInt mi) (h2 : EO X F b tb G1 G2 argW m2) (hx : ∀ a s, Rdd (G2 s) (argW a) (rTupL rInt) (xs a)) (hm : behindInMarks .In b = false := by with_unfolding_all rfl) :
    EX X F (.Compare a [.In] [b] pos) (tOp (rIn X.K false) ta tb) G G2 rBool (bnd mi fun i => bnd m2 fun b => ret ((xs b).any (· == i))) :=
  ⟨pe_cmpR op_in_seq h1.pe h2.pe hm, go_op2 (eo_t h1).go h2.go (fun _ _ => stl_ret _) fun i b s T t ts x y σ H Q A1 A2 at1 av q => by
    obtain ⟨v, B, e1, ei, _⟩ := rddM (j := 0) at1 av rfl .t
    obtain ⟨v2, B2, e2, p2, vs2, ev2, hp2, hA2⟩ := rddM (j := 1) at1 av rfl (hx b s)
    cases e1; cases e2
    have evs := all_pl hA2
    subst evs ei
    refine ⟨p2, _, ev2, .inr hp2, rfl, by simp [flatV], ?_⟩
    have e : inV (.int i) ((xs b).map V.int) = (xs b).any (· == i) := by
      unfold inV
      rw [List.any_map]
      rfl
    show Q (.bl (if false = true then _ else _)) H
    rw [if_neg Bool.false_ne_true, e]
    exact q.2 _ H (at1.fin av ⟨rfl, rfl⟩)⟩
/-! ### slices -/
def GP (F : FC X.K S) (to : TO) (G G' : S → List Slot) (m : SM S (Option Int)) : Prop :=
  ∀ (T : List Slot) (t : List V) (σ : L2.St) (s : S) (H : Hp) (Q : Option Int → Hp → Prop), At F T t (G s) σ H → (m s).wp (fun o s' => ∀ H', At F T t (G' s') σ H' → Q o H') (XP F σ) → to σ H Q
end
structure EPa (X : Cx) {S : Type} (F : FC X.K S) (e : Option Expr) (to : TO) (G G' : S → List Slot) (m : SM S (Option Int)) : Prop where
  po : PO X e to
  go : GP F to G G' m
section
variable {X : Cx} {S : Type} {F : FC X.K S} {U W Z N L R : Type} {r r1 : Rp U} {r2 : Rp W} {r3 : Rp Z} {a b : Expr} {ta tb : TE} {G G1 G2 G3 G' : S → List Slot} {m1 : SM S U} {m2 : SM S W} {pos p0 p2 : Pos} {argU : U → Arg} {argW : W → Arg}
theorem ep_none : EPa X F none tNoPart G G (ret none) := ⟨po_none, fun T t σ s H Q h q => q H h⟩
theorem ep_some {mi : SM S Int} (h : EX X F a ta G G1 rInt mi) : EPa X F (some a) (tPart ta) G G1 (bnd mi fun i => ret (some i)) :=
  ⟨po_some h.pe, fun T t σ s H Q h0 q => h.go T t σ s H _ h0 (wp_mono (wp_bnd q) (fun i s1 q1 v H1 at1 => by
    obtain ⟨M, B, k, _⟩ := top_rel at1
    exact ⟨i, k, q1 H1 at1.pop⟩) fun _ _ z => z)⟩
/-- the items of xs[lo:hi] -/
def cutL {T : Type} (xs : List T) (lo hi : Option Int) : List T := (xs.drop (HT.sIx xs.length 0 lo)).take (HT.sIx xs.length xs.length hi - HT.sIx xs.length 0 lo)
theorem all3_drop {T : Type} {R : V → T → List Addr → Prop} : ∀ {vs : List V} {as : List T} {A : List Addr} (n : Nat), All3 R vs as A → ∃ A', All3 R (vs.drop n) (as.drop n) A' ∧ ∀ p, p ∈ A' → p ∈ A
  | _, _, _, 0, h => ⟨_, h, fun _ z => z⟩
  | _, _, _, n + 1, .nil => ⟨_, .nil, fun _ z => z⟩
  | _, _, _, n + 1, .cons h t => by
    obtain ⟨A', k, z⟩ := all3_drop n t
    exact ⟨A', k, fun p hp => List.mem_append_right _ (z p hp)⟩
theorem all3_take {T : Type} {R : V → T → List Addr → Prop} : ∀ {vs : List V} {as : List T} {A : List Addr} (n : Nat), All3 R vs as A → ∃ A', All3 R (vs.take n) (as.take n) A' ∧ ∀ p, p ∈ A' → p ∈ A
  | _, _, _, 0, h => ⟨[], .nil, fun _ z => by cases z⟩
  | _, _, _, n + 1, .nil => ⟨_, .nil, fun _ z => z⟩
  | _, _, _, n + 1, .cons (B := B) h t => by
    obtain ⟨A', k, z⟩ := all3_take n t
    refine ⟨B ++ A', .cons h k, fun p hp => ?_⟩
    rcases List.mem_append.mp hp with hp | hp
    · exact List.mem_append_left _ hp
    · exact List.mem_append_right _ (z p hp)
theorem all3_cut {T : Type} {R : V → T → List Addr → Prop} {vs : List V} {as : List T} {A : List Addr} (h : All3 R vs as A) (lo hi : Option Int) : ∃ A', All3 R (cutV vs lo hi) (cutL as lo hi) A' ∧ ∀ p, p ∈ A' → p ∈ A := by
  unfold cutV cutL
  rw [h.length]
  obtain ⟨A1, h1, s1⟩ := all3_drop (HT.sIx as.length 0 lo) h
  obtain ⟨A2, h2, s2⟩ := all3_take (HT.sIx as.length as.length hi - HT.sIx as.length 0 lo) h1
  exact ⟨A2, h2, fun p hp => s1 p (s2 p hp)⟩
/-- xs[lo:hi], items that own nothing -/
theorem ex_slice {lo hi : Option Expr} {tl th : TO} {ml mh : SM S (Option Int)} {xs : U → List Z} (h1 : EO X F a ta G G1 argU m1) (hl : EPa X F lo tl G1 G2 ml) (hh : EPa X F hi th G2 G3 mh) (c : r3.Cp) (hx : ∀ a s, Rdd (G3 s) (argU a) (rList r3) (xs a)) :
    EX X F (.Subscript a (.Slice lo hi none p2) pos) (tSl (rSlL X.K) ta tl th) G G3 (rList r3) (bnd m1 fun a => bnd ml fun l => bnd mh fun u => ret (cutL (xs a) l u)) :=
  ⟨pe_slice sl_list h1.pe hl.po hh.po, fun T t σ s H Q h0 q => by
    refine h1.go T t σ s H _ h0 (wp_mono (wp_bnd q) (fun a s1 q1 ts x H1 at1 av => ?_) fun _ _ z => z)
    refine hl.go _ _ σ s1 H1 _ at1 (wp_mono (wp_bnd q1) (fun l s2 q2 H2 at2 => ?_) fun _ _ z => z)
    refine hh.go _ _ σ s2 H2 _ at2 (wp_mono (wp_bnd q2) (fun u s3 q3 H3 at3 => ?_) fun _ _ z => z)
    obtain ⟨A1, A2, at3⟩ := at3
    obtain ⟨v, B, e1, p, vs, A, ev, hp, hA, eB⟩ := rddM (j := 0) at3 av rfl (hx a s3)
    cases e1
    have eA := cp_all c hA
    subst eA
    obtain ⟨A', hA', sub⟩ := all3_cut hA l u
    have eA' := cp_all c hA'
    subst eA'
    exact ⟨p, vs, ev, SqL.of hp, fun l hl => q3 _ _ (at3.newL av hA' hl)⟩⟩
end
end Td

set_option Elab.async false
set_option linter.all false
set_option maxRecDepth 100000
set_option maxHeartbeats 4000000
namespace Td
open PySem PySem.Spec PyProof.Rows L2

section
variable {K : PySem.W.Frag} {S : Type} {F : FC K S} {T : List Slot} {t : List V} {G : List Slot} {σ : L2.St} {H : Hp}
/-- a slot told otherwise -/
theorem At.conv {i : Nat} {g g' : Slot} (h : At F T t G σ H) (e : G[i]? = some g) (k : ∀ M H x B, σ[i]? = some x → g.ok K M H x B → g'.ok K M H x B) : At F T t (G.set i g') σ H := by
  obtain ⟨A1, A2, h⟩ := h
  obtain ⟨x, B, P1, P2, e1, hr, eA, back⟩ := h.loc.at_ e
  have z := back (A1 ++ A2 ++ F.M0) H g' x B (fun h _ => h) (k _ _ _ _ e1 hr)
  rw [set_self e1] at z
  subst eA
  exact ⟨A1, _, h.tmp, z, h.good⟩
theorem At.unpin {i : Nat} {w : V} {U : Type} {r : Rp U} {a : U} (h : At F T t G σ H) (e : G[i]? = some (.pn w r a)) : σ[i]? = some (some w) ∧ At F T t (G.set i (.is r a)) σ H := by
  refine ⟨?_, h.conv e fun M H x B _ hk => ⟨w, hk.1, hk.2⟩⟩
  obtain ⟨A1, A2, h⟩ := h
  obtain ⟨x, B, e1, h1, _⟩ := h.loc.mem e
  rw [e1, h1.1]
theorem At.repin {i : Nat} {w : V} {U : Type} {r : Rp U} {a : U} (h : At F T t G σ H) (e : G[i]? = some (.is r a)) (ew : σ[i]? = some (some w)) : At F T t (G.set i (.pn w r a)) σ H := by
  refine h.conv e fun M H x B ex hk => ?_
  obtain ⟨v, ev, hr⟩ := hk
  rw [ew, ev] at ex
  cases ex
  exact ⟨ev, hr⟩
theorem all3_set {T : Type} {R : V → T → List Addr → Prop} {vs : List V} {as : List T} (h : All3 R vs as []) {v : V} {a : T} (hr : R v a []) (j : Nat) : All3 R (vs.set j v) (as.set j a) [] := by
  generalize eA : ([] : List Addr) = A at h
  induction h generalizing j with
  | nil => simp; exact .nil
  | @cons v' a' B vs as A h t ih =>
    obtain ⟨rfl, rfl⟩ := List.append_eq_nil_iff.mp eA.symm
    cases j with
    | zero => exact .cons (B := []) hr t
    | succ j => exact .cons h (ih j rfl)
/-- the list in slot i: items that own nothing are set anew, temps stay -/
theorem At.putS {i : Nat} {U : Type} {r : Rp U} {xs ys : List U} (c : r.Cp) (h : At F T t G σ H) (e : G[i]? = some (.is (rList r) xs)) :
    ∃ D vs, σ[i]? = some (some (.ref D)) ∧ H D = some (.lst vs) ∧ vs.length = xs.length ∧ ∀ ws, (∀ M, All3 (r.rel K M H) vs xs [] → All3 (r.rel K M H) ws ys []) → At F T t (G.set i (.is (rList r) ys)) σ (upd H D (.lst ws)) := by
  obtain ⟨A1, A2, h⟩ := h
  obtain ⟨D, vs, B, e1, hD, hA, hl, nd0, k⟩ := h.mutS e
  have eB := cp_all c hA
  subst eB
  exact ⟨D, vs, e1, hD, hl, fun ws hw => k ws ys [] T t A1 (hw _ hA) h.tmp nd0 fun p hp => hp⟩
end
section
variable {X : Cx} {S : Type} {F : FC X.K S} {N L R U W Z : Type} {G G1 G2 G3 : S → List Slot} {GN : N → S → List Slot} {GL : L → S → List Slot} {r : Rp R} {r1 : Rp U} {r2 : Rp W} {r3 : Rp Z} {pos p0 p1 cpos apos : Pos} {rest : List Stmt} {tr : TS} {e e2 : Expr} {te te2 : TE}
def pushM {T : Type} (xs : List T) (y : T) : SM S (List T) := bnd (grd (xs.length < sizeLine)) fun _ => ret (xs ++ [y])
theorem ty_lst {K : PySem.W.Frag} {H : Hp} {p : Addr} {vs : List V} (h : H p = some (.lst vs)) : tyV K "list" (.ref p) H := Or.inl ⟨rfl, _, Or.inl (Or.inl h)⟩
/-- x.append(e) -/
theorem bx_app {xs : List U} {me : SM S U} {out : List U → SM S (Fl N L R)} {x : Str} (i : Nat) (h : EX X F e te G G1 r1 me) (hG0 : ∀ s, (G s)[i]? = some (.is (rList r1) xs)) (hG : ∀ s, (G1 s)[i]? = some (.is (rList r1) xs)) (hb : ∀ ys, BX X F rest tr (fun s => (G1 s).set i (.is (rList r1) ys)) GN GL r (out ys))
    (hN : X.N[i]? = some x := by rfl) (hv : Vis X.env.scope x := by first | exact Or.inl rfl | exact Or.inr (Or.inl rfl) | exact Or.inr (Or.inr rfl)) (hd : (x == ("__debug__" : Str)) = false := by decide) (hcd : (x == ("__classdict__" : Str)) = false := by decide)
    (hs : PySem.W.isStarred e = false := by rfl)
    (hfew : ((backTo cpos (starEach (e :: []) X.env)).all (fun x => !x.1) && (backToKw cpos (keywordEach [] X.env)).all (fun x => x.1.isSome)
      && decide ((e :: []).length + ([] : List Keyword).length + (if ([] : List Keyword).isEmpty then 0 else 1) < 30)) = true := by rfl) (hline : (apos.endLine == cpos.line) = true := by rfl) (hsw : swapsWith (.Call (.Attribute (.Name x p0) "append" apos) [e] [] cpos) none pos.line X.env = pure false := by rfl)
    (hbase : attributeBase (.Name x p0) "append" X.env (eval (.Name x p0) X.env) = eval (.Name x p0) X.env := by rfl) :
    BX X F (.Expr (.Call (.Attribute (.Name x p0) "append" apos) [e] [] cpos) pos :: rest) (tSeq (tDrop (tBM X.K "list" rAppend (tVar i) (tCons te tNil))) tr) G GN GL r (bnd me fun y => bnd (pushM xs y) out) :=
  ⟨pss_cons (ps_expr (pe_bm PySem.F.plainAttrs_list PySem.F.slot_list_append PySem.F.type_list_append mt_append (pe_var hN hv hd hcd) (pa_cons h.pe pa_nil (star1 hs)) hbase hfew hline (star1 hs) (by rfl)) hsw) (hb []).ps, fun T t σ s H D h0 q => by
    have e0 := h0
    obtain ⟨v0, M0, B0, ev0, hr0⟩ := e0.slot (hG0 s)
    obtain ⟨p0', vs0, A0, ep0, hp0, _⟩ := hr0
    subst ep0
    refine ⟨_, ev0, ty_lst hp0, ?_⟩
    refine h.go T t σ s H _ h0 (wp_mono (wp_bnd q) (fun y s1 q1 v H1 at1 => ?_) fun e s z => z σ)
    obtain ⟨hz, q2⟩ := wp_grd (wp_bnd (wp_bnd q1))
    obtain ⟨D', vs, e1, hD, hl, at2⟩ := at1.appendS (hG s1)
    rw [ev0] at e1
    cases e1
    exact ⟨p0', vs, v, rfl, rfl, hD, by rw [hl]; exact hz, (hb _).go T t σ s1 _ D at2 q2⟩⟩
def setM {T : Type} (xs : List T) (i : Int) (v : T) : SM S (List T) := match ixN xs.length i with
  | some j => ret (xs.set j v)
  | none => stk
theorem wp_setM {T : Type} {xs : List T} {i : Int} {v : T} {s : S} {P : List T → S → Prop} {E : Exn → S → Prop} (h : (setM xs i v s).wp P E) : ∃ j, ixN xs.length i = some j ∧ P (xs.set j v) s := by
  unfold setM at h
  cases e : ixN xs.length i with
  | none => rw [e] at h; exact h.elim
  | some j => rw [e] at h; exact ⟨j, rfl, h⟩
/-- x[k] = e, x an own list -/
theorem bx_setS {xs : List U} {me : SM S U} {mi : SM S Int} {out : List U → SM S (Fl N L R)} {x : Str} (i : Nat) (c : r1.Cp) (h : EX X F e te G G1 r1 me) (h2 : EX X F e2 te2 G1 G2 rInt mi) (hG1 : ∀ s, (G1 s)[i]? = some (.is (rList r1) xs)) (hG : ∀ s, (G2 s)[i]? = some (.is (rList r1) xs)) (hb : ∀ ys, BX X F rest tr (fun s => (G2 s).set i (.is (rList r1) ys)) GN GL r (out ys))
    (hN : X.N[i]? = some x := by rfl) (hv : Vis X.env.scope x := by first | exact Or.inl rfl | exact Or.inr (Or.inl rfl) | exact Or.inr (Or.inr rfl)) (hd : (x == ("__debug__" : Str)) = false := by decide) (hcd : (x == ("__classdict__" : Str)) = false := by decide)
    (ha : ∀ v, assign (.Subscript (.Name x p0) e2 p1) X.env v = (do
      let ov ← holding [v] (eval (.Name x p0) X.env)
      let iv ← holding [v, ov] (eval e2 X.env)
      standAt p1
      holding [v, ov, iv] (setItem ov iv v)
      release [v, ov, iv] []) := by intro _; rfl)
    (hs : swapsWithSole [(.Subscript (.Name x p0) e2 p1)] e pos.line X.env = pure false := by rfl) (hw : swappedStores [(.Subscript (.Name x p0) e2 p1)] e X.env = pure none := by rfl) (h1 : (assignEach [(.Subscript (.Name x p0) e2 p1)] X.env).map (·.2) = [assign (.Subscript (.Name x p0) e2 p1) X.env] := by rfl) :
    BX X F (.Assign [.Subscript (.Name x p0) e2 p1] e pos :: rest) (tSeq (tAsg te (gSub (tVar i) te2 rSetL)) tr) G GN GL r (bnd me fun v => bnd mi fun k => bnd (setM xs k v) out) :=
  ⟨pss_cons (ps_asg h.pe (pg_sub (pe_var hN hv hd hcd) h2.pe set_list ha) hs hw h1) (hb []).ps, fun T t σ s H D h0 q => by
    refine h.go T t σ s H _ h0 (wp_mono (wp_bnd q) (fun y s1 q1 v H1 at1 => ?_) fun e s z => z σ)
    obtain ⟨v0, M0, B0, ev0, hr0⟩ := at1.slot (hG1 s1)
    refine ⟨v0, ev0, ?_⟩
    refine h2.go _ _ σ s1 H1 _ at1 (wp_mono (wp_bnd q1) (fun k s2 q2 w H2 at2 => ?_) fun e s z => z σ)
    obtain ⟨_, _, ek, _⟩ := top_rel at2
    subst ek
    obtain ⟨j, hj, q3⟩ := wp_setM (wp_bnd q2)
    have at3 := at2.pop
    obtain ⟨A1, A2, at4⟩ := at3
    obtain ⟨C, A', eA, ⟨v', ev, hry⟩, ht⟩ := AtS.cons_inv at4.tmp
    cases ev
    have eC := c hry
    subst eC
    obtain ⟨D', vs, B, e1, hD, hA, hl, nd0, kk⟩ := at4.mutS (hG s2)
    rw [ev0] at e1
    cases e1
    have eB := cp_all c hA
    subst eB
    refine ⟨D', vs, k, j, rfl, rfl, hD, by rw [hl]; exact hj, ?_⟩
    exact (hb _).go T t σ s2 _ D (kk (vs.set j v) (xs.set j y) [] T t A' (all3_set hA hry j) ht (by rw [eA] at nd0; exact nd0) fun p hp => by rw [eA]; exact hp) q3⟩
/-! ### the state list of an in/out argument -/
def stIx {T : Type} (i : Int) : SM (List T) T := fun s => match atI s i with
  | some a => .ok a s
  | none => .stuck
def stSet {T : Type} (i : Int) (v : T) : SM (List T) Unit := fun s => match ixN s.length i with
  | some j => .ok () (s.set j v)
  | none => .stuck
end
section
variable {X : Cx} {A : Type} {F : FC X.K (List A)} {N L R : Type} {G G1 G2 : List A → List Slot} {GN : N → List A → List Slot} {GL : L → List A → List Slot} {r : Rp R} {ra : Rp A} {pos p0 p1 : Pos} {rest : List Stmt} {tr : TS} {e e2 b : Expr} {te te2 tb : TE}
/-- s[k] -/
theorem ex_stix {mi : SM (List A) Int} {x : Str} {w : V} (i : Nat) (h : EX X F b tb G G1 rInt mi) (c : ra.Cp) (hG0 : ∀ s, (G s)[i]? = some (.pn w (rList ra) s)) (hG : ∀ s, (G1 s)[i]? = some (.pn w (rList ra) s)) (hs : PlainIx b := by exact fun _ _ => rfl)
    (hN : X.N[i]? = some x := by rfl) (hv : Vis X.env.scope x := by first | exact Or.inl rfl | exact Or.inr (Or.inl rfl) | exact Or.inr (Or.inr rfl)) (hd : (x == ("__debug__" : Str)) = false := by decide) (hcd : (x == ("__classdict__" : Str)) = false := by decide) :
    EX X F (.Subscript (.Name x p0) b pos) (tOp (rIxL X.K) (tVar i) tb) G G1 ra (bnd mi fun k => stIx k) :=
  ⟨pe_ix ix_list (pe_var hN hv hd hcd) h.pe hs, fun T t σ s H Q h0 q => by
    obtain ⟨A1, A2, h0'⟩ := id h0
    obtain ⟨x0, B, e1, h1, _⟩ := h0'.loc.mem (hG0 s)
    obtain ⟨ex, _⟩ := h1
    subst ex
    refine ⟨w, e1, ?_⟩
    refine h.go T t σ s H _ h0 (wp_mono (wp_bnd q) (fun k s1 q1 v H1 at1 => ?_) fun _ _ z => z)
    obtain ⟨_, _, ek, _⟩ := top_rel at1
    subst ek
    obtain ⟨A1', A2', at2⟩ := at1.pop
    obtain ⟨x1, B1, e2, h2, sub⟩ := at2.loc.mem (hG s1)
    obtain ⟨ex, p, vs, C, ep, hp, hA, eB⟩ := h2
    subst ex ep
    unfold stIx at q1
    cases ei : atI s1 k with
    | none => rw [ei] at q1; exact q1.elim
    | some a =>
      rw [ei] at q1
      obtain ⟨u, Bu, e3, hr, _⟩ := atI_all (K := X.K) hA ei
      have eBu := c hr
      subst eBu
      exact ⟨p, vs, k, u, rfl, rfl, SqL.of hp, e3, q1 u H1 ⟨A1', A2', at2.pushM hr⟩⟩⟩
/-- s[k] = e -/
theorem bx_stset {me : SM (List A) A} {mi : SM (List A) Int} {out : SM (List A) (Fl N L R)} {x : Str} {w : V} (i : Nat) (c : ra.Cp) (h : EX X F e te G G1 ra me) (h2 : EX X F e2 te2 G1 G2 rInt mi) (hG1 : ∀ s, (G1 s)[i]? = some (.pn w (rList ra) s)) (hG : ∀ s, (G2 s)[i]? = some (.pn w (rList ra) s)) (hset : ∀ s s', (G2 s).set i (.pn w (rList ra) s') = G2 s')
    (hb : BX X F rest tr G2 GN GL r out)
    (hN : X.N[i]? = some x := by rfl) (hv : Vis X.env.scope x := by first | exact Or.inl rfl | exact Or.inr (Or.inl rfl) | exact Or.inr (Or.inr rfl)) (hd : (x == ("__debug__" : Str)) = false := by decide) (hcd : (x == ("__classdict__" : Str)) = false := by decide)
    (ha : ∀ v, assign (.Subscript (.Name x p0) e2 p1) X.env v = (do
      let ov ← holding [v] (eval (.Name x p0) X.env)
      let iv ← holding [v, ov] (eval e2 X.env)
      standAt p1
      holding [v, ov, iv] (setItem ov iv v)
      release [v, ov, iv] []) := by intro _; rfl)
    (hs : swapsWithSole [(.Subscript (.Name x p0) e2 p1)] e pos.line X.env = pure false := by rfl) (hw : swappedStores [(.Subscript (.Name x p0) e2 p1)] e X.env = pure none := by rfl) (h1 : (assignEach [(.Subscript (.Name x p0) e2 p1)] X.env).map (·.2) = [assign (.Subscript (.Name x p0) e2 p1) X.env] := by rfl) :
    BX X F (.Assign [.Subscript (.Name x p0) e2 p1] e pos :: rest) (tSeq (tAsg te (gSub (tVar i) te2 rSetL)) tr) G GN GL r (bnd me fun v => bnd mi fun k => bnd (stSet k v) fun _ => out) :=
  ⟨pss_cons (ps_asg h.pe (pg_sub (pe_var hN hv hd hcd) h2.pe set_list ha) hs hw h1) hb.ps, fun T t σ s H D h0 q => by
    refine h.go T t σ s H _ h0 (wp_mono (wp_bnd q) (fun y s1 q1 v H1 at1 => ?_) fun e s z => z σ)
    obtain ⟨ev0, _⟩ := at1.unpin (hG1 s1)
    refine ⟨w, ev0, ?_⟩
    refine h2.go _ _ σ s1 H1 _ at1 (wp_mono (wp_bnd q1) (fun k s2 q2 w2 H2 at2 => ?_) fun e s z => z σ)
    obtain ⟨_, _, ek, _⟩ := top_rel at2
    subst ek
    have q3 := wp_bnd q2
    unfold stSet at q3
    cases hj : ixN s2.length k with
    | none => rw [hj] at q3; exact q3.elim
    | some j =>
      rw [hj] at q3
      obtain ⟨_, at3⟩ := at2.pop.unpin (hG s2)
      obtain ⟨A1, A2, at4⟩ := at3
      obtain ⟨C, A', eA, ⟨v', ev, hry⟩, ht⟩ := AtS.cons_inv at4.tmp
      cases ev
      have eC := c hry
      subst eC
      have hlt : i < (G2 s2).length := (List.getElem?_eq_some_iff.mp (hG s2)).1
      obtain ⟨D', vs, B, e1, hD, hA, hl, nd0, kk⟩ := at4.mutS (i := i) (r := ra) (xs := s2) (List.getElem?_set_self hlt)
      rw [ev0] at e1
      cases e1
      have eB := cp_all c hA
      subst eB
      refine ⟨D', vs, k, j, rfl, rfl, hD, by rw [hl]; exact hj, ?_⟩
      have z := kk (vs.set j v) (s2.set j y) [] T t A' (all3_set hA hry j) ht (by rw [eA] at nd0; exact nd0) fun p hp => by rw [eA]; exact hp
      have z2 := z.repin (w := .ref D') (i := i) (r := rList ra) (a := s2.set j y) (by rw [List.set_set, List.getElem?_set_self hlt]) ev0
      rw [List.set_set, List.set_set, hset] at z2
      exact hb.go T t σ _ _ D z2 q3⟩
end
section
variable {X : Cx} {S : Type} {F : FC X.K S} {N L R U W Z : Type} {G G1 G2 G3 : S → List Slot} {GN : N → S → List Slot} {GL : L → S → List Slot} {r : Rp R} {r1 : Rp U} {r2 : Rp W} {r3 : Rp Z} {pos p0 p1 : Pos} {rest : List Stmt} {tr : TS} {e e2 : Expr} {te te2 : TE}
/-- an operation op= of ints -/
def IpI (X : Cx) (op : Operator) (rr : TIp) (C : Int → Int → Prop) (f : Int → Int → Int) : Prop := PIp X op rr ∧ ∀ i j H Q, C i j → Q (.int (f i j)) H → rr (.int i) (.int j) H Q
theorem ipi_add : IpI X .Add (ipI fun i j => i + j) (fun _ _ => True) (fun i j => i + j) := ⟨ip_add, fun i j H Q _ q => ⟨i, j, rfl, rfl, q⟩⟩
theorem ipi_sub : IpI X .Sub (ipI fun i j => i - j) (fun _ _ => True) (fun i j => i - j) := ⟨ip_sub, fun i j H Q _ q => ⟨i, j, rfl, rfl, q⟩⟩
/-- x op= e, ints -/
theorem bx_augI {op : Operator} {rr : TIp} {f : Int → Int → Int} {a : Int} {me : SM S Int} {out : Int → SM S (Fl N L R)} {x : Str} (i : Nat) (ho : IpI X op rr (fun _ _ => True) f) (hN : X.N.Nodup) (h : EX X F e te G G1 rInt me) (hG0 : ∀ s, (G s)[i]? = some (.is rInt a)) (hb : ∀ v, BX X F rest tr (fun s => (G1 s).set i (.is rInt v)) GN GL r (out v)) {gs : S → Slot} (hG : ∀ s, (G1 s)[i]? = some (gs s))
    (hi : X.N[i]? = some x := by rfl) (hx : Loc X.env.scope x := by first | exact Or.inl rfl | exact Or.inr rfl) (hf : X.fn x = true ∨ X.env.scope.names.lookup x = some .local := by first | exact .inl rfl | exact .inr rfl) :
    BX X F (.AugAssign (.Name x p0) op e pos :: rest) (tSeq (tAug i te rr) tr) G GN GL r (bnd me fun v => bnd (ret (f a v)) out) :=
  ⟨pss_cons (ps_aug hN hi hx h.pe ho.1 hf) (hb 0).ps, fun T t σ s H D h0 q => by
    obtain ⟨v0, M0, B0, ev0, hr0⟩ := h0.slot (hG0 s)
    obtain ⟨e0, _⟩ := hr0
    subst e0
    refine ⟨_, ev0, ?_⟩
    refine h.go T t σ s H _ h0 (wp_mono (wp_bnd q) (fun y s1 q1 v H1 at1 => ?_) fun e s z => z σ)
    obtain ⟨_, _, ek, _⟩ := top_rel at1
    subst ek
    exact ho.2 a y H1 _ trivial ((hb _).go T t _ s1 H1 D (At.store (g := .is rInt (f a y)) (At.push (r := rInt) at1.pop fun _ => ⟨rfl, rfl⟩) i (hG s1)) q1)⟩
/-- x += e, lists of things that own nothing -/
theorem bx_augL {xs : List U} {me : SM S (List U)} {out : List U → SM S (Fl N L R)} {x : Str} (i : Nat) (c : r1.Cp) (hN : X.N.Nodup) (h : EX X F e te G G1 (rList r1) me) (hG0 : ∀ s, (G s)[i]? = some (.is (rList r1) xs)) (hG : ∀ s, (G1 s)[i]? = some (.is (rList r1) xs)) (hb : ∀ v, BX X F rest tr (fun s => (G1 s).set i (.is (rList r1) v)) GN GL r (out v))
    (hi : X.N[i]? = some x := by rfl) (hx : Loc X.env.scope x := by first | exact Or.inl rfl | exact Or.inr rfl) (hf : X.fn x = true ∨ X.env.scope.names.lookup x = some .local := by first | exact .inl rfl | exact .inr rfl) :
    BX X F (.AugAssign (.Name x p0) .Add e pos :: rest) (tSeq (tAug i te rExt2) tr) G GN GL r (bnd me fun v => bnd (catM xs v) out) :=
  ⟨pss_cons (ps_aug hN hi hx h.pe iop_ext hf) (hb []).ps, fun T t σ s H D h0 q => by
    obtain ⟨v0, M0, B0, ev0, hr0⟩ := h0.slot (hG0 s)
    obtain ⟨p0', vs0, A0, ep0, hp0, _⟩ := hr0
    subst ep0
    refine ⟨_, ev0, ?_⟩
    refine h.go T t σ s H _ h0 (wp_mono (wp_bnd q) (fun ys s1 q1 v H1 at1 => ?_) fun e s z => z σ)
    obtain ⟨A1, A2, at4⟩ := at1
    obtain ⟨C, A', eA, ⟨v', ev, p2, ws, A3, ep2, hp2, hA2, eC⟩, ht⟩ := AtS.cons_inv at4.tmp
    cases ev
    subst ep2 eC
    have eA3 := cp_all c hA2
    subst eA3
    obtain ⟨D', vs, B, e1, hD, hA, hl, nd0, kk⟩ := at4.mutS (hG s1)
    rw [ev0] at e1
    cases e1
    have eB := cp_all c hA
    subst eB
    obtain ⟨hz, q2⟩ := wp_grd (wp_bnd (wp_bnd q1))
    have hz' : (xs ++ ys).length ≤ sizeLine := hz
    rw [List.length_append, ← hl, ← hA2.length] at hz'
    refine ⟨p0', p2, vs, ws, rfl, rfl, hD, hp2, hz', ?_⟩
    have z := kk (vs ++ ws) (xs ++ ys) [] T t A' (hA.append hA2) ht (by rw [eA] at nd0; simpa using (List.nodup_cons.mp (by simpa using nd0)).2) fun p hp => by rw [eA]; simp at hp ⊢; exact .inr hp
    have z2 := (hb _).go T t σ s1 _ D z q2
    rwa [← set_self (T := Option V) ev0] at z2⟩
/-- x = y = e -/
theorem bx_asg2 {me : SM S U} {out : U → SM S (Fl N L R)} {x y : Str} (i j : Nat) {gs gs' : S → Slot} (c : r1.Cp) (hN : X.N.Nodup) (hij : i ≠ j) (h : EX X F e te G G1 r1 me) (hb : ∀ v, BX X F rest tr (fun s => ((G1 s).set i (.is r1 v)).set j (.is r1 v)) GN GL r (out v)) (ha : Inhabited U)
    (he : ∀ s, (G1 s)[i]? = some (gs s)) (he2 : ∀ s, (G1 s)[j]? = some (gs' s)) (hi : X.N[i]? = some x := by rfl) (hj : X.N[j]? = some y := by rfl) (hx : Loc X.env.scope x := by first | exact Or.inl rfl | exact Or.inr rfl) (hy : Loc X.env.scope y := by first | exact Or.inl rfl | exact Or.inr rfl)
    (hf : X.fn x = true ∨ X.env.scope.names.lookup x = some .local := by first | exact .inl rfl | exact .inr rfl) (hfy : X.fn y = true ∨ X.env.scope.names.lookup y = some .local := by first | exact .inl rfl | exact .inr rfl)
    (has : (assignEach [.Name x p0, .Name y p1] X.env).map (·.2) = [assign (.Name x p0) X.env, assign (.Name y p1) X.env] := by rfl) (hw : swappedStores [.Name x p0, .Name y p1] e X.env = pure none := by rfl) :
    BX X F (.Assign [.Name x p0, .Name y p1] e pos :: rest) (tSeq (tAsg2 te (gName i) (gName j)) tr) G GN GL r (bnd me out) :=
  ⟨pss_cons (ps_asg2 h.pe (pg_name hN hi hx hf) (pg_name hN hj hy hfy) has hw) (hb ha.default).ps, fun T t σ s H D h0 q => by
    refine h.go T t σ s H _ h0 (wp_mono (wp_bnd q) (fun y s1 q1 v H1 at1 => ?_) fun e s z => z σ)
    obtain ⟨A1, A2, at2⟩ := id at1
    obtain ⟨C, A', eA, ⟨v', ev, hr⟩, ht⟩ := AtS.cons_inv at2.tmp
    cases ev
    have eC := c hr
    subst eC
    have at3 : At F (.is r1 y :: .is r1 y :: T) (v :: v :: t) (G1 s1) σ H1 := ⟨A1, A2, at2.pushM hr⟩
    exact (hb y).go T t _ s1 H1 D ((at3.store i (he s1)).store j (by rw [List.getElem?_set_ne hij]; exact he2 s1)) q1⟩
/-- x, y, z = e1, e2, e3 -/
theorem bx_par3 {a b c : Expr} {ta tb tc : TE} {m1 : SM S U} {m2 : SM S W} {m3 : SM S Z} {out : U → W → Z → SM S (Fl N L R)} {x y z : Str} {px py pz pt pt2 : Pos} {kt k2 : Nat} (i j l : Nat) {gs gs' gs2 : S → Slot} (hN : X.N.Nodup) (hc : X.calm = true) (hij : i ≠ j) (hil : i ≠ l) (hjl : j ≠ l)
    (h1 : EX X F a ta G G1 r1 m1) (h2 : EX X F b tb G1 G2 r2 m2) (h3 : EX X F c tc G2 G3 r3 m3) (hb : ∀ a b c, BX X F rest tr (fun s => (((G3 s).set l (.is r3 c)).set j (.is r2 b)).set i (.is r1 a)) GN GL r (out a b c)) (ha : Inhabited U) (ha2 : Inhabited W) (ha3 : Inhabited Z) (he : ∀ s, (G3 s)[i]? = some (gs s)) (he2 : ∀ s, (G3 s)[j]? = some (gs' s)) (he3 : ∀ s, (G3 s)[l]? = some (gs2 s))
    (hw : swappedStores [.Tuple [.Name x px, .Name y py, .Name z pz] kt pt] (.Tuple [a, b, c] k2 pt2) X.env = pure (some [x, y, z]) := by rfl) (hs : swapsWithSole [.Tuple [.Name x px, .Name y py, .Name z pz] kt pt] (.Tuple [a, b, c] k2 pt2) pos.line X.env = pure false := by rfl)
    (hi : X.N[i]? = some x := by rfl) (hj : X.N[j]? = some y := by rfl) (hl : X.N[l]? = some z := by rfl) (hx : X.env.scope.names.lookup x = some .local := by rfl) (hy : X.env.scope.names.lookup y = some .local := by rfl) (hz : X.env.scope.names.lookup z = some .local := by rfl) (hsa : PySem.W.isStarred a = false := by rfl) (hsb : PySem.W.isStarred b = false := by rfl) (hsc : PySem.W.isStarred c = false := by rfl) :
    BX X F (.Assign [.Tuple [.Name x px, .Name y py, .Name z pz] kt pt] (.Tuple [a, b, c] k2 pt2) pos :: rest) (tSeq (tPar3 i j l (tCons ta (tCons tb (tCons tc tNil)))) tr) G GN GL r (bnd m1 fun a => bnd m2 fun b => bnd m3 fun c => out a b c) :=
  ⟨pss_cons (ps_par3 hc hN hi hj hl hij hil hjl hx hy hz (pa_cons h1.pe (pa_cons h2.pe (pa_cons h3.pe pa_nil (star1 hsc)) (star1 hsb)) (star1 hsa)) hw hs) (hb ha.default ha2.default ha3.default).ps, fun T t σ s H D h0 q => by
    refine h1.go T t σ s H _ h0 (wp_mono (wp_bnd q) (fun a s1 q1 v H1 at1 => ?_) fun e s z => z σ)
    refine h2.go _ _ σ s1 H1 _ at1 (wp_mono (wp_bnd q1) (fun b s2 q2 w H2 at2 => ?_) fun e s z => z σ)
    refine h3.go _ _ σ s2 H2 _ at2 (wp_mono (wp_bnd q2) (fun c s3 q3 u H3 at3 => ?_) fun e s z => z σ)
    refine ⟨v, w, u, rfl, (hb a b c).go T t _ s3 H3 D ?_ q3⟩
    have z := ((at3.store l (he3 s3)).store j (by rw [List.getElem?_set_ne (Ne.symm hjl)]; exact he2 s3)).store i (by rw [List.getElem?_set_ne (Ne.symm hij), List.getElem?_set_ne (Ne.symm hil)]; exact he s3)
    rw [List.set_comm (l := σ) _ _ (Ne.symm hjl), List.set_comm (l := σ.set j _) _ _ (Ne.symm hil), List.set_comm (l := σ) _ _ (Ne.symm hij)] at z
    exact z⟩
end
end Td

set_option Elab.async false
set_option linter.all false
set_option maxRecDepth 100000
set_option maxHeartbeats 4000000
namespace Td
open PySem PySem.Spec PyProof.Rows L2 He

/-! ### the head: what stands behind the top -/
/-- a def: where its object stands, its text -/
structure Df where
  adr : PySem.W.Frag → Addr
  name : Str
  qual : Str
  params : Arguments
  body : List Stmt
  scope : Scope
def fnA (K : PySem.W.Frag) (a : Addr) : FnW := match K.lookup a with
  | some ⟨_, _, .func fd, _⟩ => some (fd.name, fd.qualname, fd.params, fd.body, fd.scope, fd.globals, fd.closure, fd.builtins)
  | _ => none
def Df.told (d : Df) : FnW := some (d.name, d.qual, d.params, .stmts d.body, d.scope, mainGlobals, [], builtinsNs)
def Df.fit (K : PySem.W.Frag) (d : Df) : Bool := PySem.W.keepIn K (.ref (d.adr K)) && (match K.lookup (d.adr K) with
  | some ⟨_, _, .func fd, _⟩ => PySem.W.codeIn K fd.code d.qual && (dflB K fd.defaults [] && kwdB K fd.kwdefaults [])
  | _ => false)
theorem Df.funD {K : PySem.W.Frag} {d : Df} (e : fnA K (d.adr K) = d.told) (c : d.fit K = true) : ∃ fd, FunD K d.name d.qual d.params d.body d.scope [] [] (d.adr K) fd := by
  obtain ⟨kp, c2⟩ := ba c
  unfold fnA at e
  cases q : K.lookup (d.adr K) with
  | none => rw [q] at c2; cases c2
  | some o =>
    obtain ⟨oc, od, dt, osl⟩ := o
    rw [q] at c2 e
    cases dt with
    | func fd =>
      obtain ⟨n1, n2, n3, n4, n5, n6, n7, n8, n9, n10, n11, n12, n13, n14, n15⟩ := fd
      have e2 : (some (n1, n2, n3, n4, n5, n6, n7, n15) : FnW) = some (d.name, d.qual, d.params, .stmts d.body, d.scope, mainGlobals, [], builtinsNs) := e
      simp only [Option.some.injEq, Prod.mk.injEq] at e2
      obtain ⟨h1, h2, h3, h4, h5, h6, h7, h8⟩ := e2
      subst h1 h2 h3 h4 h5 h6 h7 h8
      have c3 : (PySem.W.codeIn K n13 d.qual && (dflB K n8 [] && kwdB K n9 [])) = true := c2
      obtain ⟨k1, k2⟩ := ba c3
      obtain ⟨k3, k4⟩ := ba k2
      exact ⟨_, ⟨oc, od, n8, n9, n10, n11, n12, n13, n14, osl, rfl, q, k1, dflB_ok k3, kwdB_ok k4⟩, kp⟩
    | _ => cases c2
abbrev AlTd : Type := Bool × List FnW
def obsTd (ex : PySem.W.Frag → Bool) (fs : List Df) (K : PySem.W.Frag) : AlTd := (ex K && fs.all fun d => d.fit K, fs.map fun d => fnA K (d.adr K))
def valTd (fs : List Df) : AlTd := (true, fs.map Df.told)
def SaysTd (ex : PySem.W.Frag → Bool) (fs : List Df) (K : PySem.W.Frag) : Prop := obsTd ex fs K = valTd fs
def obsTdG (n : Nat) (ex : PySem.W.Frag → Bool) (fs : List Df) (g : Addr → Option Obj) : AlTd := obsTd ex fs (frG g (asD g n))
def hookTd (n : Nat) (ex : PySem.W.Frag → Bool) (fs : List Df) : PySem.W.Hook where
  α := AlTd
  obs := fun s => obsTdG n ex fs s.heap.get?
  val := fun _ => valTd fs
  says := fun _ h => ∃ K : PySem.W.Frag, K.In h ∧ SaysTd ex fs K
  of := fun _ _ e => ⟨_, frG_in, e⟩
  keeps := fun _ _ _ ⟨K, hK, c⟩ k => ⟨K, PySem.W.Frag.In.keeps hK k, c⟩
theorem obsTdG_eq {n : Nat} {ex : PySem.W.Frag → Bool} {fs : List Df} {g : Addr → Option Obj} {s : Shared} (h : ∀ a, g a = s.heap.get? a) : obsTdG n ex fs g = (hookTd n ex fs).obs s := by
  have e : g = s.heap.get? := funext h
  subst e; rfl
section
variable {ex : PySem.W.Frag → Bool} {fs : List Df} {K : PySem.W.Frag}
theorem SaysTd.more (c : SaysTd ex fs K) : ex K = true := (ba (congrArg (fun z : AlTd => z.1) c)).1
theorem SaysTd.df (c : SaysTd ex fs K) (i : Nat) {d : Df} (h : fs[i]? = some d := by rfl) : ∃ fd, FunD K d.name d.qual d.params d.body d.scope [] [] (d.adr K) fd := by
  have c2 : (fs.all fun d => d.fit K) = true := (ba (congrArg (fun z : AlTd => z.1) c)).2
  have e : fs.map (fun d => fnA K (d.adr K)) = fs.map Df.told := congrArg (fun z : AlTd => z.2) c
  have e2 : (fs.map fun d => fnA K (d.adr K))[i]? = (fs.map Df.told)[i]? := by rw [e]
  rw [List.getElem?_map, List.getElem?_map, h] at e2
  exact Df.funD (Option.some.inj e2) (List.all_eq_true.mp c2 d (List.mem_of_getElem? h))
end
/-! ### facts of a class with slots -/
def gaB (K : PySem.W.Frag) (x : Str) : Bool := (Fa.glo x).ok K
def frB (K : PySem.W.Frag) (x : Str) : Bool := (Fa.free x).ok K
def slcB (K : PySem.W.Frag) (C : Addr) : Bool := PySem.W.plainGet K C Str.empty && (PySem.W.isClsIn K C && (PySem.W.plainOver K C && eqO (PySem.W.findIn K (.ref C) "__setattr__") (some (some (.builtin "object.__setattr__")))))
theorem slcB_ok {K : PySem.W.Frag} {C : Addr} (h : slcB K C = true) : SlX.SCls K C := by
  obtain ⟨h1, h2⟩ := ba h
  obtain ⟨h3, h4⟩ := ba h2
  obtain ⟨h5, h6⟩ := ba h4
  exact ⟨h1, h3, h5, eqO_ok h6⟩
def slotB (K : PySem.W.Frag) (C : Addr) (f : Str) (i : Nat) : Bool := eqO (PySem.W.findIn K (.ref C) f) (some (some (.ref (ma K C f)))) && (eqO (PySem.W.specialIn K (.ref (ma K C f)) "__get__") (some (some (.builtin "member_descriptor.__get__"))) &&
  (decide (PySem.W.takesIn K (.ref (ma K C f)) = some true) && (decide (PySem.W.typeIn K (.ref (ma K C f)) = some (.type "member_descriptor")) && (decide (PySem.W.slotIn K (ma K C f) C = some i) && decide (i < 1000)))))
theorem slotB_ok {K : PySem.W.Frag} {C : Addr} {f : Str} {i : Nat} (h : slotB K C f i = true) : SlX.Slot1 K C f (ma K C f) i := by
  obtain ⟨h1, h2⟩ := ba h
  obtain ⟨h3, h4⟩ := ba h2
  obtain ⟨h5, h6⟩ := ba h4
  obtain ⟨h7, h8⟩ := ba h6
  obtain ⟨h9, h10⟩ := ba h8
  exact ⟨eqO_ok h1, eqO_ok h3, of_decide_eq_true h5, of_decide_eq_true h7, of_decide_eq_true h9, of_decide_eq_true h10⟩
/-- a property: its getter -/
def pgA (K : PySem.W.Frag) (C : Addr) (f : Str) : Addr := match PySem.W.recIn K (ma K C f) "property" with
  | some (.ref g :: _) => g
  | _ => 0
structure Prp (K : PySem.W.Frag) (C : Addr) (f : Str) : Prop where
  at_ : PySem.W.findIn K (.ref C) f = some (some (.ref (ma K C f)))
  get : PySem.W.specialIn K (.ref (ma K C f)) "__get__" = some (some (.builtin "property.__get__"))
  tk : PySem.W.takesIn K (.ref (ma K C f)) = some true
  rc : ∃ rest, PySem.W.recIn K (ma K C f) "property" = some (.ref (pgA K C f) :: rest)
def prpB (K : PySem.W.Frag) (C : Addr) (f : Str) : Bool := eqO (PySem.W.findIn K (.ref C) f) (some (some (.ref (ma K C f)))) && (eqO (PySem.W.specialIn K (.ref (ma K C f)) "__get__") (some (some (.builtin "property.__get__"))) &&
  (decide (PySem.W.takesIn K (.ref (ma K C f)) = some true) && (match PySem.W.recIn K (ma K C f) "property" with
    | some (.ref _ :: _) => true
    | _ => false)))
theorem prpB_ok {K : PySem.W.Frag} {C : Addr} {f : Str} (h : prpB K C f = true) : Prp K C f := by
  obtain ⟨h1, h2⟩ := ba h
  obtain ⟨h3, h4⟩ := ba h2
  obtain ⟨h5, h6⟩ := ba h4
  refine ⟨eqO_ok h1, eqO_ok h3, of_decide_eq_true h5, ?_⟩
  unfold pgA
  split at h6
  · rename_i g rest e
    exact ⟨rest, by rw [e]⟩
  · cases h6
/-- a method found on the class, called by the machine -/
def mthB (K : PySem.W.Frag) (C : Addr) (m : Str) : Bool := eqO (PySem.W.findIn K (.ref C) m) (some (some (.ref (ma K C m)))) && (PySem.W.isFn K (.ref (ma K C m)) && PySem.W.keepIn K (.ref (ma K C m)))
def isiB (K : PySem.W.Frag) (C : Addr) : Bool := eqO (PySem.W.findIn K (.ref C) "__class__") (some (some (.builtin "object.__class__"))) && (eqO (PySem.W.specialIn K (.builtin "object.__class__") "__get__") (some (some (.builtin "getset_descriptor.__get__"))) &&
  (decide (PySem.W.takesIn K (.builtin "object.__class__") = some true) && decide (PySem.W.mroIn K C (.type "object") = some true)))
theorem isiB_ok {K : PySem.W.Frag} {C : Addr} (h : isiB K C = true) : SlX.SIsi K C := by
  obtain ⟨h1, h2⟩ := ba h
  obtain ⟨h3, h4⟩ := ba h2
  obtain ⟨h5, h6⟩ := ba h4
  exact ⟨eqO_ok h1, eqO_ok h3, of_decide_eq_true h5, of_decide_eq_true h6⟩
def clsB : Stmt → List Stmt
  | .ClassDef _ _ _ b _ _ _ _ _ _ _ => b
  | _ => []
end Td

set_option Elab.async false
set_option linter.all false
set_option maxRecDepth 100000
set_option maxHeartbeats 4000000
namespace Td
open PySem PySem.Spec PyProof.Rows L2

/-! ### arithmetic, named -/
instance decMul (i j : Int) : Decidable (CMul i j) := by unfold CMul; infer_instance
instance decDivN (i j : Int) : Decidable (CDivN i j) := by unfold CDivN; infer_instance
instance decDivW (i j : Int) : Decidable (CDivW i j) := by unfold CDivW; infer_instance
instance decMulW (i j : Int) : Decidable (CMulW i j) := by unfold CMulW; infer_instance
def CPowV (i j : Int) : Prop := 0 ≤ i ∧ 0 ≤ j ∧ (i.natAbs.log2 + 1) * j.toNat ≤ 100000000
instance decPowV (i j : Int) : Decidable (CPowV i j) := by unfold CPowV; infer_instance
def mulM {S : Type} (i j : Int) : SM S Int := grdI CMul (fun i j => i * j) i j
def mulWM {S : Type} (i j : Int) : SM S Int := grdI CMulW (fun i j => i * j) i j
def divM {S : Type} (i j : Int) : SM S Int := grdI CDivN (fun i j => i.fdiv j) i j
def divWM {S : Type} (i j : Int) : SM S Int := grdI CDivW (fun i j => i / j) i j
def modM {S : Type} (i j : Int) : SM S Int := grdI (fun _ j => j ≠ 0) (fun i j => i.fmod j) i j
def powM {S : Type} (i j : Int) : SM S Int := grdI CPowV (fun i j => i ^ j.toNat) i j
section
variable {S : Type} {K : PySem.W.Frag}
theorem stl_grdI {C : Int → Int → Prop} [∀ i j, Decidable (C i j)] {g : Int → Int → Int} (i j : Int) : Stl (grdI C g i j : SM S Int) := stl_bnd stl_grd fun _ => stl_ret _
theorem stl_mul (i j : Int) : Stl (mulM i j : SM S Int) := stl_grdI i j
theorem stl_mulW (i j : Int) : Stl (mulWM i j : SM S Int) := stl_grdI i j
theorem stl_div (i j : Int) : Stl (divM i j : SM S Int) := stl_grdI i j
theorem stl_divW (i j : Int) : Stl (divWM i j : SM S Int) := stl_grdI i j
theorem stl_mod (i j : Int) : Stl (modM i j : SM S Int) := stl_grdI i j
theorem stl_pow (i j : Int) : Stl (powM i j : SM S Int) := stl_grdI i j
theorem vo_mul : VO2 K S rInt rInt rInt (rI CMul fun i j => .int (i * j)) mulM := vo_I CMul fun i j => i * j
theorem vo_mulW : VO2 K S rInt rInt rInt (rI CMulW fun i j => .int (i * j)) mulWM := vo_I CMulW fun i j => i * j
theorem vo_div : VO2 K S rInt rInt rInt (rI CDivN fun i j => .int (i.fdiv j)) divM := vo_I CDivN fun i j => i.fdiv j
theorem vo_divW : VO2 K S rInt rInt rInt (rI CDivW fun i j => .int (i / j)) divWM := vo_I CDivW fun i j => i / j
theorem vo_mod : VO2 K S rInt rInt rInt (rI (fun _ j => j ≠ 0) fun i j => .int (i.fmod j)) modM := vo_I (fun _ j => j ≠ 0) fun i j => i.fmod j
theorem vo_pow : VO2 K S rInt rInt rInt (rI CPowV fun i j => .int (i ^ j.toNat)) powM := vo_I CPowV fun i j => i ^ j.toNat
end
theorem op_powV {X : Cx} : OpR X (binaryOp .Pow) (rI CPowV fun i j => .int (i ^ j.toNat)) := opI fun i j t u s Q E hc q => by
  obtain ⟨h0, h1, h2⟩ := hc
  refine PySem.AutoIntOpsIf.pow ?_
  rw [if_pos h1]
  by_cases hj : (j == 0) = true
  · rw [if_pos hj]
    have e : j = 0 := by simpa using hj
    subst e
    have e2 : i ^ Int.toNat 0 = 1 := by simp
    rw [e2] at q
    exact q
  · rw [if_neg hj]
    have hj' : j ≠ 0 := by simpa using hj
    by_cases hi : (i == 0 || i == 1) = true
    · rw [if_pos hi]
      have e : i ^ j.toNat = i := by
        have hp : j.toNat ≠ 0 := by omega
        rcases (by simpa using hi : i = 0 ∨ i = 1) with e | e
        · rw [e]; exact Int.zero_pow hp
        · rw [e]; exact Int.one_pow
      rw [e] at q
      exact q
    · rw [if_neg hi]
      have hm : ¬ (i == -1) = true := by simp; omega
      rw [if_neg hm]
      have hb : ¬ Builtin.Int.intTooBig (((Builtin.Int.intBits i : Nat) : Int) * j) = true := by
        unfold Builtin.Int.intTooBig
        have b : Builtin.Int.intBits i ≤ i.natAbs.log2 + 1 := by
          unfold Builtin.Int.intBits
          split <;> omega
        have e : bitsLine = 134217728 := by decide
        have e2 : ((Builtin.Int.intBits i : Nat) : Int) * j = ((Builtin.Int.intBits i * j.toNat : Nat) : Int) := by
          rw [Int.natCast_mul, Int.toNat_of_nonneg h1]
        have h3 : Builtin.Int.intBits i * j.toNat ≤ (i.natAbs.log2 + 1) * j.toNat := Nat.mul_le_mul_right _ b
        rw [e2, e]
        simp only [decide_eq_true_eq, gt_iff_lt, Int.not_lt]
        omega
      rw [if_neg hb]
      exact q
/-! ### small helpers of the printed proofs -/
section
variable {X : Cx} {S : Type} {F : FC X.K S} {U : Type} {r : Rp U} {e : Expr} {te : TE} {G G0 G' : S → List Slot} {m : SM S U} {n : Nat}
theorem ex_wk (w : ∀ s, Weak (G s) (G0 s)) (h : EX X F e te G0 G' r m) : EX X F e te G G' r m := ⟨h.pe, fun T t σ s H Q h0 q => h.go T t σ s H Q (h0.weak (w s)) q⟩
theorem wio {K : PySem.W.Frag} {F : FC K S} (hio : F.io = fun _ => uns n) (w : ∀ s, Weak (G s) (uns n)) : ∀ s, Weak (G s) (F.io s) := fun s => by rw [hio]; exact w s
theorem wios {K : PySem.W.Frag} {F : FC K S} {g : S → List Slot} (hio : F.io = g) (w : ∀ s, Weak (G s) (g s)) : ∀ s, Weak (G s) (F.io s) := fun s => by rw [hio]; exact w s
theorem hWE {K : PySem.W.Frag} {F : FC K S} {E : XK} (hW : F.W = fun c d _ H' => E c d H') : ∀ c d σ H, F.W c d σ H → E c d H := fun c d σ H h => by rw [hW] at h; exact h
theorem passes_nx {CX' : CXT} {P : Program} {w : World} (e : CX' = L2.CX P w) : Passes CX' X (fun _ _ _ => False) := fun pins σ H s e' s' I h => by
  subst e
  obtain ⟨a, B, H', cls, d, _, _, _, _, _, _, _, hf⟩ := h
  exact hf.elim
inductive UnAt (G : List Slot) : List Nat → Prop
  | nil : UnAt G []
  | cons {v vs} (e : G[v]? = some .un) (h : UnAt G vs) : UnAt G (v :: vs)
theorem UnAt.all {G : List Slot} {vs : List Nat} (h : UnAt G vs) : ∀ v, v ∈ vs → G[v]? = some .un ∨ G[v]? = none := by
  induction h with
  | nil => intro v z; cases z
  | cons e _ ih =>
    intro v z
    rcases List.mem_cons.mp z with z | z
    · rw [z]; exact .inl e
    · exact ih v z
end
section
variable {X : Cx} {S : Type} {F : FC X.K S} {N L R : Type} {sts : List Stmt} {ts : TS} {GN : N → S → List Slot} {GL : L → S → List Slot} {r : Rp R} {out : SM S (Fl N L R)}
theorem bx_nf {G : S → List Slot} (G' : S → List Slot) (e : ∀ s, G s = G' s) (h : BX X F sts ts G' GN GL r out) : BX X F sts ts G GN GL r out := by
  have z : G = G' := funext e
  subst z
  exact h
end
/-! ### data's text -/
def dP {A B : Type} (f : A → PyData) (g : B → PyData) (p : A × B) : PyData := .tuple [f p.1, g p.2]
def dT3 {A B C : Type} (f : A → PyData) (g : B → PyData) (h : C → PyData) (p : A × B × C) : PyData := .tuple [f p.1, g p.2.1, h p.2.2]
def dL {A : Type} (f : A → PyData) (xs : List A) : PyData := .list (xs.map f)
def dTL {A : Type} (f : A → PyData) (xs : List A) : PyData := .tuple (xs.map f)
def dO {A : Type} (f : A → PyData) : Option A → PyData
  | none => .none
  | some a => f a
def dN (_ : Unit) : PyData := .none
section
variable {A B C : Type} {r : Rp A} {q : Rp B} {l : Rp C} {f : A → PyData} {g : B → PyData} {h : C → PyData}
theorem en_N : Enc rNon dN := enc_non
theorem en_P (h1 : Enc r f) (h2 : Enc q g) : Enc (rPair r q) (dP f g) := enc_pair h1 h2
theorem en_T3 (h1 : Enc r f) (h2 : Enc q g) (h3 : Enc l h) : Enc (rTup3 r q l) (dT3 f g h) := enc_tup3 h1 h2 h3
theorem en_L (h1 : Enc r f) : Enc (rList r) (dL f) := enc_list h1
theorem en_TL (h1 : Enc r f) : Enc (rTupL r) (dTL f) := enc_tupL h1
theorem en_O (h1 : Enc r f) : Enc (rOpt r) (dO f) := by
  intro K M H v a B k
  cases a with
  | none =>
    have e : v = .non := k.1
    rw [e]; exact .non
  | some a => exact h1 k
end
/-! ### two lists side by side, of things that own nothing -/
section
variable {K : PySem.W.Frag} {S : Type} {F : FC K S} {A B : Type} {rx : Rp A} {ry : Rp B}
theorem src_zipC {a b : Addr} {xs : List A} {ys : List B} (c1 : rx.Cp) (c2 : ry.Cp) : Src F (fun _ => True) (Itz K a b) [.is (sh (rList ry)) ys, .is (sh (rList rx)) xs] [.ref b, .ref a] (rPair rx ry) (xs.zip ys) where
  len := rfl
  go := (src_zip (rx := rx) (ry := ry) (xs := xs) (ys := ys) (a := a) (b := b)).go
  stop := (src_zip (rx := rx) (ry := ry) (xs := xs) (ys := ys) (a := a) (b := b)).stop
  yld := by
    intro i c x T1 t1 T t G σ H H' _ e h hy ha
    obtain ⟨ha1, ha2⟩ := zip_get ha
    obtain ⟨A1, A2, h⟩ := h
    obtain ⟨_, v, ev, _, C, ⟨p, vs, _, ep, hp, hA, eC⟩, hC⟩ := held e h
    have h2 : AtP F ((T1 ++ [.is (sh (rList ry)) ys]) ++ ([.is (sh (rList rx)) xs] ++ T)) ((t1 ++ [.ref b]) ++ ([.ref a] ++ t)) G σ H A1 A2 := by simpa using h
    obtain ⟨_, v2, ev2, _, C2, ⟨p2, vs2, _, ep2, hp2, hA2, eC2⟩, hC2⟩ := held (by simp [e]) h2
    cases ev
    cases ep
    cases ev2
    cases ep2
    obtain ⟨T, y1, y2, rfl, hT, rfl, hy1, hy2⟩ := hy
    obtain ⟨w1, D1, e1, hr1, sub1⟩ := hA2.get' ha1
    obtain ⟨w2, D2, e2, hr2, sub2⟩ := hA.get' ha2
    have q1 := hy1 vs2 (SqL.of hp2)
    have q2 := hy2 vs (SqL.of hp)
    rw [e1] at q1
    rw [e2] at q2
    cases q1
    cases q2
    have eD1 := c1 hr1
    have eD2 := c2 hr2
    subst eD1 eD2
    exact At.tup2 ⟨A1, A2, (h.pushM hr1).pushM hr2⟩ hT
end
section
variable {X : Cx} {S : Type} {F : FC X.K S} {A B : Type} {rx : Rp A} {ry : Rp B} {e a b : Expr} {elts : List Expr} {kk : Nat} {tpos : Pos} {te ta tb : TE} {G G1 G2 G' : S → List Slot} {m : SM S (List A)} {m2 : SM S (List B)} {pos p0 : Pos}
theorem ei_zipC (h : EX X F a ta G G1 (sh (rList rx)) m) (h2 : EX X F b tb G1 G2 (sh (rList ry)) m2) (c1 : rx.Cp) (c2 : ry.Cp) (hg : Gl X "zip") (hm : X.mg "zip" = none) (hs : PySem.W.isStarred a = false := by rfl) (hs2 : PySem.W.isStarred b = false := by rfl) :
    EI X F (.Tuple elts kk tpos) (.Call (.Name "zip" p0) [a, b] [] pos) (iZip X.K (tCons ta (tCons tb tNil))) G G2 (fun _ => True) (rPair rx ry) (bnd m fun xs => bnd m2 fun ys => ret (xs.zip ys)) :=
  ⟨pi_zip hg hm (pa_cons h.pe (pa_cons h2.pe pa_nil (star1 hs2)) (star1 hs)) (by first | (rw [star1 hs, star1 hs2]; done) | (rw [star1 hs, star1 hs2]; rfl)) (by first | (rw [star1 hs2]; done) | (rw [star1 hs2]; rfl)), fun T t σ s H R h0 q => h.go T t σ s H _ h0 (wp_mono (wp_bnd q) (fun xs s1 q1 v H1 at1 => by
    refine h2.go _ _ σ s1 H1 _ at1 (wp_mono (wp_bnd q1) (fun ys s2 q2 w H2 at2 => ?_) fun _ _ z => z)
    obtain ⟨M, B, _, C, ⟨p, vs, D, ev, hp, hD, _⟩, _⟩ := snd_rel at2
    obtain ⟨M', B', _, C', ⟨p', vs', D', ev', hp', hD', _⟩, _⟩ := top_rel at2
    subst ev
    subst ev'
    exact ⟨p, p', vs, vs', rfl, SqL.of hp, SqL.of hp', q2 _ [_, _] [_, _] H2 (src_zipC c1 c2) at2⟩) fun _ _ z => z)⟩
end
end Td

set_option Elab.async false
set_option linter.all false
set_option maxRecDepth 100000
set_option maxHeartbeats 4000000
namespace Td
open PySem PySem.Spec PyProof.Rows L2

section
variable {X : Cx} {S : Type} {F : FC X.K S} {A B N L R : Type} {rx : Rp A} {rb : Rp B} {tg e elt : Expr} {ifs : List Expr} {scope : Scope} {own : List (Str × Nat)} {wi : TI} {g : Shared → Hp → Addr → List (Str × Addr) → List Addr → TG} {ws : List Nat} {tt : Shared → Hp → Addr → List (Str × Addr) → List Addr → TT} {te : Shared → Hp → Addr → List (Str × Addr) → List Addr → TE} {G G1 : S → List Slot} {C : List Slot → Prop} {mi : SM S (List A)} {Gt : S → A → List Slot} {mt : A → SM S Bool} {me : A → SM S B} {pos spos p0 : Pos} {GN : N → S → List Slot} {GL : L → S → List Slot} {r : Rp R} {rest : List Stmt} {tr : TS}
/-- y = [..] -/
theorem bx_lc {out : List B → SM S (Fl N L R)} {y : Str} (i : Nat) {gs : S → Slot} (sh0 : Shared) (hc : X.calm = true) (hN : X.N.Nodup) (hi : EI X F tg e wi G G1 C rx mi) (hC : ∀ s, C (G1 s)) (ok : BlkOk X.N X.env.scope scope own) (hun : ∀ s, UnAt (G1 s) (own.map (·.2))) (sub : ∀ j, j ∈ ws → j ∈ own.map (·.2)) (hwk : ∀ s x, Weak (Gt s x) (G1 s))
    (hg : ∀ (s0 : Shared) (H : Hp) (D : Addr) (cl : List (Str × Addr)) (fp : List Addr) (s : S), EG (X.blk s0 H scope (compEnvC scope cl D X.env) fp) F.nx tg (g s0 H D cl fp) ws rx (G1 s) (Gt s))
    (ht : ∀ (s0 : Shared) (H : Hp) (D : Addr) (cl : List (Str × Addr)) (fp : List Addr) (x : A), ETs (X.blk s0 H scope (compEnvC scope cl D X.env) fp) F.nx ifs (tt s0 H D cl fp) (fun s => Gt s x) (fun s => Gt s x) (mt x))
    (he : ∀ (s0 : Shared) (H : Hp) (D : Addr) (cl : List (Str × Addr)) (fp : List Addr) (x : A), EX (X.blk s0 H scope (compEnvC scope cl D X.env) fp) F.nx elt (te s0 H D cl fp) (fun s => Gt s x) (fun s => Gt s x) rb (me x)) (hA : Inhabited A) (hS : Inhabited S)
    (hb : ∀ a, BX X F rest tr (fun s => (G1 s).set i (.is (rList rb) a)) GN GL r (out a)) (hG : ∀ s, (G1 s)[i]? = some (gs s)) (hy : X.N[i]? = some y := by rfl) (hyl : X.env.scope.names.lookup y = some .local := by rfl) (hsw : swapsWith (.ListComp elt [⟨tg, e, ifs, 0⟩] scope pos) (some (.Name y p0)) spos.line X.env = pure true := by rfl)
    (hge : ∀ s0 H D cl fp, g s0 H D cl fp = g sh0 (fun _ => none) 0 [] [] := by intros; rfl) (hte : ∀ s0 H D cl fp, tt s0 H D cl fp = tt sh0 (fun _ => none) 0 [] [] := by intros; rfl) (hee : ∀ s0 H D cl fp, te s0 H D cl fp = te sh0 (fun _ => none) 0 [] [] := by intros; rfl) (hs : ∀ x, foldedSetIterable e X.env x = pure x := by intro _; rfl) : BX X F (.Assign [.Name y p0] (.ListComp elt [⟨tg, e, ifs, 0⟩] scope pos) spos :: rest) (tSeq (tAsg (tLc wi (g sh0 (fun _ => none) 0 [] []) (tt sh0 (fun _ => none) 0 [] []) (te sh0 (fun _ => none) 0 [] []) (own.map (·.2))) (gName i)) tr) G GN GL r (bnd (bnd mi fun xs => lcM (fun x => lcIt (mt x) (me x)) [] xs) out) :=
  bx_asgW i (ps_setLc hc hN hy hyl hsw hi.pi ok (fun s0 H D cl fp => by rw [← hge s0 H D cl fp]; exact (hg s0 H D cl fp hS.default).pg) (fun s0 H D cl fp => by rw [← hte s0 H D cl fp]; exact (ht s0 H D cl fp hA.default).pt) (fun s0 H D cl fp => by rw [← hee s0 H D cl fp]; exact (he s0 H D cl fp hA.default).pe) hs)
    (go_lc hi.go hC (fun s => (hun s).all) sub (fun s => (hg sh0 (fun _ => none) 0 [] [] s).go) hwk (fun x => (ht sh0 (fun _ => none) 0 [] [] x).go) (fun x => (he sh0 (fun _ => none) 0 [] [] x).go)) hb ⟨[]⟩ hG
theorem bx_lcS {out : List B → SM S (Fl N L R)} {y : Str} (i : Nat) {gs : S → Slot} (sh0 : Shared) (hc : X.calm = true) (hN : X.N.Nodup) (hi : EI X F tg e wi G G1 C rx mi) (hC : ∀ s, C (G1 s)) (ok : BlkOk X.N X.env.scope scope own) (hun : ∀ s, UnAt (G1 s) (own.map (·.2))) (sub : ∀ j, j ∈ ws → j ∈ own.map (·.2)) (hwk : ∀ s x, Weak (Gt s x) (G1 s))
    (hg : ∀ (s0 : Shared) (H : Hp) (D : Addr) (cl : List (Str × Addr)) (fp : List Addr) (s : S), EG (X.blk s0 H scope (compEnvC scope cl D X.env) fp) F.nx tg (g s0 H D cl fp) ws rx (G1 s) (Gt s))
    (ht : ∀ (s0 : Shared) (H : Hp) (D : Addr) (cl : List (Str × Addr)) (fp : List Addr) (x : A), ETs (X.blk s0 H scope (compEnvC scope cl D X.env) fp) F.nx ifs (tt s0 H D cl fp) (fun s => Gt s x) (fun s => Gt s x) (mt x))
    (he : ∀ (s0 : Shared) (H : Hp) (D : Addr) (cl : List (Str × Addr)) (fp : List Addr) (x : A), EX (X.blk s0 H scope (compEnvC scope cl D X.env) fp) F.nx elt (te s0 H D cl fp) (fun s => Gt s x) (fun s => Gt s x) rb (me x)) (hA : Inhabited A) (hS : Inhabited S)
    (hb : ∀ a, BX X F rest tr (fun s => (G1 s).set i (.is (sh (rList rb)) a)) GN GL r (out a)) (hG : ∀ s, (G1 s)[i]? = some (gs s)) (hy : X.N[i]? = some y := by rfl) (hyl : X.env.scope.names.lookup y = some .local := by rfl) (hsw : swapsWith (.ListComp elt [⟨tg, e, ifs, 0⟩] scope pos) (some (.Name y p0)) spos.line X.env = pure true := by rfl)
    (hge : ∀ s0 H D cl fp, g s0 H D cl fp = g sh0 (fun _ => none) 0 [] [] := by intros; rfl) (hte : ∀ s0 H D cl fp, tt s0 H D cl fp = tt sh0 (fun _ => none) 0 [] [] := by intros; rfl) (hee : ∀ s0 H D cl fp, te s0 H D cl fp = te sh0 (fun _ => none) 0 [] [] := by intros; rfl) (hs : ∀ x, foldedSetIterable e X.env x = pure x := by intro _; rfl) : BX X F (.Assign [.Name y p0] (.ListComp elt [⟨tg, e, ifs, 0⟩] scope pos) spos :: rest) (tSeq (tAsg (tLc wi (g sh0 (fun _ => none) 0 [] []) (tt sh0 (fun _ => none) 0 [] []) (te sh0 (fun _ => none) 0 [] []) (own.map (·.2))) (gName i)) tr) G GN GL r (bnd (bnd mi fun xs => lcM (fun x => lcIt (mt x) (me x)) [] xs) out) :=
  bx_asgW i (ps_setLc hc hN hy hyl hsw hi.pi ok (fun s0 H D cl fp => by rw [← hge s0 H D cl fp]; exact (hg s0 H D cl fp hS.default).pg) (fun s0 H D cl fp => by rw [← hte s0 H D cl fp]; exact (ht s0 H D cl fp hA.default).pt) (fun s0 H D cl fp => by rw [← hee s0 H D cl fp]; exact (he s0 H D cl fp hA.default).pe) hs)
    (fun T t σ s H Q h0 q => go_lc hi.go hC (fun s => (hun s).all) sub (fun s => (hg sh0 (fun _ => none) 0 [] [] s).go) hwk (fun x => (ht sh0 (fun _ => none) 0 [] [] x).go) (fun x => (he sh0 (fun _ => none) 0 [] [] x).go) T t σ s H Q h0 (wp_mono q (fun a s1 q1 v H1 at1 => q1 v H1 at1.freeze) fun _ _ z => z)) hb ⟨[]⟩ hG
/-- as a value -/
theorem ex_lcU (sh0 : Shared) (hc : X.calm = true) (hN : X.N.Nodup) (hi : EI X F tg e wi G G1 C rx mi) (hC : ∀ s, C (G1 s)) (ok : BlkOk X.N X.env.scope scope own) (hun : ∀ s, UnAt (G1 s) (own.map (·.2))) (sub : ∀ j, j ∈ ws → j ∈ own.map (·.2)) (hwk : ∀ s x, Weak (Gt s x) (G1 s))
    (hg : ∀ (s0 : Shared) (H : Hp) (D : Addr) (cl : List (Str × Addr)) (fp : List Addr) (s : S), EG (X.blk s0 H scope (compEnvC scope cl D X.env) fp) F.nx tg (g s0 H D cl fp) ws rx (G1 s) (Gt s))
    (ht : ∀ (s0 : Shared) (H : Hp) (D : Addr) (cl : List (Str × Addr)) (fp : List Addr) (x : A), ETs (X.blk s0 H scope (compEnvC scope cl D X.env) fp) F.nx ifs (tt s0 H D cl fp) (fun s => Gt s x) (fun s => Gt s x) (mt x))
    (he : ∀ (s0 : Shared) (H : Hp) (D : Addr) (cl : List (Str × Addr)) (fp : List Addr) (x : A), EX (X.blk s0 H scope (compEnvC scope cl D X.env) fp) F.nx elt (te s0 H D cl fp) (fun s => Gt s x) (fun s => Gt s x) rb (me x)) (hA : Inhabited A) (hS : Inhabited S)
    (hge : ∀ s0 H D cl fp, g s0 H D cl fp = g sh0 (fun _ => none) 0 [] [] := by intros; rfl) (hte : ∀ s0 H D cl fp, tt s0 H D cl fp = tt sh0 (fun _ => none) 0 [] [] := by intros; rfl) (hee : ∀ s0 H D cl fp, te s0 H D cl fp = te sh0 (fun _ => none) 0 [] [] := by intros; rfl) (hs : ∀ x, foldedSetIterable e X.env x = pure x := by intro _; rfl) : EX X F (.ListComp elt [⟨tg, e, ifs, 0⟩] scope pos) (tLc wi (g sh0 (fun _ => none) 0 [] []) (tt sh0 (fun _ => none) 0 [] []) (te sh0 (fun _ => none) 0 [] []) (own.map (·.2))) G G1 (rList rb) (bnd mi fun xs => lcM (fun x => lcIt (mt x) (me x)) [] xs) :=
  ex_lc sh0 hc hN hi hC ok (fun s => (hun s).all) sub hwk (fun s0 H D cl fp s => by rw [← hge s0 H D cl fp]; exact hg s0 H D cl fp s) (fun s0 H D cl fp x => by rw [← hte s0 H D cl fp]; exact ht s0 H D cl fp x) (fun s0 H D cl fp x => by rw [← hee s0 H D cl fp]; exact he s0 H D cl fp x) hA hS hs
end
end Td

set_option Elab.async false
set_option linter.all false
set_option maxRecDepth 100000
set_option maxHeartbeats 4000000
namespace Td
open PySem PySem.Spec PyProof.Rows L2

/-! ### calls whose in/out argument is a temp -/
/-- a computation with a state of its own -/
def subM {S S' T : Type} (m : SM S' T) (s0 : S') : SM S (T × S') := fun s => match m s0 with
  | .ok a s' => .ok (a, s') s
  | .exc e _ => .exc e s
  | .stuck => .stuck
theorem wp_subM {S S' T : Type} {m : SM S' T} {s0 : S'} {s : S} {P : T × S' → S → Prop} {E : Exn → S → Prop} (h : ((subM m s0 : SM S (T × S')) s).wp P E) : (m s0).wp (fun a s' => P (a, s') s) (fun e _ => E e s) := by
  unfold subM at h
  cases hm : m s0 with
  | ok a s' => rw [hm] at h; exact h
  | exc e s' => rw [hm] at h; exact h
  | stuck => rw [hm] at h; exact h
section
variable {K : PySem.W.Frag} {S : Type} {F : FC K S} {T T0 : List Slot} {t t0 : List V} {G : List Slot} {σ : L2.St} {H H' : Hp}
theorem AtS.mapOk {M M' : List Addr} {H' : Hp} {G : List Slot} {s : List (Option V)} {A : List Addr} (h : AtS K M H G s A) (k : ∀ {g x B}, Slot.ok K M H g x B → (∀ p, p ∈ B → p ∈ A) → Slot.ok K M' H' g x B) : AtS K M' H' G s A := by
  induction h with
  | nil => exact .nil
  | cons h t ih => exact .cons (k h fun p hp => List.mem_append_left _ hp) (ih fun h hp => k h fun p z => List.mem_append_right _ (hp p z))
theorem AtP.lift {g : Slot} {v : V} {A1 A2 : List Addr} (e : t0.length = T0.length) (h : AtP F (T0 ++ (g :: T)) (t0 ++ (v :: t)) G σ H A1 A2) :
    ∃ B A1', (∀ p, p ∈ A1' ++ (B ++ A2) ↔ p ∈ A1 ++ A2) ∧ g.ok K (A1 ++ A2 ++ F.M0) H (some v) B ∧ AtS K (A1' ++ (B ++ A2) ++ F.M0) H G σ A2 ∧ AtP F (T0 ++ T) (t0 ++ t) (g :: G) (some v :: σ) H A1' (B ++ A2) := by
  have ht := h.tmp
  rw [List.map_append] at ht
  obtain ⟨C, D, eA, h1, h2⟩ := AtS.split (by rw [List.length_map, e]) ht
  obtain ⟨B, D', eD, hg, h3⟩ := AtS.cons_inv h2
  subst eA eD
  have mm : ∀ p, p ∈ (C ++ D') ++ (B ++ A2) ↔ p ∈ (C ++ (B ++ D')) ++ A2 := fun p => by
    simp only [List.mem_append]; grind
  have hM : ∀ x, x ∈ (C ++ D') ++ (B ++ A2) ++ F.M0 → x ∈ (C ++ (B ++ D')) ++ A2 ++ F.M0 ∨ H x = none := fun x hx => .inl (by
    have := mm x
    simp only [List.mem_append] at *
    grind)
  have nd := h.good.nd
  refine ⟨B, C ++ D', mm, hg, h.loc.grow hM, ?_, .cons (Slot.ok_grow hg hM) (h.loc.grow hM), h.good.sub ?_ fun p hp => (mm p).mp hp⟩
  · rw [List.map_append]
    exact (h1.grow hM).append (h3.grow hM)
  · simp only [List.nodup_append, List.mem_append] at *
    grind
theorem At.low {g : Slot} {x : Option V} (h : At F T t (g :: G) (x :: σ) H) : At F T t G σ H := by
  obtain ⟨A1, A2, h⟩ := h
  obtain ⟨B, A', eA, hg, h2⟩ := AtS.cons_inv h.loc
  subst eA
  have nd := h.good.nd
  have hM : ∀ x, x ∈ A1 ++ A' ++ F.M0 → x ∈ A1 ++ (B ++ A') ++ F.M0 ∨ H x = none := fun x hx => .inl (by simp only [List.mem_append] at *; grind)
  exact ⟨A1, A', h.tmp.grow hM, h2.grow hM, h.good.sub (by simp only [List.nodup_append, List.mem_append] at *; grind) fun p hp => by simp only [List.mem_append] at *; grind⟩
theorem At.sink {g : Slot} {v : V} (h : At F T t (g :: G) (some v :: σ) H) : At F (g :: T) (v :: t) G σ H := by
  obtain ⟨A1, A2, h⟩ := h
  obtain ⟨B, A', eA, hg, h2⟩ := AtS.cons_inv h.loc
  subst eA
  have nd := h.good.nd
  have hM : ∀ x, x ∈ (B ++ A1) ++ A' ++ F.M0 → x ∈ A1 ++ (B ++ A') ++ F.M0 ∨ H x = none := fun x hx => .inl (by simp only [List.mem_append] at *; grind)
  exact ⟨B ++ A1, A', .cons (Slot.ok_grow hg hM) (h.tmp.grow hM), h2.grow hM, h.good.sub (by simp only [List.nodup_append, List.mem_append] at *; grind) fun p hp => by simp only [List.mem_append] at *; grind⟩
/-- the promise of a callee, its in/out argument in a slot ahead -/
theorem run_ioS {S' U W : Type} {n : Nat} {rio : Rp S'} {Pr : U → List Slot} {r : Rp W} {f : U → SM S' W} {E : XK} {L : List Arg} {ts vr : List V} {w : V} {s0 : S'} {u : U} {A1' A2 C : List Addr} {Q : VK} (cio : rio.Clo)
    (hio : rio.rel K (A1' ++ (C ++ A2) ++ F.M0) H w s0 C) (tail : AtS K (A1' ++ (C ++ A2) ++ F.M0) H G σ A2) (at2 : AtP F ((tmps L).reverse ++ T) (ts.reverse ++ t) (.is rio s0 :: G) (some w :: σ) H A1' (C ++ A2)) (lts : ts.length = (tmps L).length) (hn : vr.length + 1 = n)
    (hent : AtS K (A1' ++ (C ++ A2) ++ F.M0) H (Pr u) (vr.map some) [])
    (q : (f u s0).wp (fun b s' => ∀ v H', At F (.is rio s' :: .is r b :: T) (w :: v :: t) G σ H' → Q v H') (fun e s' => ∀ d H', At F (.is rXd e.pay :: T) (.ref d :: t) G σ H' → E (.ref (He.ga K e.cls)) (some d) H')) :
    SpI K n rio Pr r f (w :: vr) H Q E := by
  have tC := rio.trk hio
  have nd := at2.good.nd
  have disC : ∀ p, p ∈ C → p ∉ A1' ++ ([] ++ A2) ++ F.M0 := fun p hp z => by
    have out := at2.good.out p
    simp only [List.nodup_append, List.mem_append, List.nil_append] at *
    grind
  have ndC : C.Nodup := by
    simp only [List.nodup_append] at nd
    exact nd.2.1.1
  have tr := at2.m_trk
  have entry : At (FC.c (K := K) (S := S') H C (A1' ++ ([] ++ A2) ++ F.M0)) [] [] (.pn w rio s0 :: Pr u) ((w :: vr).map some) H := by
    refine ⟨[], C ++ [], .nil, .cons ⟨rfl, cio hio⟩ (hent.grow fun p hp => .inl ?_), ⟨by simpa using ndC, fun p hp => disC p (by simpa using hp), fun p hp => .inr (show p ∈ C by simpa using hp), tC, fun _ _ e _ => e, fun p hp => ⟨tr p ?_, fun z => disC p z hp⟩⟩⟩
    · have hp' : p ∈ [] ++ (C ++ []) ++ (A1' ++ ([] ++ A2) ++ F.M0) := hp
      simp only [List.mem_append, List.append_nil, List.nil_append] at *
      grind
    · have hp' : p ∈ A1' ++ ([] ++ A2) ++ F.M0 := hp
      simp only [List.mem_append, List.nil_append] at *
      grind
  have back : ∀ (M' : List Addr) (H' : Hp) (g' : Slot) (x' : Option V) (B' : List Addr), (∀ {g x B}, Slot.ok K (A1' ++ (C ++ A2) ++ F.M0) H g x B → (∀ p, p ∈ B → p ∈ [] ∨ p ∈ A2) → Slot.ok K M' H' g x B) → g'.ok K M' H' x' B' → AtS K M' H' ((.is rio s0 :: G).set 0 g') ((some w :: σ).set 0 x') ([] ++ (B' ++ A2)) := by
    intro M' H' g' x' B' k hg'
    show AtS K M' H' (g' :: G) (x' :: σ) (B' ++ A2)
    exact .cons hg' (tail.mapOk fun hs sub => k hs fun p hp => .inr (sub p hp))
  have hM : ∀ p, p ∈ A1' ++ ([] ++ A2) ++ F.M0 → p ∈ A1' ++ ([] ++ A2) ++ F.M0 := fun _ z => z
  refine ⟨u, s0, C, _, by rw [List.length_cons, hn], entry, wp_mono q (fun b s2 q3 v H' hx => ?_) (fun e s2 q3 d H' hx => ?_)⟩
  · have z := At.backIo (j := 0) at2 (P1 := []) rfl back rfl tC hx cio (.inr hM)
    have z2 := At.dropU (by simp [lts]) z
    have z3 := (At.unpin z2 (i := 0) rfl).2
    exact q3 v H' (At.sink z3)
  · have z := At.backIo (j := 0) at2 (P1 := []) rfl back rfl tC hx cio (.inr hM)
    exact q3 d H' (At.low (At.dropU (by simp [lts]) z))
/-- .. a temp below the other arguments -/
theorem run_ioT {S' U W : Type} {n : Nat} {rio : Rp S'} {Pr : U → List Slot} {r : Rp W} {f : U → SM S' W} {E : XK} {L : List Arg} {ts vr : List V} {w : V} {s0 : S'} {u : U} {A1 A2 : List Addr} {Q : VK} (cio : rio.Clo)
    (at1 : AtP F ((tmps L).reverse ++ (.is rio s0 :: T)) (ts.reverse ++ (w :: t)) G σ H A1 A2) (av : ArgV σ L ts vr) (hn : L.length + 1 = n) (he : EntS G L (Pr u))
    (q : (f u s0).wp (fun b s' => ∀ v H', At F (.is rio s' :: .is r b :: T) (w :: v :: t) G σ H' → Q v H') (fun e s' => ∀ d H', At F (.is rXd e.pay :: T) (.ref d :: t) G σ H' → E (.ref (He.ga K e.cls)) (some d) H')) :
    SpI K n rio Pr r f (w :: vr) H Q E := by
  have hent := entS_at at1 av he
  have lts := (argV_len av).2
  obtain ⟨C, A1', mm, hg, tail, at2⟩ := at1.lift (T0 := (tmps L).reverse) (t0 := ts.reverse) (by simp [lts])
  obtain ⟨w', ew, hio⟩ := hg
  cases ew
  have hMM : ∀ p, p ∈ A1' ++ (C ++ A2) ++ F.M0 → p ∈ A1 ++ A2 ++ F.M0 ∨ H p = none := fun p hp => .inl (by
    have := mm p
    simp only [List.mem_append] at *
    grind)
  exact run_ioS cio (cio hio) tail at2 lts (by rw [(argV_len av).1, hn]) (hent.grow hMM) q
theorem go_callIoT {S' U W A : Type} {n : Nat} {rio : Rp S'} {Pr : U → List Slot} {r : Rp W} {f : U → SM S' W} {fm : A → SM S' W} {E : XK} {ta : TA} {G G' : S → List Slot} {LA : A → List Arg} {mA : SM S A} {sx : A → S'} (u : A → U) (hf : ∀ a, fm a = f (u a)) (cio : rio.Clo) (h : GA F ta G G' LA mA) (hL : ∀ a, LA a = .t (.is rio (sx a)) :: (LA a).tail) (hn : ∀ a, (LA a).length = n)
    (he : ∀ a s, EntS (G' s) (LA a).tail (Pr (u a))) (hW : ∀ c d σ H, F.W c d σ H → E c d H) (hw : ∀ s, Weak (G' s) (F.io s)) :
    GE F (tCall (SpI K n rio Pr r f) [] E ta) G G' r (bnd mA fun a => bnd (subM (fm a) (sx a)) fun p => ret p.1) := by
  intro T t σ s H Q h0 q
  have ef : fm = fun a => f (u a) := funext hf
  subst ef
  refine h T t σ s H _ h0 (wp_mono (wp_bnd q) (fun a s1 q1 ts vs H1 at1 av => ?_) fun _ _ z => z)
  have q2 := wp_subM (wp_bnd q1)
  obtain ⟨w, ts', vr, e1, e2, av'⟩ : ∃ w ts' vr, ts = w :: ts' ∧ vs = w :: vr ∧ ArgV σ (LA a).tail ts' vr := by
    have av2 := av
    rw [hL a] at av2
    cases av2 with
    | t h => exact ⟨_, _, _, rfl, rfl, h⟩
  subst e1 e2
  obtain ⟨A1, A2, at1⟩ := at1
  have at2 : AtP F ((tmps (LA a).tail).reverse ++ (.is rio (sx a) :: T)) (ts'.reverse ++ (w :: t)) (G' s1) σ H1 A1 A2 := by
    rw [hL a] at at1
    simpa [tmps] using at1
  show SpI K n rio Pr r f (w :: vr ++ []) H1 Q E
  rw [List.append_nil]
  have hn' : (LA a).tail.length + 1 = n := by
    have z := hn a
    rw [hL a] at z
    simpa using z
  refine run_ioT cio at2 av' hn' (he a s1) (wp_mono q2 (fun b s' q3 v H' hx => q3 v H' hx.pop) (fun e s' q3 d H' hx => ?_))
  refine hW _ _ σ _ (q3 d H' ?_)
  have z2 := hx.weak (hw s1)
  exact At.dropM (T0 := [_]) (t0 := [.ref d]) (T := []) (t := []) rfl (T1 := T) (t1 := t) (by obtain ⟨B1, B2, hz⟩ := h0; have := hz.tmp.length; simpa using this) (by simpa using z2)
end
section
variable {X : Cx} {S S' : Type} {F : FC X.K S} {U W A : Type} {n k : Nat} {rio : Rp S'} {Pr : U → List Slot} {r : Rp W} {f : U → SM S' W} {fm : A → SM S' W} {E : XK} {ta : TA} {G G' : S → List Slot} {LA : A → List Arg} {mA : SM S A} {CX : CXT} {fA : Addr} {fd : FuncData} {ps : List Str} {x : Str} {p pos : Pos} {e : Expr} {es : List Expr} {sx : A → S'}
theorem ex_callIoT (u : A → U) (FO : FnOk X.prog X.w X.K X.mg X.base CX k fA fd ps (SpI X.K n rio Pr r f)) (hr : Room k X.A) (hg : Gl X x) (hm : X.mg x = some (.ref fA)) (hk : PySem.W.keepIn X.K (.ref fA) = true) (hb : Binds X.K fd ps []) (hx : Passes CX X E)
    (cio : rio.Clo) (h : EA X F (e :: es) ta G G' LA mA) (hn : ∀ a, (LA a).length = n)
    (he : ∀ a s, EntS (G' s) (LA a).tail (Pr (u a))) (hW : ∀ c d σ H, F.W c d σ H → E c d H) (hw : ∀ s, Weak (G' s) (F.io s)) (hL : ∀ a, LA a = .t (.is rio (sx a)) :: (LA a).tail := by intro _; rfl) (hf : ∀ a, fm a = f (u a) := by intro _; rfl)
    (hst : PySem.W.isStarred e = false := by rfl) (hpl : (backTo pos (starEach es X.env)).any (·.1) = false := by rfl) (hdb : (x == ("__debug__" : Str)) = false := by decide) :
    EX X F (.Call (.Name x p) (e :: es) [] pos) (tCall (SpI X.K n rio Pr r f) [] E ta) G G' r (bnd mA fun a => bnd (subM (fm a) (sx a)) fun p => ret p.1) :=
  ⟨pe_call FO hr hg hm hk hb .nil hx h.pa (hdb := hdb) (he := star1 hst) (hpl := hpl), go_callIoT u hf cio h.go hL hn he hW hw⟩
end
end Td

set_option Elab.async false
set_option linter.all false
set_option maxRecDepth 100000
set_option maxHeartbeats 4000000
namespace Td
open PySem PySem.Spec PyProof.Rows L2

/-! ### calls of defs that the machine makes itself, without an exception -/
section
variable {K : PySem.W.Frag} {S : Type} {F : FC K S} {T : List Slot} {t : List V} {G : List Slot} {σ : L2.St} {H : Hp}
theorem run_sp {U W : Type} {n : Nat} {Ps : U → List Slot} {r : Rp W} {f : U → SM Unit W} {E : XK} {L : List Arg} {ts vs : List V} {u : U} {A1 A2 : List Addr} {Q : VK} (at1 : AtP F ((tmps L).reverse ++ T) (ts.reverse ++ t) G σ H A1 A2) (av : ArgV σ L ts vs) (hn : L.length = n) (he : EntS G L (Ps u))
    (q : (f u ()).wp (fun b _ => ∀ v H', At F (.is r b :: T) (v :: t) G σ H' → Q v H') (fun _ _ => False)) : SpP K n Ps r f vs H Q E := by
  have hat := entS_at at1 av he
  refine ⟨u, (), [], A1 ++ A2 ++ F.M0, by rw [(argV_len av).1, hn], ⟨[], [], .nil, hat, good_c at1.m_trk⟩, wp_mono q (fun b _ q3 v H' hx => ?_) fun _ _ z => z.elim⟩
  exact q3 v H' (At.dropU (by simp [(argV_len av).2]) (At.back at1 hx (.inr fun _ z => z)))
/-- what slot i owns is changed, and nothing else -/
theorem AtP.chg {i : Nat} {g' : Slot} {x : Option V} {B P1 P2 A1 A2 : List Addr} {H' : Hp} (h : AtP F T t G σ H A1 A2) (eA : A2 = P1 ++ (B ++ P2)) (ex : σ[i]? = some x)
    (back : ∀ (M' : List Addr) (H' : Hp) (g' : Slot) (x' : Option V) (B' : List Addr), (∀ {g x B}, Slot.ok K (A1 ++ A2 ++ F.M0) H g x B → (∀ p, p ∈ B → p ∈ P1 ∨ p ∈ P2) → Slot.ok K M' H' g x B) → g'.ok K M' H' x' B' → AtS K M' H' (G.set i g') (σ.set i x') (P1 ++ (B' ++ P2)))
    (tB : ∀ p, p ∈ B → ∃ o, H p = some o ∧ isTup o = false) (hout : ∀ p, p ∉ B → H' p = H p) (hin : ∀ p, p ∈ B → ∃ o, H' p = some o ∧ isTup o = false) (hg : g'.ok K (A1 ++ A2 ++ F.M0) H' x B) : At F T t (G.set i g') σ H' := by
  subst eA
  have nd := h.good.nd
  have kp : ∀ {B0 : List Addr}, (∀ p, p ∈ B0 → p ∈ A1 ∨ p ∈ P1 ∨ p ∈ P2) → ∀ p o, H p = some o → (p ∉ A1 ++ (P1 ++ (B ++ P2)) ++ F.M0 ∨ p ∈ B0 ∨ isTup o = true) → H' p = some o := by
    intro B0 hB0 p o e hp
    have np : p ∉ B := fun z => by
      obtain ⟨o', e', zt⟩ := tB p z
      rw [e] at e'
      cases e'
      rcases hp with q | q | q
      · exact q (by simp only [List.mem_append]; grind)
      · have := hB0 p q
        simp only [List.nodup_append, List.mem_append] at nd
        grind
      · rw [zt] at q; cases q
    rw [hout p np]; exact e
  have z := back (A1 ++ (P1 ++ (B ++ P2)) ++ F.M0) H' g' x B (fun hs sub => Slot.ok_keep hs (kp fun p hp => .inr (sub p hp))) hg
  rw [set_self ex] at z
  refine ⟨A1, P1 ++ (B ++ P2), h.tmp.keep (kp fun p hp => .inl hp), z, ⟨nd, h.good.out, h.good.new, fun p hp => ?_, fun p o e hI => ?_, h.good.m0⟩⟩
  · by_cases hB : p ∈ B
    · exact hin p hB
    · obtain ⟨o, e, q⟩ := h.good.has p hp
      exact ⟨o, by rw [hout p hB]; exact e, q⟩
  · have np : p ∉ B := fun z => by
      rcases h.good.new p (by simp only [List.mem_append]; grind) with q | q
      · rw [q] at e; cases e
      · exact hI q
    rw [hout p np]
    exact h.good.stay p o e hI
end

/-! ### a tape -/
abbrev TapeV := Int × List (Int × Int)
abbrev rFiles : Rp (List (Int × Int)) := rTupL (rPair rInt rInt)
theorem cp_files : rFiles.Cp := cp_tupL (cp_pair cp_int cp_int)
theorem clo_tupL {T : Type} {r : Rp T} (c : r.Clo) : (rTupL r).Clo := by
  rintro K M M' H v a B ⟨p, vs, e, hp, hA⟩
  exact ⟨p, vs, e, hp, hA.imp fun _ _ _ _ h => c h⟩
theorem clo_files : rFiles.Clo := clo_tupL (clo_pair clo_int clo_int)
def tapeC (K : PySem.W.Frag) : Addr := He.ga K "Tape"
def tapeAt (K : PySem.W.Frag) (M : List Addr) (H : Hp) (p dx : Addr) (a : TapeV) : Prop := ∃ w, H p = some (SlX.SlO p (tapeC K) dx [some (.int a.1), some w]) ∧ H dx = some (.xd []) ∧ rFiles.rel K M H w a.2 []
def rTape : Rp TapeV where
  rel := fun K M H v a B => ∃ p dx, v = .ref p ∧ p ≠ dx ∧ tapeAt K M H p dx a ∧ B = [p, dx]
  keep := by
    rintro K M H H' v a B ⟨p, dx, ev, ne, ⟨w, h1, h2, h3⟩, eB⟩ k
    subst eB
    exact ⟨p, dx, ev, ne, ⟨w, k p _ h1 (.inr (.inl (by simp))), k dx _ h2 (.inr (.inl (by simp))), rFiles.keep h3 fun q o e z => k q o e (z.elim .inl fun y => y.elim (fun x => by cases x) fun x => .inr (.inr x))⟩, rfl⟩
  grow := by
    rintro K M M' H v a B ⟨p, dx, ev, ne, ⟨w, h1, h2, h3⟩, eB⟩ k
    exact ⟨p, dx, ev, ne, ⟨w, h1, h2, rFiles.grow h3 k⟩, eB⟩
  trk := by
    rintro K M H v a B ⟨p, dx, ev, ne, ⟨w, h1, h2, h3⟩, eB⟩ x hx
    subst eB
    rcases List.mem_cons.mp hx with e | hx
    · subst e; exact ⟨_, h1, rfl⟩
    · rcases List.mem_cons.mp hx with e | hx
      · subst e; exact ⟨_, h2, rfl⟩
      · cases hx
theorem clo_tape : rTape.Clo := by
  rintro K M M' H v a B ⟨p, dx, ev, ne, ⟨w, h1, h2, h3⟩, eB⟩
  exact ⟨p, dx, ev, ne, ⟨w, h1, h2, clo_files h3⟩, eB⟩
theorem nn_tape : rTape.Nn := by
  rintro K M H v a B ⟨p, dx, ev, _⟩
  rw [ev]; intro z; cases z
/-- a tape that is being made -/
inductive TS0 where
  | new
  | half (n : Int)
  | full (a : TapeV)
instance : Inhabited TS0 := ⟨.new⟩
def rSelf : Rp TS0 where
  rel := fun K M H v a B => match a with
    | .new => ∃ p dx, v = .ref p ∧ p ≠ dx ∧ (H p = some (.ins (tapeC K) dx []) ∧ H dx = some (.own p)) ∧ B = [p, dx]
    | .half n => ∃ p dx, v = .ref p ∧ p ≠ dx ∧ (H p = some (SlX.SlO p (tapeC K) dx [some (.int n)]) ∧ H dx = some (.xd [])) ∧ B = [p, dx]
    | .full a => rTape.rel K M H v a B
  keep := by
    intro K M H H' v a B h k
    cases a with
    | new =>
      obtain ⟨p, dx, ev, ne, ⟨h1, h2⟩, eB⟩ := h
      subst eB
      exact ⟨p, dx, ev, ne, ⟨k p _ h1 (.inr (.inl (by simp))), k dx _ h2 (.inr (.inl (by simp)))⟩, rfl⟩
    | half n =>
      obtain ⟨p, dx, ev, ne, ⟨h1, h2⟩, eB⟩ := h
      subst eB
      exact ⟨p, dx, ev, ne, ⟨k p _ h1 (.inr (.inl (by simp))), k dx _ h2 (.inr (.inl (by simp)))⟩, rfl⟩
    | full a => exact rTape.keep h k
  grow := by
    intro K M M' H v a B h k
    cases a with
    | new => exact h
    | half n => exact h
    | full a => exact rTape.grow h k
  trk := by
    intro K M H v a B h x hx
    cases a with
    | new =>
      obtain ⟨p, dx, ev, ne, ⟨h1, h2⟩, eB⟩ := h
      subst eB
      simp only [List.mem_cons, List.not_mem_nil, or_false] at hx
      rcases hx with e | e
      · subst e; exact ⟨_, h1, rfl⟩
      · subst e; exact ⟨_, h2, rfl⟩
    | half n =>
      obtain ⟨p, dx, ev, ne, ⟨h1, h2⟩, eB⟩ := h
      subst eB
      simp only [List.mem_cons, List.not_mem_nil, or_false] at hx
      rcases hx with e | e
      · subst e; exact ⟨_, h1, rfl⟩
      · subst e; exact ⟨_, h2, rfl⟩
    | full a => exact rTape.trk h x hx
theorem clo_self : rSelf.Clo := by
  intro K M M' H v a B h
  cases a with
  | new => exact h
  | half n => exact h
  | full a => exact clo_tape h
/-- what of the text a tape's class must have -/
structure TapeCls (K : PySem.W.Frag) : Prop where
  sc : SlX.SCls K (tapeC K)
  s0 : SlX.Slot1 K (tapeC K) "extent" (He.ma K (tapeC K) "extent") 0
  s1 : SlX.Slot1 K (tapeC K) "kept" (He.ma K (tapeC K) "kept") 1
theorem tape_slt {K : PySem.W.Frag} {M : List Addr} {H : Hp} {v : V} {a : TapeV} {B : List Addr} (h : rTape.rel K M H v a B) : ∃ p dx w, v = .ref p ∧ SlX.Slt H p (tapeC K) dx [some (.int a.1), some w] ∧ rFiles.rel K M H w a.2 [] := by
  obtain ⟨p, dx, ev, ne, ⟨w, h1, h2, h3⟩, eB⟩ := h
  exact ⟨p, dx, w, ev, .inr ⟨h1, h2⟩, h3⟩
section
variable {X : Cx} {S : Type} {F : FC X.K S} {U : Type} {e : Expr} {te : TE} {G G' : S → List Slot} {m : SM S U} {arg : U → Arg} {tx : U → TapeV} {pos : Pos}
theorem ex_extent (tc : TapeCls X.K) (h : EO X F e te G G' arg m) (hx : ∀ a s, Rdd (G' s) (arg a) rTape (tx a)) (hb : attributeBase e "extent" X.env (eval e X.env) = eval e X.env := by rfl) :
    EX X F (.Attribute e "extent" pos) (SlX.tSl X.K te "extent") G G' rInt (bnd m fun a => ret (tx a).1) :=
  ⟨SlX.pe_sl h.pe hb, fun T t σ s H Q h0 q => h.go T t σ s H _ h0 (wp_mono (wp_bnd q) (fun a s1 q1 ts v H1 at1 av => by
    obtain ⟨A1, A2, at1⟩ := at1
    obtain ⟨v', B, e1, k⟩ := rddM (j := 0) at1 av rfl (hx a s1)
    cases e1
    obtain ⟨p, dx, w, ev, hs, _⟩ := tape_slt k
    exact ⟨p, _, dx, _, _, 0, .int (tx a).1, ev, hs, tc.sc, tc.s0, rfl, q1 _ H1 (at1.fin av ⟨rfl, rfl⟩)⟩) fun _ _ z => z)⟩
theorem ex_kept (tc : TapeCls X.K) (h : EO X F e te G G' arg m) (hx : ∀ a s, Rdd (G' s) (arg a) rTape (tx a)) (hb : attributeBase e "kept" X.env (eval e X.env) = eval e X.env := by rfl) :
    EX X F (.Attribute e "kept" pos) (SlX.tSl X.K te "kept") G G' rFiles (bnd m fun a => ret (tx a).2) :=
  ⟨SlX.pe_sl h.pe hb, fun T t σ s H Q h0 q => h.go T t σ s H _ h0 (wp_mono (wp_bnd q) (fun a s1 q1 ts v H1 at1 av => by
    obtain ⟨A1, A2, at1⟩ := at1
    obtain ⟨v', B, e1, k⟩ := rddM (j := 0) at1 av rfl (hx a s1)
    cases e1
    obtain ⟨p, dx, w, ev, hs, hf⟩ := tape_slt k
    exact ⟨p, _, dx, _, _, 1, w, ev, hs, tc.sc, tc.s1, rfl, q1 _ H1 (at1.fin av hf)⟩) fun _ _ z => z)⟩
end
end Td

set_option Elab.async false
set_option linter.all false
set_option maxRecDepth 100000
set_option maxHeartbeats 4000000
namespace Td
open PySem PySem.Spec PyProof.Rows L2 SlX

section
variable {X : Cx} {CX : CXT} {g : Addr} {k : Nat} {sp : Sp} {E : XK} {C : Addr}
/-- len(x) by the class's def -/
def rLenOwn (C : Addr) (sp : Sp) (E : XK) : List V → Hp → VK → Prop := fun xs H Q => ∃ a dx vs, xs = [V.ref a] ∧ Slt H a C dx vs ∧ sp [.ref a] H (fun z H' => ∃ n : Int, z = .int n ∧ (0 ≤ n ∧ n < 2 ^ 63) ∧ Q (.int n) H') E
theorem call_lenOwn (hs : PySem.W.findIn X.K (.ref C) "__len__" = some (some (.ref g))) (hf : PySem.W.isFn X.K (.ref g) = true) (FO : FnR X.prog X.w X.K X.mg X.base CX k g sp) (hr : Room (k + 1) X.A) (hx : Passes CX X E) : CallR X (.builtin "len") (rLenOwn C sp E) := by
  intro pins s σ H xs us Q I r h
  obtain ⟨a, dx, vs, exs, hsl, q⟩ := h
  subst exs
  obtain ⟨u, eu, ru⟩ := Vals.one r
  subst eu
  cases (show u = Value.ref a from ru)
  obtain ⟨sl, od, _, J, _⟩ := slt_inst I hsl
  obtain ⟨m, fr⟩ := I.fr
  refine PySem.W.len_K fr I.mod.kin J hs hf (wpAny_mono (wpAny_call (run_at (us := [.ref a]) (ws := [.ref a]) FO hr.in1 I.env0.in1 hx I (.cons rfl .nil) q)) (fun z s' hz => ?_) fun _ _ y => y)
  obtain ⟨zv, H', I', rz, n, ez, hn, qz⟩ := hz
  subst ez
  obtain ⟨tk, et⟩ := (show ∃ t, z = Value.int n t from rz)
  subst et
  exact ⟨hn, ⟨.int n, H', I'.tok _, ⟨_, rfl⟩, qz⟩⟩
/-- x[i] by the class's def -/
def rIxOwn (C : Addr) (sp : Sp) (E : XK) : R2 := fun x y H Q => ∃ a dx vs, x = V.ref a ∧ Slt H a C dx vs ∧ sp [x, y] H Q E
theorem pe_ixOwn {a b : Expr} {ta tb : TE} {pos : Pos} (hs : PySem.W.findIn X.K (.ref C) "__getitem__" = some (some (.ref g))) (hf : PySem.W.isFn X.K (.ref g) = true) (hfn : PySem.W.fnIn X.K g = true) (FO : FnR X.prog X.w X.K X.mg X.base CX k g sp) (hr : Room (k + 1) X.A) (hx : Passes CX X E) (ha : PE X a ta) (hb : PE X b tb)
    (hsl : ∀ o i, subscripted b true o i = runValue (.builtin "lifetime.subscript" ⟨[o, i], []⟩)) : PE X (.Subscript a b pos) (tOp (rIxOwn C sp E) ta tb) := by
  refine ⟨fun pins s σ H Q I h => Subscript_ (binT ha hb I h fun v u s2 x y H2 I2 rx ry q => ?_)⟩
  obtain ⟨p, dx, vs, ex, hsl2, q⟩ := q
  subst ex
  cases (show v = Value.ref p from rx)
  obtain ⟨sl, od, _, J, _⟩ := slt_inst I2 hsl2
  obtain ⟨m, fr⟩ := I2.fr
  exact PySem.W.sub_K fr I2.mod.kin J hs hfn hf (wpAny_mono (wpAny_call (run_at (us := [.ref p, u]) (ws := [.ref p, y]) FO hr.in1 I2.env0.in1 hx I2 (.cons rfl (.cons ry .nil)) q)) (fun z s' hz => hz) fun _ _ y => y) (hsl _ _)
end
/-! ### a tape used -/
structure Mth (K : PySem.W.Frag) (m : Str) : Prop where
  at_ : PySem.W.findIn K (.ref (tapeC K)) m = some (some (.ref (He.ma K (tapeC K) m)))
  fn : PySem.W.isFn K (.ref (He.ma K (tapeC K) m)) = true
theorem fnIn_of {K : PySem.W.Frag} {f : Addr} {x qual : Str} {params : Arguments} {body : List Stmt} {scope : Scope} {dvs : List V} {kws : List (Str × V)} {fd : FuncData} (F : FunD K x qual params body scope dvs kws f fd) : PySem.W.fnIn K f = true := by
  obtain ⟨oc, od, dV, kV, doc, pm, an, cdv, ct, osl, e, lk, _⟩ := F.ex
  unfold PySem.W.fnIn
  rw [lk]
section
variable {X : Cx} {S : Type} {F : FC X.K S} {U W : Type} {e a b : Expr} {te ta tb : TE} {G G1 G' : S → List Slot} {m m1 : SM S U} {arg : U → Arg} {tx : U → TapeV} {pos p0 : Pos} {r : Rp W} {f : TapeV → SM Unit W} {k : Nat} {g p : Addr} {fd : FuncData} {nm : Str} {ps : List Str}
theorem rtape_s {G : List Slot} {arg : Arg} {a : TapeV} (h : RdS G arg rTape a) : EntS G [arg] [.is (sh rTape) a] := .sh h .nil
/-- tape.f, a property -/
theorem ex_prop {pn : Str} {fm : U → SM Unit W} (tc : TapeCls X.K) (pr : Prp X.K (tapeC X.K) pn) (FO : FnOk X.prog X.w X.K X.mg X.base (L2.CX X.prog X.w) k (pgA X.K (tapeC X.K) pn) fd ps (SpP X.K 1 (fun u : TapeV => [.is (sh rTape) u]) r f)) (hb : Binds X.K fd ps []) (hr : Room (k + 1) X.A)
    (h : EO X F e te G G' arg m) (hx : ∀ a s, RdS (G' s) (arg a) rTape (tx a)) (hf : ∀ a, fm a = f (tx a) := by intro _; rfl) (hba : attributeBase e pn X.env (eval e X.env) = eval e X.env := by rfl) :
    EX X F (.Attribute e pn pos) (tPropSl (tapeC X.K) (SpP X.K 1 (fun u : TapeV => [.is (sh rTape) u]) r f) (fun _ _ _ => False) te) G G' r (bnd m fun a => nxc (lft (fm a))) :=
  ⟨pe_propSl h.pe tc.sc pr.at_ pr.get pr.tk pr.rc ((FnOk.raw FO hb .nil).imp fun vs H Q E q => by rw [List.append_nil]; exact q) hr (fun H s e s' z => by obtain ⟨_, _, _, _, _, _, _, _, _, _, _, _, w⟩ := z; exact w) hba, fun T t σ s H Q h0 q => h.go T t σ s H _ h0 (wp_mono (wp_bnd q) (fun a s1 q1 ts v H1 at1 av => by
    obtain ⟨A1, A2, at1⟩ := at1
    obtain ⟨v', e1, _, B, k1, _⟩ := rdS (j := 0) at1 av rfl (hx a s1)
    cases e1
    obtain ⟨p, dx, w, ev, hs, _⟩ := tape_slt k1
    subst ev
    rw [hf a] at q1
    exact ⟨p, dx, _, rfl, hs, run_sp at1 av rfl (rtape_s (hx a s1)) (wp_mono (wp_lft (wp_nxc (E' := fun _ _ => False) q1)) (fun b _ q2 v H' z => q2 v H' z) fun _ _ z => z)⟩) fun _ _ z => z)⟩
/-- len(tape) -/
theorem ex_tlen {fm : U → SM Unit Int} {f : TapeV → SM Unit Int} (mt : Mth X.K "__len__") (FO : FnOk X.prog X.w X.K X.mg X.base (L2.CX X.prog X.w) k (He.ma X.K (tapeC X.K) "__len__") fd ps (SpP X.K 1 (fun u : TapeV => [.is (sh rTape) u]) rInt f)) (hb : Binds X.K fd ps []) (hr : Room (k + 1) X.A)
    (h : EO X F e te G G' arg m) (hx : ∀ a s, RdS (G' s) (arg a) rTape (tx a)) (hg : Gl X "len") (hm : X.mg "len" = none) (hf : ∀ a, fm a = f (tx a) := by intro _; rfl) (hs : PySem.W.isStarred e = false := by rfl) :
    EX X F (.Call (.Name "len" p0) [e] [] pos) (tCB (rLenOwn (tapeC X.K) (SpP X.K 1 (fun u : TapeV => [.is (sh rTape) u]) rInt f) (fun _ _ _ => False)) (tCons te tNil)) G G' rInt (bnd m fun a => bnd (nxc (lft (fm a))) fun n => bnd (grd (0 ≤ n ∧ n < 2 ^ 63)) fun _ => ret n) :=
  ⟨pe_callB (call_lenOwn mt.at_ mt.fn ((FnOk.raw FO hb .nil).imp fun vs H Q E q => by rw [List.append_nil]; exact q) hr (passes_nx rfl)) hg hm PySem.boot_len (pa_cons h.pe pa_nil (star1 hs)) (he := star1 hs), fun T t σ s H Q h0 q => h.go T t σ s H _ h0 (wp_mono (wp_bnd q) (fun a s1 q1 ts v H1 at1 av => by
    obtain ⟨A1, A2, at1⟩ := at1
    obtain ⟨v', e1, _, B, k1, _⟩ := rdS (j := 0) at1 av rfl (hx a s1)
    cases e1
    obtain ⟨p, dx, w, ev, hs, _⟩ := tape_slt k1
    subst ev
    rw [hf a] at q1
    refine ⟨p, dx, _, rfl, hs, run_sp at1 av rfl (rtape_s (hx a s1)) (wp_mono (wp_lft (wp_nxc (E' := fun _ _ => False) (wp_bnd q1))) (fun n _ q2 v H' z => ?_) fun _ _ z => z)⟩
    obtain ⟨hn, q3⟩ := wp_grd (wp_bnd q2)
    obtain ⟨_, _, ek, _⟩ := top_rel z
    subst ek
    exact ⟨n, rfl, hn, q3 _ H' z⟩) fun _ _ z => z)⟩
/-- tape[i] -/
theorem ex_tix {mi : SM S Int} {fm : U → Int → SM Unit W} {f : TapeV × Int → SM Unit W} (mt : Mth X.K "__getitem__") (hfn : PySem.W.fnIn X.K (He.ma X.K (tapeC X.K) "__getitem__") = true) (FO : FnOk X.prog X.w X.K X.mg X.base (L2.CX X.prog X.w) k (He.ma X.K (tapeC X.K) "__getitem__") fd ps (SpP X.K 2 (fun u : TapeV × Int => [.is (sh rTape) u.1, .is rInt u.2]) r f)) (hb : Binds X.K fd ps []) (hr : Room (k + 1) X.A)
    (h1 : EO X F a ta G G1 arg m) (h2 : EX X F b tb G1 G' rInt mi) (hx : ∀ a s, RdS (G' s) (arg a) rTape (tx a)) (hf : ∀ a i, fm a i = f (tx a, i) := by intros; rfl) (hsl : ∀ o i, subscripted b true o i = runValue (.builtin "lifetime.subscript" ⟨[o, i], []⟩) := by intros; rfl) :
    EX X F (.Subscript a b pos) (tOp (rIxOwn (tapeC X.K) (SpP X.K 2 (fun u : TapeV × Int => [.is (sh rTape) u.1, .is rInt u.2]) r f) (fun _ _ _ => False)) ta tb) G G' r (bnd m fun a => bnd mi fun i => nxc (lft (fm a i))) :=
  ⟨pe_ixOwn mt.at_ mt.fn hfn ((FnOk.raw FO hb .nil).imp fun vs H Q E q => by rw [List.append_nil]; exact q) hr (passes_nx rfl) h1.pe h2.pe hsl, fun T t σ s H Q h0 q => by
    refine h1.go T t σ s H _ h0 (wp_mono (wp_bnd q) (fun a s1 q1 ts x H1 at1 av1 => ?_) fun _ _ z => z)
    refine h2.go _ _ σ s1 H1 _ at1 (wp_mono (wp_bnd q1) (fun i s2 q2 y H2 at2 => ?_) fun _ _ z => z)
    obtain ⟨A1, A2, at2⟩ := at2
    have at3 : AtP F ((tmps [arg a, .t (.is rInt i)]).reverse ++ T) ((ts ++ [y]).reverse ++ t) (G' s2) σ H2 A1 A2 := by
      rw [tmps_cons]
      simpa [tmps] using at2
    have av2 : ArgV σ [arg a, .t (.is rInt i)] (ts ++ [y]) [x, y] := argV_cons av1 (.t .nil)
    obtain ⟨v', e1, _, B, k1, _⟩ := rdS (j := 0) at3 av2 rfl (hx a s2)
    cases e1
    obtain ⟨p, dx, w, ev, hs, _⟩ := tape_slt k1
    subst ev
    rw [hf a i] at q2
    exact ⟨p, dx, _, rfl, hs, run_sp at3 av2 rfl (.sh (hx a s2) (.cp cp_int (.tc cp_int) .nil)) (wp_mono (wp_lft (wp_nxc (E' := fun _ _ => False) q2)) (fun b _ q2 v H' z => q2 v H' z) fun _ _ z => z)⟩⟩
end
end Td

set_option Elab.async false
set_option linter.all false
set_option maxRecDepth 100000
set_option maxHeartbeats 4000000
namespace Td
open PySem PySem.Spec PyProof.Rows L2 SlX

section
variable {K : PySem.W.Frag} {S : Type} {F : FC K S} {T : List Slot} {t : List V} {G : List Slot} {σ : L2.St} {H : Hp}
/-- the arguments used up, a new tuple of things that own nothing comes -/
theorem AtP.newT {L : List Arg} {ts vs : List V} {A1 A2 : List Addr} (h : AtP F ((tmps L).reverse ++ T) (ts.reverse ++ t) G σ H A1 A2) (av : ArgV σ L ts vs) {U : Type} {r : Rp U} {as : List U} {ws : List V} (hr : All3 (r.rel K (A1 ++ A2 ++ F.M0) H) ws as []) {p : Addr} (hp : H p = none) :
    At F (.is (rTupL r) as :: T) (.ref p :: t) G σ (upd H p (.tup ws)) := by
  have k : ∀ x o, H x = some o → upd H p (.tup ws) x = some o := fun x o e => by rw [upd_ne (ne_of_none e hp)]; exact e
  have at2 : AtP F ((tmps L).reverse ++ T) (ts.reverse ++ t) G σ (upd H p (.tup ws)) A1 A2 := by
    refine ⟨h.tmp.keep fun x o e _ => k x o e, h.loc.keep fun x o e _ => k x o e, ⟨h.good.nd, h.good.out, h.good.new, fun x hx => ?_, fun x o e z => k x o (h.good.stay x o e z), h.good.m0⟩⟩
    obtain ⟨o, e, z⟩ := h.good.has x hx
    exact ⟨o, k x o e, z⟩
  exact at2.fin av (r := rTupL r) ⟨p, ws, rfl, SqT.of upd_same, hr.imp fun v a B _ h => r.keep h fun x o e _ => k x o e⟩
end
section
variable {X : Cx} {S : Type} {F : FC X.K S} {U Z : Type} {r3 : Rp Z} {e : Expr} {te : TE} {G G' : S → List Slot} {m : SM S U} {arg : U → Arg} {pos p0 : Pos}
/-- tuple(xs) of a list -/
theorem ex_tuple {xs : U → List Z} (h : EO X F e te G G' arg m) (c : r3.Cp) (hx : ∀ a s, Rdd (G' s) (arg a) (rList r3) (xs a)) (hg : Gl X "tuple") (hm : X.mg "tuple" = none) (hs : PySem.W.isStarred e = false := by rfl) :
    EX X F (.Call (.Name "tuple" p0) [e] [] pos) (tCB (fun xs H Q => ∃ p ys, xs = [.ref p] ∧ ((SqL X.K H p ys ∧ ∀ l, H l = none → Q (.ref l) (upd H l (.tup ys))) ∨ (SqT X.K H p ys ∧ Q (.ref p) H))) (tCons te tNil)) G G' (rTupL r3) (bnd m fun a => ret (xs a)) :=
  ⟨pe_callTy call_tuple_of hg hm (by decide) (pa_cons h.pe pa_nil (star1 hs)) (he := star1 hs), go_call1 h.go (fun _ => stl_ret _) fun a s T t ts v σ H Q A1 A2 at1 av q => by
    obtain ⟨v', B, e1, p, vs, A, ev, hp, hA, eB⟩ := rddM (j := 0) at1 av rfl (hx a s)
    cases e1
    obtain ⟨_, q⟩ := q
    have eA := cp_all c hA
    subst eA
    exact ⟨p, vs, by rw [ev], .inl ⟨SqL.of hp, fun l hl => q _ _ (at1.newT av hA hl)⟩⟩⟩
end
/-! ### a tape made -/
def setExt (n : Int) : SM TS0 Unit := fun s => match s with
  | .new => .ok () (.half n)
  | _ => .stuck
def setKept (fs : List (Int × Int)) : SM TS0 Unit := fun s => match s with
  | .half n => .ok () (.full (n, fs))
  | _ => .stuck
section
variable {X : Cx} {F : FC X.K TS0} {N L R : Type} {G G1 : TS0 → List Slot} {GN : N → TS0 → List Slot} {GL : L → TS0 → List Slot} {r : Rp R} {pos p0 p1 : Pos} {rest : List Stmt} {tr : TS} {e : Expr} {te : TE} {x : Str} {w : V}
theorem bx_ext {me : SM TS0 Int} {out : SM TS0 (Fl N L R)} (tc : TapeCls X.K) (h : EX X F e te G G1 rInt me) (hG : ∀ s, (G1 s)[0]? = some (.pn w rSelf s)) (hset : ∀ s s', (G1 s).set 0 (.pn w rSelf s') = G1 s') (hb : BX X F rest tr G1 GN GL r out)
    (hN : X.N[0]? = some x := by rfl) (hv : Vis X.env.scope x := by first | exact Or.inl rfl | exact Or.inr (Or.inl rfl) | exact Or.inr (Or.inr rfl)) (hd : (x == ("__debug__" : Str)) = false := by decide) (hcd : (x == ("__classdict__" : Str)) = false := by decide)
    (hs : swapsWith e (some (.Attribute (.Name x p0) "extent" p1)) pos.line X.env = pure false := by rfl) :
    BX X F (.Assign [.Attribute (.Name x p0) "extent" p1] e pos :: rest) (tSeq (sSl X.K (tVar 0) te "extent") tr) G GN GL r (bnd me fun v => bnd (setExt v) fun _ => out) :=
  ⟨pss_cons (ps_sl (pe_var hN hv hd hcd) h.pe hs) hb.ps, fun T t σ s H D h0 q => by
    refine h.go T t σ s H _ h0 (wp_mono (wp_bnd q) (fun n s1 q1 v H1 at1 => ?_) fun e s z => z σ)
    obtain ⟨_, _, ek, _⟩ := top_rel at1
    subst ek
    have q2 := wp_bnd q1
    cases s1 with
    | half _ => exact q2.elim
    | full _ => exact q2.elim
    | new =>
      obtain ⟨A1, A2, at2⟩ := at1.pop
      obtain ⟨y, B, P1, P2, ey, hok, eA, back⟩ := at2.loc.at_ (hG .new)
      obtain ⟨ex, p, dx, ev, ne, ⟨h1, h2⟩, eB⟩ := hok
      subst ex ev eB
      refine ⟨.ref p, ey, p, tapeC X.K, dx, _, [], 0, rfl, .inl ⟨h1, rfl⟩, tc.sc, tc.s0, ?_⟩
      have z := at2.chg (g' := .pn (.ref p) rSelf (.half n)) (H' := slH H1 p (tapeC X.K) dx (putS 0 (.int n) [])) eA ey back (fun q hq => ?_) (fun q hq => ?_) (fun q hq => ?_) ?_
      · rw [hset] at z
        exact hb.go T t σ _ _ D z q2
      · simp only [List.mem_cons, List.not_mem_nil, or_false] at hq
        rcases hq with e | e
        · subst e; exact ⟨_, h1, rfl⟩
        · subst e; exact ⟨_, h2, rfl⟩
      · simp only [List.mem_cons, List.not_mem_nil, or_false, not_or] at hq
        exact slH_ne hq.1 hq.2
      · simp only [List.mem_cons, List.not_mem_nil, or_false] at hq
        rcases hq with e | e
        · subst e; exact ⟨_, upd_same, rfl⟩
        · subst e; exact ⟨.xd [], by unfold slH; rw [upd_ne (Ne.symm ne), upd_same], rfl⟩
      · exact ⟨rfl, p, dx, rfl, ne, ⟨upd_same, by unfold slH; rw [upd_ne (Ne.symm ne), upd_same]⟩, rfl⟩⟩
theorem bx_kept {me : SM TS0 (List (Int × Int))} {out : SM TS0 (Fl N L R)} (tc : TapeCls X.K) (h : EX X F e te G G1 rFiles me) (hG : ∀ s, (G1 s)[0]? = some (.pn w rSelf s)) (hset : ∀ s s', (G1 s).set 0 (.pn w rSelf s') = G1 s') (hb : BX X F rest tr G1 GN GL r out)
    (hN : X.N[0]? = some x := by rfl) (hv : Vis X.env.scope x := by first | exact Or.inl rfl | exact Or.inr (Or.inl rfl) | exact Or.inr (Or.inr rfl)) (hd : (x == ("__debug__" : Str)) = false := by decide) (hcd : (x == ("__classdict__" : Str)) = false := by decide)
    (hs : swapsWith e (some (.Attribute (.Name x p0) "kept" p1)) pos.line X.env = pure false := by rfl) :
    BX X F (.Assign [.Attribute (.Name x p0) "kept" p1] e pos :: rest) (tSeq (sSl X.K (tVar 0) te "kept") tr) G GN GL r (bnd me fun v => bnd (setKept v) fun _ => out) :=
  ⟨pss_cons (ps_sl (pe_var hN hv hd hcd) h.pe hs) hb.ps, fun T t σ s H D h0 q => by
    refine h.go T t σ s H _ h0 (wp_mono (wp_bnd q) (fun fs s1 q1 v H1 at1 => ?_) fun e s z => z σ)
    have q2 := wp_bnd q1
    cases s1 with
    | new => exact q2.elim
    | full _ => exact q2.elim
    | half n =>
      obtain ⟨A0, A2', at0⟩ := id at1
      obtain ⟨B0, A', eA0, ⟨v', ev', hf⟩, ht⟩ := AtS.cons_inv at0.tmp
      cases ev'
      have eB0 := cp_files hf
      subst eB0
      have hf2 : ∀ M, rFiles.rel X.K M H1 v fs [] := fun M => clo_files hf
      obtain ⟨A1, A2, at2⟩ := at1.pop
      obtain ⟨y, B, P1, P2, ey, hok, eA, back⟩ := at2.loc.at_ (hG (.half n))
      obtain ⟨ex, p, dx, ev, ne, ⟨h1, h2⟩, eB⟩ := hok
      subst ex ev eB
      have hout : ∀ q, q ∉ [p, dx] → slH H1 p (tapeC X.K) dx (putS 1 v [some (.int n)]) q = H1 q := fun q hq => by
        simp only [List.mem_cons, List.not_mem_nil, or_false, not_or] at hq
        exact slH_ne hq.1 hq.2
      refine ⟨.ref p, ey, p, tapeC X.K, dx, _, [some (.int n)], 1, rfl, .inr ⟨h1, h2⟩, tc.sc, tc.s1, ?_⟩
      have z := at2.chg (g' := .pn (.ref p) rSelf (.full (n, fs))) (H' := slH H1 p (tapeC X.K) dx (putS 1 v [some (.int n)])) eA ey back (fun q hq => ?_) hout (fun q hq => ?_) ?_
      · rw [hset] at z
        exact hb.go T t σ _ _ D z q2
      · simp only [List.mem_cons, List.not_mem_nil, or_false] at hq
        rcases hq with e | e
        · subst e; exact ⟨_, h1, rfl⟩
        · subst e; exact ⟨_, h2, rfl⟩
      · simp only [List.mem_cons, List.not_mem_nil, or_false] at hq
        rcases hq with e | e
        · subst e; exact ⟨_, upd_same, rfl⟩
        · subst e; exact ⟨.xd [], by unfold slH; rw [upd_ne (Ne.symm ne), upd_same], rfl⟩
      · refine ⟨rfl, p, dx, rfl, ne, ⟨v, upd_same, by unfold slH; rw [upd_ne (Ne.symm ne), upd_same], ?_⟩, rfl⟩
        refine rFiles.keep (hf2 _) fun q o e hq => ?_
        rw [hout q fun z => ?_]
        · exact e
        · rcases hq with hq | hq | hq
          · exact hq (by rw [eA]; simp only [List.mem_append]; grind)
          · cases hq
          · simp only [List.mem_cons, List.not_mem_nil, or_false] at z
            rcases z with z | z
            · subst z; rw [h1] at e; cases e; cases hq
            · subst z; rw [h2] at e; cases e; cases hq⟩
end
end Td

set_option Elab.async false
set_option linter.all false
set_option maxRecDepth 100000
set_option maxHeartbeats 4000000
namespace Td
open PySem PySem.Spec PyProof.Rows L2 SlX StX

section
variable {P : Program} {w : World} {K : PySem.W.Frag} {mg : Str → Option Value} {base : Heap} {x qual : Str} {params : Arguments} {body : List Stmt} {scope : Scope} {f : Addr} {fd : FuncData} {N ps : List Str} {k : Nat}
/-- a def whose first argument is in/out and which comes to its end -/
theorem fn_ioP {S U : Type} {rio : Rp S} {Pr : U → List Slot} {fm : U → SM S Unit} (FD : FunD K x qual params body scope [] [] f fd) (Sc : FnScope N ps scope) (out : U → SM S (Fl Unit Empty Unit)) (hfm : ∀ u, fm u = runP (out u))
    (hbody : ∀ (u : U) (v0 : V) (cdv : Value) (A : Around) (outer : List Env) (s : Shared) (H : Hp) (E : XK), Room k (A.deeper (envOfC qual scope s.heap.objs.size f cdv)) →
      ∀ F : FC K S, F.io = (fun s => .pn v0 rio s :: uns (N.length - 1)) → F.W = (fun c d _ H' => E c d H') → ∃ t, BX (cxOf (L2.CX P w) P w K mg base N qual scope f cdv A outer s H E) F body t (fun s => .pn v0 rio s :: (Pr u ++ uns (N.length - ps.length))) (fun (_ : Unit) s => .pn v0 rio s :: uns (N.length - 1)) (fun (e : Empty) _ => e.elim) rNon (out u)) :
    FnOk P w K mg base (L2.CX P w) (k + 1) f fd ps (SpI K ps.length rio Pr rNon fm) := by
  refine FD.ok Sc (fun vs H Q E h => ?_) (fun cdv A outer s H vs Q E hr h => ?_)
  · obtain ⟨u, _, _, _, h, _⟩ := h
    exact h
  · obtain ⟨u, s0, I, M0, hl, at0, q⟩ := h
    obtain ⟨t, hB⟩ := hbody u (vs.headD .non) cdv A outer s H E hr ⟨H, I, M0, fun s => .pn (vs.headD .non) rio s :: uns (N.length - 1), fun c d _ H' => E c d H'⟩ rfl rfl
    refine ⟨t, hB.ps, hB.go [] [] (start N vs) s0 H _ ?_ ?_⟩
    · have z := at_start (N := N) at0
      rw [hl] at z
      exact z.re rfl rfl rfl
    · rw [hfm u] at q
      refine wp_mono (wp_bnd q) (fun fl s1 q1 => ?_) (fun e s1 q1 σ d H' h1 => q1 d H' ((at_exitIo h1).re rfl rfl rfl))
      cases fl with
      | nx n => exact fun σ' H' h1 => q1 .non H' ((at_exitIo (h1.push (r := rNon) (a := ()) (v := V.non) fun _ => ⟨rfl, rfl⟩)).re rfl rfl rfl)
      | bk n => exact n.elim
      | ct n => exact n.elim
      | rt b => exact fun v σ' H' h1 => q1 v H' ((at_exitIo h1).re rfl rfl rfl)
end
/-! ### a new tape -/
def tapeM {S : Type} : TS0 → SM S TapeV
  | .full a => ret a
  | _ => stk
section
variable {K : PySem.W.Frag} {S : Type} {F : FC K S} {T : List Slot} {t : List V} {G : List Slot} {σ : L2.St} {H : Hp}
theorem AtP.alloc {A1 A2 : List Addr} (h : AtP F T t G σ H A1 A2) {x dx : Addr} (hx : H x = none) (hd : H dx = none) (ne : dx ≠ x) :
    AtP F T t (.is rSelf .new :: G) (some (.ref x) :: σ) (upd (upd H dx (.own x)) x (.ins (tapeC K) dx [])) A1 ([x, dx] ++ A2) ∧ AtS K (A1 ++ ([x, dx] ++ A2) ++ F.M0) (upd (upd H dx (.own x)) x (.ins (tapeC K) dx [])) G σ A2 ∧ rSelf.rel K (A1 ++ ([x, dx] ++ A2) ++ F.M0) (upd (upd H dx (.own x)) x (.ins (tapeC K) dx [])) (.ref x) .new [x, dx] ∧
      (∀ p o, H p = some o → upd (upd H dx (.own x)) x (.ins (tapeC K) dx []) p = some o) ∧ ∀ p, p ∈ A1 ++ ([x, dx] ++ A2) ++ F.M0 → p ∈ A1 ++ A2 ++ F.M0 ∨ H p = none := by
  have k : ∀ p o, H p = some o → upd (upd H dx (.own x)) x (.ins (tapeC K) dx []) p = some o := fun p o e => by
    rw [upd_ne (ne_of_none e hx), upd_ne (ne_of_none e hd)]; exact e
  have hM : ∀ p, p ∈ A1 ++ ([x, dx] ++ A2) ++ F.M0 → p ∈ A1 ++ A2 ++ F.M0 ∨ H p = none := fun p hp => by
    by_cases e1 : p = x
    · subst e1; exact .inr hx
    · by_cases e2 : p = dx
      · subst e2; exact .inr hd
      · left
        simp only [List.mem_append, List.mem_cons, List.not_mem_nil, or_false] at *
        grind
  have rel : ∀ M, rSelf.rel K M (upd (upd H dx (.own x)) x (.ins (tapeC K) dx [])) (.ref x) .new [x, dx] := fun M => ⟨x, dx, rfl, Ne.symm ne, ⟨upd_same, by rw [upd_ne ne, upd_same]⟩, rfl⟩
  have loc := (h.loc.grow hM).keep fun p o e _ => k p o e
  have nA : ∀ p, H p = none → p ∉ A1 ++ A2 ++ F.M0 := fun p e z => by
    obtain ⟨o, q, _⟩ := h.m_trk p z
    rw [e] at q; cases q
  have nx := nA x hx
  have ndx := nA dx hd
  refine ⟨⟨(h.tmp.grow hM).keep fun p o e _ => k p o e, .cons ⟨_, rfl, rel _⟩ loc, ⟨?_, fun p hp => ?_, fun p hp => ?_, fun p hp => ?_, fun p o e z => k p o (h.good.stay p o e z), h.good.m0⟩⟩, loc, rel _, k, hM⟩
  · have := h.good.nd
    simp only [List.nodup_append, List.mem_append, List.mem_cons, List.not_mem_nil, or_false, List.nodup_cons, List.nodup_nil] at *
    grind
  · have := h.good.out p
    simp only [List.mem_append, List.mem_cons, List.not_mem_nil, or_false] at *
    grind
  · by_cases e1 : p = x
    · subst e1; exact .inl (h.good.fresh hx).1
    · by_cases e2 : p = dx
      · subst e2; exact .inl (h.good.fresh hd).1
      · exact h.good.new p (by simp only [List.mem_append, List.mem_cons, List.not_mem_nil, or_false] at *; grind)
  · obtain ⟨o, e, z⟩ := h.good.has p hp
    exact ⟨o, k p o e, z⟩
theorem go_make {U A : Type} {n : Nat} {Pr : U → List Slot} {f : U → SM TS0 Unit} {fm : A → SM TS0 Unit} {E : XK} {ta : TA} {G G' : S → List Slot} {LA : A → List Arg} {mA : SM S A} (u : A → U) (hf : ∀ a, fm a = f (u a)) (h : GA F ta G G' LA mA) (hn : ∀ a, (LA a).length + 1 = n)
    (he : ∀ a s, EntS (G' s) (LA a) (Pr (u a))) (hW : ∀ c d σ H, F.W c d σ H → E c d H) (hw : ∀ s, Weak (G' s) (F.io s)) :
    GE F (tMakeR (tapeC K) (SpI K n rSelf Pr rNon f) E ta) G G' (sh rTape) (bnd mA fun a => bnd (subM (fm a) TS0.new) fun p => tapeM p.2) := by
  intro T t σ s H Q h0 q
  have ef : fm = fun a => f (u a) := funext hf
  subst ef
  refine h T t σ s H _ h0 (wp_mono (wp_bnd q) (fun a s1 q1 ts vs H1 at1 av => ?_) fun _ _ z => z)
  have q2 := wp_subM (wp_bnd q1)
  obtain ⟨A1, A2, at1⟩ := at1
  intro x dx hx hd ne
  have hent := entS_at at1 av (he a s1)
  obtain ⟨at2, tail, rel, k, hM⟩ := at1.alloc hx hd ne
  refine run_ioS clo_self rel tail at2 (argV_len av).2 (by rw [(argV_len av).1, hn]) ((hent.grow hM).keep fun p o e _ => k p o e) (wp_mono q2 (fun b s' q3 v H' hz => ?_) (fun e s' q3 d H' hz => ?_))
  · obtain ⟨_, _, hz0⟩ := id hz
    obtain ⟨_, _, _, _, ht0⟩ := AtS.cons_inv hz0.tmp
    obtain ⟨_, _, _, ⟨v', ev, eb, _⟩, _⟩ := AtS.cons_inv ht0
    cases ev
    subst eb
    refine ⟨rfl, ?_⟩
    cases s' with
    | new => exact q3.elim
    | half _ => exact q3.elim
    | full a =>
      have z1 : At F (.is rTape a :: .is rNon b :: T) (.ref x :: .non :: t) (G' s1) σ H' := by
        obtain ⟨C1, C2, hz⟩ := hz
        obtain ⟨B, A', eA, ⟨v', ev, hr⟩, ht⟩ := AtS.cons_inv hz.tmp
        subst eA
        exact ⟨_, C2, .cons ⟨v', ev, hr⟩ ht, hz.loc, hz.good⟩
      exact q3 _ H' (At.dropU (T1 := [_]) (t1 := [_]) rfl z1).freeze
  · refine hW _ _ σ _ (q3 d H' ?_)
    have z2 := hz.weak (hw s1)
    exact At.dropM (T0 := [_]) (t0 := [.ref d]) (T := []) (t := []) rfl (T1 := T) (t1 := t) (by obtain ⟨B1, B2, hz⟩ := h0; have := hz.tmp.length; simpa using this) (by simpa using z2)
end
section
variable {X : Cx} {S : Type} {F : FC X.K S} {U A : Type} {n k : Nat} {Pr : U → List Slot} {f : U → SM TS0 Unit} {fm : A → SM TS0 Unit} {E : XK} {ta : TA} {G G' : S → List Slot} {LA : A → List Arg} {mA : SM S A} {CX : CXT} {fA : Addr} {fd : FuncData} {ps : List Str} {x : Str} {p pos : Pos} {e : Expr} {es : List Expr}
theorem ex_make (u : A → U) (M : Mk X.K (tapeC X.K) fA) (FO : FnOk X.prog X.w X.K X.mg X.base CX k fA fd ps (SpI X.K n rSelf Pr rNon f)) (hr : Room (k + 1) X.A) (hg : Gl X x) (hm : X.mg x = some (.ref (tapeC X.K))) (hb : Binds X.K fd ps []) (hx : Passes CX X E)
    (h : EA X F (e :: es) ta G G' LA mA) (hn : ∀ a, (LA a).length + 1 = n) (he : ∀ a s, EntS (G' s) (LA a) (Pr (u a))) (hW : ∀ c d σ H, F.W c d σ H → E c d H) (hw : ∀ s, Weak (G' s) (F.io s)) (hf : ∀ a, fm a = f (u a) := by intro _; rfl)
    (hst : PySem.W.isStarred e = false := by rfl) (hpl : (backTo pos (starEach es X.env)).any (·.1) = false := by rfl) (hdb : (x == ("__debug__" : Str)) = false := by decide) :
    EX X F (.Call (.Name x p) (e :: es) [] pos) (tMakeR (tapeC X.K) (SpI X.K n rSelf Pr rNon f) E ta) G G' (sh rTape) (bnd mA fun a => bnd (subM (fm a) TS0.new) fun p => tapeM p.2) :=
  ⟨pe_makeR M ((FnOk.raw FO hb .nil).imp fun vs H Q E q => by rw [List.append_nil]; exact q) hr hg hm hx h.pa (hdb := hdb) (he := star1 hst) (hpl := hpl), go_make u hf h.go hn he hW hw⟩
end
end Td

set_option Elab.async false
set_option linter.all false
set_option maxRecDepth 100000
set_option maxHeartbeats 4000000
namespace Td
open PySem PySem.Spec PyProof.Rows L2 SlX StX

/-! ### defs that are called where no repr is under way -/
structure FnG (P : Program) (w : World) (K : PySem.W.Frag) (mg : Str → Option Value) (base : Heap) (k : Nat) (f : Addr) (fd : FuncData) (ps : List Str) (sp : Sp) : Prop where
  len : ∀ vs H Q E, sp vs H Q E → vs.length = ps.length
  run : ∀ (A : Around) (outer : List Env) (s : Shared) (H : Hp) (args : Args) (us : List Value) (vs : List V) (Q : VK) (E : XK), Room k A → A.guards = some [] → Env0 P w K mg base A outer s H → BindsTo s fd args (ps.zip us) → Vals vs us → sp vs H Q E →
    codeAny (model P w) A (.call (.ref f) args) (CR (L2.CX P w) outer P w H s Q E) s
section
variable {P : Program} {w : World} {K : PySem.W.Frag} {mg : Str → Option Value} {base : Heap} {x qual : Str} {params : Arguments} {body : List Stmt} {scope : Scope} {f : Addr} {fd : FuncData} {N ps : List Str} {k : Nat} {sp : Sp}
theorem FnG.of (FD : FunD K x qual params body scope [] [] f fd) (Sc : FnScope N ps scope) (len : ∀ vs H Q E, sp vs H Q E → vs.length = ps.length)
    (hbody : ∀ (cdv : Value) (A : Around) (outer : List Env) (s : Shared) (H : Hp) (vs : List V) (Q : VK) (E : XK), Room k (A.deeper (envOfC qual scope s.heap.objs.size f cdv)) → A.guards = some [] → sp vs H Q E →
      ∃ t, PSs (cxOf (L2.CX P w) P w K mg base N qual scope f cdv A outer s H E) body t ∧ t { nx := fun _ H' => Q .non H', rt := Q } (start N vs) H) : FnG P w K mg base (k + 1) f fd ps sp := by
  obtain ⟨oc, od, dV, kV, doc, pm, an, cdv, ct, osl, efd, lk, hcd, _, _⟩ := FD.ex
  subst efd
  refine ⟨len, fun A outer s H args us vs Q E hr hgd e0 hb r hsp => ?_⟩
  have kept : ∀ b o, base.get? b = some o → s.heap.get? b = some o := fun b o e => (e0.bs b o e).1
  have KX : K.In s.heap := e0.mod.kin.keeps kept
  have kinds : ∀ y ∈ ps.zip us, scope.names.lookup y.1 = some .local ∨ (scope.names.lookup y.1 = some .cell ∧ ((cellsFrom (s.heap.objs.size + 1) scope.names []).lookup y.1).isSome = true) := fun y hy =>
    (Sc.par y.1 (List.of_mem_zip (show (y.1, y.2) ∈ ps.zip us from hy)).1).imp id fun q => ⟨q, PySem.W.cellsFrom_some _ _ _ (.inl q)⟩
  refine codeAny_call_function hr.depth (KX _ _ lk) rfl Sc.co Sc.gen rfl (PySem.W.codeRec_of KX hcd) (hb _ _ _ _ ?_)
  refine wpAny_newFunctionEnv_cells Sc.kind kinds fun env he s1 x1 => ?_
  subst he
  refine ⟨(e0.mod.nolimit.keeps kept).keeps x1.toInCall.keep, codeAny_func ?_⟩
  obtain ⟨t, ht, hq⟩ := hbody cdv A outer s H vs Q E (hr.deeper _) hgd hsp
  refine wpAny_mono (ht.run [] s1 (start N vs) H _ (inv_start Sc hr.hd e0 (len _ _ _ _ hsp) r x1) hq) (fun fl s' hs => ?_) fun e s' hs => hs
  cases fl with
  | next =>
    obtain ⟨σ', H', J, q⟩ := hs
    exact ⟨V.non, H', J.os, J.bare, J.base, J.hok, rfl, q⟩
  | ret u =>
    obtain ⟨v, σ', H', J, rv, q⟩ := hs
    exact ⟨v, H', J.os, J.bare, J.base, J.hok, rv, q⟩
  | brk => obtain ⟨_, _, _, q⟩ := hs; exact q.elim
  | cont => obtain ⟨_, _, _, q⟩ := hs; exact q.elim
theorem fnG_pure {U W : Type} {Ps : U → List Slot} {r : Rp W} {fm : U → SM Unit W} (FD : FunD K x qual params body scope [] [] f fd) (Sc : FnScope N ps scope) (out : U → SM Unit (Fl Empty Empty W)) (hfm : ∀ u, fm u = runB (out u))
    (hbody : ∀ (u : U) (cdv : Value) (A : Around) (outer : List Env) (s : Shared) (H : Hp) (E : XK), Room k (A.deeper (envOfC qual scope s.heap.objs.size f cdv)) → A.guards = some [] →
      ∀ F : FC K Unit, F.io = (fun _ => uns N.length) → F.W = (fun c d _ H' => E c d H') → ∃ t, BX (cxOf (L2.CX P w) P w K mg base N qual scope f cdv A outer s H E) F body t (fun _ => Ps u ++ uns (N.length - ps.length)) (fun (e : Empty) _ => e.elim) (fun (e : Empty) _ => e.elim) r (out u)) :
    FnG P w K mg base (k + 1) f fd ps (SpP K ps.length Ps r fm) := by
  refine FnG.of FD Sc (fun vs H Q E h => ?_) (fun cdv A outer s H vs Q E hr hgd h => ?_)
  · obtain ⟨u, _, _, _, h, _⟩ := h
    exact h
  · obtain ⟨u, s0, I, M0, hl, at0, q⟩ := h
    obtain ⟨t, hB⟩ := hbody u cdv A outer s H E hr hgd ⟨H, I, M0, fun _ => uns N.length, fun c d _ H' => E c d H'⟩ rfl rfl
    refine ⟨t, hB.ps, hB.go [] [] (start N vs) s0 H _ ?_ ?_⟩
    · have z := at_start (N := N) at0
      rw [hl] at z
      exact z.re rfl rfl rfl
    · rw [hfm u] at q
      refine wp_mono (wp_bnd q) (fun fl s1 q1 => ?_) (fun e s1 q1 σ d H' h1 => q1 d H' ((at_exit h1).re rfl rfl rfl))
      cases fl with
      | nx n => exact n.elim
      | bk n => exact n.elim
      | ct n => exact n.elim
      | rt b => exact fun v σ' H' h1 => q1 v H' ((at_exit h1).re rfl rfl rfl)
theorem fnG_io {S U W : Type} {rio : Rp S} {Pr : U → List Slot} {r : Rp W} {fm : U → SM S W} (FD : FunD K x qual params body scope [] [] f fd) (Sc : FnScope N ps scope) (out : U → SM S (Fl Empty Empty W)) (hfm : ∀ u, fm u = runB (out u))
    (hbody : ∀ (u : U) (v0 : V) (cdv : Value) (A : Around) (outer : List Env) (s : Shared) (H : Hp) (E : XK), Room k (A.deeper (envOfC qual scope s.heap.objs.size f cdv)) → A.guards = some [] →
      ∀ F : FC K S, F.io = (fun s => .pn v0 rio s :: uns (N.length - 1)) → F.W = (fun c d _ H' => E c d H') → ∃ t, BX (cxOf (L2.CX P w) P w K mg base N qual scope f cdv A outer s H E) F body t (fun s => .pn v0 rio s :: (Pr u ++ uns (N.length - ps.length))) (fun (e : Empty) _ => e.elim) (fun (e : Empty) _ => e.elim) r (out u)) :
    FnG P w K mg base (k + 1) f fd ps (SpI K ps.length rio Pr r fm) := by
  refine FnG.of FD Sc (fun vs H Q E h => ?_) (fun cdv A outer s H vs Q E hr hgd h => ?_)
  · obtain ⟨u, _, _, _, h, _⟩ := h
    exact h
  · obtain ⟨u, s0, I, M0, hl, at0, q⟩ := h
    obtain ⟨t, hB⟩ := hbody u (vs.headD .non) cdv A outer s H E hr hgd ⟨H, I, M0, fun s => .pn (vs.headD .non) rio s :: uns (N.length - 1), fun c d _ H' => E c d H'⟩ rfl rfl
    refine ⟨t, hB.ps, hB.go [] [] (start N vs) s0 H _ ?_ ?_⟩
    · have z := at_start (N := N) at0
      rw [hl] at z
      exact z.re rfl rfl rfl
    · rw [hfm u] at q
      refine wp_mono (wp_bnd q) (fun fl s1 q1 => ?_) (fun e s1 q1 σ d H' h1 => q1 d H' ((at_exitIo h1).re rfl rfl rfl))
      cases fl with
      | nx n => exact n.elim
      | bk n => exact n.elim
      | ct n => exact n.elim
      | rt b => exact fun v σ' H' h1 => q1 v H' ((at_exitIo h1).re rfl rfl rfl)
end
section
variable {X : Cx} {k : Nat} {f : Addr} {fd : FuncData} {ps : List Str} {sp : Sp} {E : XK} {x : Str} {p pos : Pos} {e : Expr} {es : List Expr} {t : TA}
theorem pe_callG (FO : FnG X.prog X.w X.K X.mg X.base k f fd ps sp) (hr : Room k X.A) (hgd : X.A.guards = some []) (hg : Gl X x) (hm : X.mg x = some (.ref f)) (hk : PySem.W.keepIn X.K (.ref f) = true) (hb : Binds X.K fd ps []) (hx : Passes (L2.CX X.prog X.w) X E)
    (ha : PA X (e :: es) t) (hdb : (x == ("__debug__" : Str)) = false := by decide) (hst : starEach (e :: es) X.env = (false, eval e X.env) :: starEach es X.env := by rfl) (hpl : (backTo pos (starEach es X.env)).any (·.1) = false := by rfl) :
    PE X (.Call (.Name x p) (e :: es) [] pos) (tCall sp [] E t) := by
  refine ⟨fun pins s σ H Q I h => wpAny_Call_Name_kw (ld_glob I hg hm (PySem.W.callWith_K (h₀ := X.base) I.ok.mod.kin hk (thn (ha.run pos pins s σ H _ I h) fun us s1 ⟨vs, H1, I1, r, q⟩ => ⟨I1.kIn, ?_⟩) hst hpl) hdb)⟩
  have q : sp vs H1 Q E := by
    have z : sp (vs ++ []) H1 Q E := q
    rwa [List.append_nil] at z
  have hl : (us ++ ([] : List Value)).length = ps.length := by rw [List.append_nil, ← r.length]; exact FO.len _ _ _ _ q
  have hb2 := hb s1 us I1.kIn hl
  rw [List.append_nil] at hb2
  refine wpAny_call (codeAny_mono (FO.run X.A X.stack s1 H1 ⟨us, []⟩ us vs Q E hr hgd I1.env0 hb2 r q) fun z s' hq => ?_)
  cases z with
  | error e => exact hx pins σ H1 s1 e s' I1 hq
  | ok fl =>
    cases fl with
    | ret u => exact I1.after hq
    | next => exact hq.elim
    | brk => exact hq.elim
    | cont => exact hq.elim
end
section
variable {X : Cx} {S S' : Type} {F : FC X.K S} {U W A : Type} {n k : Nat} {r : Rp W} {E : XK} {ta : TA} {G G' : S → List Slot} {LA : A → List Arg} {mA : SM S A} {fA : Addr} {fd : FuncData} {ps : List Str} {x : Str} {p pos : Pos} {e : Expr} {es : List Expr}
theorem ex_callG {Ps : U → List Slot} {f : U → SM Unit W} {fm : A → SM Unit W} (hgd : X.A.guards = some []) (u : A → U) (FO : FnG X.prog X.w X.K X.mg X.base k fA fd ps (SpP X.K n Ps r f)) (hr : Room k X.A) (hg : Gl X x) (hm : X.mg x = some (.ref fA)) (hk : PySem.W.keepIn X.K (.ref fA) = true) (hb : Binds X.K fd ps []) (hx : Passes (L2.CX X.prog X.w) X E)
    (h : EA X F (e :: es) ta G G' LA mA) (hn : ∀ a, (LA a).length = n) (he : (r.Clo ∧ ∀ a s, Ent (G' s) (LA a) (Ps (u a))) ∨ ∀ a s, EntS (G' s) (LA a) (Ps (u a))) (hW : ∀ c d σ H, F.W c d σ H → E c d H) (hw : ∀ s, Weak (G' s) (F.io s)) (hf : ∀ a, fm a = f (u a) := by intro _; rfl)
    (hst : PySem.W.isStarred e = false := by rfl) (hpl : (backTo pos (starEach es X.env)).any (·.1) = false := by rfl) (hdb : (x == ("__debug__" : Str)) = false := by decide) :
    EX X F (.Call (.Name x p) (e :: es) [] pos) (tCall (SpP X.K n Ps r f) [] E ta) G G' r (bnd mA fun a => lft (fm a)) :=
  ⟨pe_callG FO hr hgd hg hm hk hb hx h.pa (hdb := hdb) (hst := star1 hst) (hpl := hpl), go_call (E := fun _ => E) u hf h.go hn he hW hw⟩
theorem ex_callIoG {rio : Rp S} {Pr : U → List Slot} {f : U → SM S W} {fm : A → SM S W} {w : V} (hgd : X.A.guards = some []) (j : Nat) (u : A → U) (FO : FnG X.prog X.w X.K X.mg X.base k fA fd ps (SpI X.K n rio Pr r f)) (hr : Room k X.A) (hg : Gl X x) (hm : X.mg x = some (.ref fA)) (hk : PySem.W.keepIn X.K (.ref fA) = true) (hb : Binds X.K fd ps []) (hx : Passes (L2.CX X.prog X.w) X E)
    (cio : rio.Clo) (h : EA X F (e :: es) ta G G' (fun a => .v j :: LA a) mA) (hn : ∀ a, (LA a).length + 1 = n) (hG : ∀ s, (G' s)[j]? = some (.pn w rio s)) (hS : ∀ s s', (G' s).set j (.pn w rio s') = G' s')
    (he : ∀ a s, EntS (G' s) (LA a) (Pr (u a))) (hW : ∀ c d σ H, F.W c d σ H → E c d H) (hw : ∀ s, Weak (G' s) (F.io s)) (hf : ∀ a, fm a = f (u a) := by intro _; rfl)
    (hst : PySem.W.isStarred e = false := by rfl) (hpl : (backTo pos (starEach es X.env)).any (·.1) = false := by rfl) (hdb : (x == ("__debug__" : Str)) = false := by decide) :
    EX X F (.Call (.Name x p) (e :: es) [] pos) (tCall (SpI X.K n rio Pr r f) [] E ta) G G' r (bnd mA fm) :=
  ⟨pe_callG FO hr hgd hg hm hk hb hx h.pa (hdb := hdb) (hst := star1 hst) (hpl := hpl), go_callIo j u hf cio h.go hn hG hS he hW hw⟩
theorem ex_callIoTG {rio : Rp S'} {Pr : U → List Slot} {f : U → SM S' W} {fm : A → SM S' W} {sx : A → S'} (hgd : X.A.guards = some []) (u : A → U) (FO : FnG X.prog X.w X.K X.mg X.base k fA fd ps (SpI X.K n rio Pr r f)) (hr : Room k X.A) (hg : Gl X x) (hm : X.mg x = some (.ref fA)) (hk : PySem.W.keepIn X.K (.ref fA) = true) (hb : Binds X.K fd ps []) (hx : Passes (L2.CX X.prog X.w) X E)
    (cio : rio.Clo) (h : EA X F (e :: es) ta G G' LA mA) (hn : ∀ a, (LA a).length = n)
    (he : ∀ a s, EntS (G' s) (LA a).tail (Pr (u a))) (hW : ∀ c d σ H, F.W c d σ H → E c d H) (hw : ∀ s, Weak (G' s) (F.io s)) (hL : ∀ a, LA a = .t (.is rio (sx a)) :: (LA a).tail := by intro _; rfl) (hf : ∀ a, fm a = f (u a) := by intro _; rfl)
    (hst : PySem.W.isStarred e = false := by rfl) (hpl : (backTo pos (starEach es X.env)).any (·.1) = false := by rfl) (hdb : (x == ("__debug__" : Str)) = false := by decide) :
    EX X F (.Call (.Name x p) (e :: es) [] pos) (tCall (SpI X.K n rio Pr r f) [] E ta) G G' r (bnd mA fun a => bnd (subM (fm a) (sx a)) fun p => ret p.1) :=
  ⟨pe_callG FO hr hgd hg hm hk hb hx h.pa (hdb := hdb) (hst := star1 hst) (hpl := hpl), go_callIoT u hf cio h.go hL hn he hW hw⟩
end
/-! ### repr -/
def reprM {S : Type} (d : PyData) : SM S Str := bnd (grd (d.showable = true ∧ d.hasDict = false ∧ d.depth ≤ 60 ∧ d.shown.length ≤ sizeLine)) fun _ => ret d.shown
theorem call_reprD {X : Cx} (hgd : X.A.guards = some []) (hu : X.A.units + 64 < cLine) : CallR X (.builtin "repr") (fun xs H Q => ∃ v d, xs = [v] ∧ Dp X.K H v d ∧ (d.showable = true ∧ d.hasDict = false ∧ d.depth ≤ 60 ∧ d.shown.length ≤ sizeLine) ∧ Q (.str d.shown) H) := by
  intro pins s σ H xs us Q I r h
  obtain ⟨v, d, exs, hd, ⟨h1, h2, h3, h4⟩, q⟩ := h
  subst exs
  obtain ⟨u, eu, ru⟩ := Vals.one r
  subst eu
  have big : ∀ a, v = .ref a → wpAny (model X.prog X.w) X.A (call (.builtin "repr") [u]) (EP X pins σ Q) X.xe s := fun a e => by
    subst e
    cases (show u = Value.ref a from ru)
    obtain ⟨as, rd⟩ := Dp.reads I d _ _ hd ru
    exact repr_of_reads' rd h1 (PyData.noDict_hsm h2) hgd (by omega) (fun _ _ e => e) (fun h' tk tk' hk => ⟨.str d.shown, H, I.kept hk, ⟨_, rfl⟩, q⟩) h4
  cases hd with
  | non =>
    cases (show u = Value.none from ru)
    exact PySem.P.repr_of_none ⟨.str _, H, I.tok _, ⟨_, rfl⟩, by simpa only [PyData.shown] using q⟩
  | bl b =>
    cases (show u = Value.bool b from ru)
    exact PySem.P.repr_of_bool ⟨.str _, H, I.tok _, ⟨_, rfl⟩, by simpa only [PyData.shown] using q⟩
  | int i =>
    obtain ⟨tk, e⟩ := (show ∃ t, u = Value.int i t from ru)
    subst e
    exact PySem.P.repr_of_int (of_decide_eq_true (by simpa only [PyData.showable] using h1)) ⟨.str _, H, I.tok _, ⟨_, rfl⟩, by simpa only [PyData.shown] using q⟩
  | str x =>
    obtain ⟨tk, e⟩ := (show ∃ t, u = Value.str x t from ru)
    subst e
    exact PySem.P.repr_of_str ⟨.str _, H, I.tok _, ⟨_, rfl⟩, by simpa only [PyData.shown] using q⟩ (by simpa only [PyData.shown] using h4)
  | lst => exact big _ rfl
  | tup => exact big _ rfl
section
variable {X : Cx} {S : Type} {F : FC X.K S} {U : Type} {e : Expr} {te : TE} {G G' : S → List Slot} {m : SM S U} {arg : U → Arg} {pos p0 : Pos} {da : U → PyData}
theorem ex_repr (hgd : X.A.guards = some []) (hu : X.A.units + 64 < cLine) (h : EO X F e te G G' arg m) (hx : ∀ a s, RdE (G' s) (arg a) (da a)) (hg : Gl X "repr") (hm : X.mg "repr" = none) (hs : PySem.W.isStarred e = false := by rfl) :
    EX X F (.Call (.Name "repr" p0) [e] [] pos) (tCB (fun xs H Q => ∃ v d, xs = [v] ∧ Dp X.K H v d ∧ (d.showable = true ∧ d.hasDict = false ∧ d.depth ≤ 60 ∧ d.shown.length ≤ sizeLine) ∧ Q (.str d.shown) H) (tCons te tNil)) G G' rStr (bnd m fun a => reprM (da a)) :=
  ex_callB1 (call_reprD hgd hu) hg hm (by decide) h (go_call1 h.go (fun _ => stl_bnd stl_grd fun _ => stl_ret _) fun a s T t ts v σ H Q A1 A2 at1 av q => by
    obtain ⟨v', ev, k1⟩ := rdE (j := 0) at1 av rfl (hx a s)
    cases ev
    obtain ⟨hc, q⟩ := wp_grd (wp_bnd q)
    exact ⟨v, da a, rfl, k1, hc, q.2 _ H (at1.fin av ⟨rfl, rfl⟩)⟩) hs
end
end Td

set_option Elab.async false
set_option linter.all false
set_option maxRecDepth 100000
set_option maxHeartbeats 4000000
namespace Td
open PySem PySem.Spec PyProof.Rows L2 SlX StX

/-! ### list(range(..)) -/
instance decRg (a b : Int) : Decidable (RgOk a b) := by unfold RgOk; infer_instance
theorem rg_upto (a b : Int) : rgV a b = (upto a (b - a).toNat).map V.int := by
  unfold rgV upto
  rw [List.map_map]; rfl
theorem all_int {K : PySem.W.Frag} {M : List Addr} {H : Hp} : ∀ (xs : List Int), All3 (rInt.rel K M H) (xs.map V.int) xs []
  | [] => .nil
  | x :: xs => .cons (B := []) ⟨rfl, rfl⟩ (all_int xs)
/-- a new list of plain ints -/
theorem At.ints {K : PySem.W.Frag} {S : Type} {F : FC K S} {T : List Slot} {t : List V} {G : List Slot} {σ : L2.St} {H : Hp} (h : At F T t G σ H) (xs : List Int) {p : Addr} (hp : H p = none) : At F (.is (rList rInt) xs :: T) (.ref p :: t) G σ (upd H p (.lst (xs.map V.int))) := by
  obtain ⟨A1, A2, h⟩ := h
  exact At.lst ⟨A1, A2, h.pushAll (all_int xs) rfl⟩ (by simp) hp
section
variable {X : Cx} {S : Type} {F : FC X.K S} {a b : Expr} {ta tb : TE} {G G1 G2 G' : S → List Slot} {mi m1 m2 : SM S Int} {pos p0 q0 rpos : Pos}
theorem ex_listRg1 (h : EX X F a ta G G' rInt mi) (hc : X.calm = true) (hg : Gl X "list") (hm : X.mg "list" = none) (hg2 : Gl X "range") (hm2 : X.mg "range" = none) (hs : PySem.W.isStarred a = false := by rfl) :
    EX X F (.Call (.Name "list" p0) [.Call (.Name "range" q0) [a] [] rpos] [] pos) (tLstRg (tRg1 ta)) G G' (rList rInt) (bnd mi fun j => bnd (grd (RgOk 0 j)) fun _ => ret (upto 0 j.toNat)) :=
  ⟨pe_listRg hc hg hm (prg_1 hg2 hm2 h.pe (star1 hs)), fun T t σ s H Q h0 q => h.go T t σ s H _ h0 (wp_mono (wp_bnd q) (fun j s1 q1 v H1 at1 => by
    obtain ⟨hz, q1⟩ := wp_grd (wp_bnd q1)
    obtain ⟨_, _, ek, _⟩ := top_rel at1
    refine ⟨j, ek, hz, fun p hp => ?_⟩
    rw [rg_upto, show (j - 0).toNat = j.toNat by rw [Int.sub_zero]]
    exact q1 _ _ (at1.pop.ints _ hp)) fun _ _ z => z)⟩
theorem ex_listRg2 (h : EX X F a ta G G1 rInt m1) (h2 : EX X F b tb G1 G2 rInt m2) (hc : X.calm = true) (hg : Gl X "list") (hm : X.mg "list" = none) (hg2 : Gl X "range") (hm2 : X.mg "range" = none) (hs : PySem.W.isStarred a = false := by rfl) (hs2 : PySem.W.isStarred b = false := by rfl) :
    EX X F (.Call (.Name "list" p0) [.Call (.Name "range" q0) [a, b] [] rpos] [] pos) (tLstRg (tRg2 ta tb)) G G2 (rList rInt) (bnd m1 fun i => bnd m2 fun j => bnd (grd (RgOk i j)) fun _ => ret (upto i (j - i).toNat)) :=
  ⟨pe_listRg hc hg hm (prg_2 hg2 hm2 h.pe h2.pe (star1 hs) (star1 hs2) (by rw [star1 hs2]; rfl)), fun T t σ s H Q h0 q => h.go T t σ s H _ h0 (wp_mono (wp_bnd q) (fun i s1 q1 v H1 at1 => by
    refine h2.go _ _ σ s1 H1 _ at1 (wp_mono (wp_bnd q1) (fun j s2 q2 w H2 at2 => ?_) fun _ _ z => z)
    obtain ⟨hz, q2⟩ := wp_grd (wp_bnd q2)
    obtain ⟨_, _, ek, _⟩ := snd_rel at2
    obtain ⟨_, _, ek2, _⟩ := top_rel at2
    refine ⟨i, j, ek, ek2, hz, fun p hp => ?_⟩
    rw [rg_upto]
    exact q2 _ _ (at2.pop.pop.ints _ hp)) fun _ _ z => z)⟩
/-- the step is -1 -/
def tRg3 (tr : TA) : TE := fun σ H Q => tr σ H fun vs H1 => ∃ i j, vs = [.int i, .int j, .int (-1)] ∧ RgOk j i ∧ ∀ q, H1 q = none → Q (.ref q) (upd H1 q (.lst ((dnto i (i - j).toNat).map V.int)))
theorem vals_dn {i : Int} {n : Nat} {acc : Array Value} (h : ItemsOf (fun k v => ∃ t, v = .int (i + k * (-1)) t) acc n) : Vals ((dnto i n).map V.int) acc.toList := by
  have e : acc.toList.length = n := by rw [Array.length_toList]; exact h.1
  unfold dnto
  rw [List.map_map, ← e]
  refine vals_of_get acc.toList _ fun j u hj => ?_
  obtain ⟨t, et⟩ := h.2 j u (by rw [← hj, Array.getElem?_toList])
  exact ⟨t, et⟩
theorem pe_listRg3 {es : List Expr} {tr : TA} (hc : X.calm = true) (pa : PA X (a :: es) tr) (hg : Gl X "list") (hm : X.mg "list" = none) (hg2 : Gl X "range") (hm2 : X.mg "range" = none) (hs : PySem.W.isStarred a = false) (hp : (backTo rpos (starEach es X.env)).any (·.1) = false) :
    PE X (.Call (.Name "list" p0) [.Call (.Name "range" q0) (a :: es) [] rpos] [] pos) (tRg3 tr) := by
  refine ⟨fun pins s σ H Q I h => ?_⟩
  refine wpAny_Call_Name_kw (ld_blt I hg hm boot_list (PyProof.Rows.callWith_type1 (args_cons (wpAny_Call_Name_kw (ld_blt I hg2 hm2 boot_range (PyProof.Rows.callWith_type1 (thn (pa.run rpos pins s σ H _ I h) fun us s1 ⟨vs, H1, I1, r1, i, j, ev, ok, q⟩ => ?_) (star1 hs) hp))) rfl) rfl))
  subst ev
  obtain ⟨u1, us1, e1, r1', rr⟩ : ∃ u us', us = u :: us' ∧ RelV (.int i) u ∧ Vals [.int j, .int (-1)] us' := by
    cases r1 with
    | cons h t => exact ⟨_, _, rfl, h, t⟩
  obtain ⟨u2, u3, e2, r2, r3⟩ := Vals.two rr
  subst e1 e2
  obtain ⟨t1, k1⟩ := r1'
  obtain ⟨t2, k2⟩ := r2
  obtain ⟨t3, k3⟩ := r3
  subst k1 k2 k3
  refine call_range_3 (by decide) ?_ (.inl (PyProof.noPylong_small (by decide)))
  have I2 : L2.Inv X pins σ H1 { s1 with heap := s1.heap.push { cls := .type "range", data := .fields #[.int i t1, .int j t2, .int (-1) t3] } } := I1.kept (t' := s1.toks) fun b u e => Heap.get?_push_of_some _ e
  obtain ⟨b1, b2, b3, b4, b5⟩ := ok
  refine args_nil ?_
  refine call_list_range (n := (i - j).toNat) (I2.ok.hd hc) (IsRange.new ..) (PySem.W.small_down b3 b4 b1 b2) (PySem.W.rangeSize_downNat i j) b5 fun h' tk acc c' hk e' hi => ?_
  refine ⟨.ref _, _, I2.laid (o := .lst ((dnto i (i - j).toNat).map V.int)) hk (Nat.le_refl _) ⟨?_, acc.toList, c', vals_dn hi, ?_⟩, rfl, q _ (I2.hok.fresh (Nat.le_refl _))⟩
  · rw [List.length_map, dnto_len, sizeLine_eq]; omega
  · rw [Array.toArray_toList]; exact e'
theorem ex_listRg3 {k : Nat} {p1 p2 : Pos} (h : EX X F a ta G G1 rInt m1) (h2 : EX X F b tb G1 G2 rInt m2) (hc : X.calm = true) (hg : Gl X "list") (hm : X.mg "list" = none) (hg2 : Gl X "range") (hm2 : X.mg "range" = none) (hs : PySem.W.isStarred a = false := by rfl) (hs2 : PySem.W.isStarred b = false := by rfl) :
    EX X F (.Call (.Name "list" p0) [.Call (.Name "range" q0) [a, b, .UnaryOp .USub (.Constant (.int 1) k p1) p2] [] rpos] [] pos) (tRg3 (tCons ta (tCons tb (tCons (tUn (rU fun i => .int (-i)) (tC (.int 1))) tNil)))) G G2 (rList rInt) (bnd m1 fun i => bnd m2 fun j => bnd (grd (RgOk j i)) fun _ => ret (dnto i (i - j).toNat)) :=
  ⟨pe_listRg3 hc (pa_cons h.pe (pa_cons h2.pe (pa_cons (pe_un un_neg pe_int) pa_nil (star1 rfl)) (star1 hs2)) (star1 hs)) hg hm hg2 hm2 hs (by rw [star1 hs2]; rfl), fun T t σ s H Q h0 q => h.go T t σ s H _ h0 (wp_mono (wp_bnd q) (fun i s1 q1 v H1 at1 => by
    refine h2.go _ _ σ s1 H1 _ at1 (wp_mono (wp_bnd q1) (fun j s2 q2 w H2 at2 => ?_) fun _ _ z => z)
    obtain ⟨hz, q2⟩ := wp_grd (wp_bnd q2)
    obtain ⟨_, _, ek, _⟩ := snd_rel at2
    obtain ⟨_, _, ek2, _⟩ := top_rel at2
    subst ek ek2
    exact ⟨1, rfl, i, j, rfl, hz, fun p hp => q2 _ _ (at2.pop.pop.ints _ hp)⟩) fun _ _ z => z)⟩
end
/-! ### x in (a, b) -/
section
variable {X : Cx} {S : Type} {F : FC X.K S} {a b : Expr} {ta tb : TE} {G G1 G2 G' : S → List Slot} {mi : SM S Int} {pos : Pos}
theorem vo_in2 {K : PySem.W.Frag} : VO2 K S rInt (rPair rInt rInt) rBool (rIn K false) (fun i p => ret ([p.1, p.2].any (· == i))) := by
  intro i p v w M B M' B' H Q s h1 h2 q
  obtain ⟨ev, _⟩ := h1
  obtain ⟨x, v1, v2, B1, B2, ew, hT, ⟨e1, _⟩, ⟨e2, _⟩, _⟩ := h2
  subst ev ew e1 e2
  exact ⟨x, _, rfl, .inr hT, rfl, rfl, q rfl _ fun _ => ⟨by simp [inV, eqV], rfl⟩⟩
theorem vo_in3 {K : PySem.W.Frag} : VO2 K S rInt (rTup3 rInt rInt rInt) rBool (rIn K false) (fun i p => ret ([p.1, p.2.1, p.2.2].any (· == i))) := by
  intro i p v w M B M' B' H Q s h1 h2 q
  obtain ⟨ev, _⟩ := h1
  obtain ⟨x, v1, v2, v3, B1, B2, B3, ew, hT, ⟨e1, _⟩, ⟨e2, _⟩, ⟨e3, _⟩, _⟩ := h2
  subst ev ew e1 e2 e3
  exact ⟨x, _, rfl, .inr hT, rfl, rfl, q rfl _ fun _ => ⟨by simp [inV, eqV], rfl⟩⟩
variable {m2 : SM S (Int × Int)} {m3 : SM S (Int × Int × Int)}
theorem ex_in2 (h1 : EX X F a ta G G1 rInt mi) (h2 : EX X F b tb G1 G2 (rPair rInt rInt) m2) (hm : behindInMarks .In b = false := by with_unfolding_all rfl) : EX X F (.Compare a [.In] [b] pos) (tOp (rIn X.K false) ta tb) G G2 rBool (bnd mi fun i => bnd m2 fun p => ret ([p.1, p.2].any (· == i))) :=
  ex_cmp op_in_seq vo_in2 (fun _ _ => stl_ret _) h1 h2 hm
theorem et_in2 (h1 : EX X F a ta G G1 rInt mi) (h2 : EX X F b tb G1 G2 (rPair rInt rInt) m2) (hm : behindInMarks .In b = false := by with_unfolding_all rfl) : ET X F (.Compare a [.In] [b] pos) (tTest (tOp (rIn X.K false) ta tb)) G G2 (bnd mi fun i => bnd m2 fun p => ret ([p.1, p.2].any (· == i))) :=
  et_cmp op_in_seq vo_in2 (fun _ _ => stl_ret _) h1 h2 hm
theorem ex_in3 (h1 : EX X F a ta G G1 rInt mi) (h2 : EX X F b tb G1 G2 (rTup3 rInt rInt rInt) m3) (hm : behindInMarks .In b = false := by with_unfolding_all rfl) : EX X F (.Compare a [.In] [b] pos) (tOp (rIn X.K false) ta tb) G G2 rBool (bnd mi fun i => bnd m3 fun p => ret ([p.1, p.2.1, p.2.2].any (· == i))) :=
  ex_cmp op_in_seq vo_in3 (fun _ _ => stl_ret _) h1 h2 hm
theorem et_in3 (h1 : EX X F a ta G G1 rInt mi) (h2 : EX X F b tb G1 G2 (rTup3 rInt rInt rInt) m3) (hm : behindInMarks .In b = false := by with_unfolding_all rfl) : ET X F (.Compare a [.In] [b] pos) (tTest (tOp (rIn X.K false) ta tb)) G G2 (bnd mi fun i => bnd m3 fun p => ret ([p.1, p.2.1, p.2.2].any (· == i))) :=
  et_cmp op_in_seq vo_in3 (fun _ _ => stl_ret _) h1 h2 hm
end
end Td

set_option Elab.async false
set_option linter.all false
set_option maxRecDepth 100000
set_option maxHeartbeats 4000000
namespace Td
open PySem PySem.Spec PyProof.Rows L2 SlX StX

/-! ### two fors -/
def lc2M {S A B C : Type} (mt : A → SM S Bool) (mi : A → SM S (List B)) (f : A → B → SM S (Option C)) : List C → List A → SM S (List C)
  | acc, [] => ret acc
  | acc, x :: xs => bnd (nxc (mt x)) fun k => if k then bnd (nxc (mi x)) fun ys => bnd (lcM (f x) acc ys) fun acc' => lc2M mt mi f acc' xs else lc2M mt mi f acc xs
theorem At.raise {K : PySem.W.Frag} {S : Type} {F : FC K S} {T T1 : List Slot} {t t1 : List V} {G : List Slot} {σ : L2.St} {H : Hp} {g : Slot} {v : V} (e : t1.length = T1.length) (h : At F (T1 ++ (g :: T)) (t1 ++ (v :: t)) G σ H) : At F (g :: (T1 ++ T)) (v :: (t1 ++ t)) G σ H := by
  obtain ⟨A1, A2, h⟩ := h
  obtain ⟨B, A1', mm, hg, tail, h2⟩ := h.lift e
  exact At.sink ⟨_, _, h2⟩
theorem At.sinkUn {K : PySem.W.Frag} {S : Type} {F : FC K S} {T T1 : List Slot} {t t1 : List V} {G : List Slot} {σ : L2.St} {H : Hp} {g : Slot} {v : V} (e : t1.length = T1.length) (h : At F (g :: (T1 ++ T)) (v :: (t1 ++ t)) G σ H) : At F (g :: T) (v :: t) G σ H := At.dropU e h
section
variable {X : Cx} {S : Type} {F : FC X.K S} {A B C : Type} {rx : Rp A} {ry : Rp B} {rc : Rp C} {wi wi1 : TI} {g g1 : TG} {ws ws1 vs vs1 : List Nat} {tt tt1 : TT} {te : TE} {G G1 : S → List Slot} {CI CJ : List Slot → Prop} {mi : SM S (List A)} {Gt : S → A → List Slot} {Gu : S → A → B → List Slot} {mt : A → SM S Bool} {mj : A → SM S (List B)} {mt1 : A → B → SM S Bool} {me : A → B → SM S C}
theorem wipe_sub : ∀ {vs : List Nat} {σ : L2.St} {j : Nat}, j ∉ vs → (wipe σ vs)[j]? = σ[j]? := fun h => wipe_get h
theorem go_lc2 (hi : GI F wi G G1 CI rx mi) (hC : ∀ s, CI (G1 s)) (hun : ∀ s, UnAt (G1 s) vs) (sub : ∀ j, j ∈ ws → j ∈ vs) (sub1 : ∀ j, j ∈ ws1 → j ∈ vs1) (hv : ∀ j, j ∈ vs1 → j ∈ vs) (hg : ∀ s, GG F.nx g ws rx (G1 s) (Gt s)) (hwk : ∀ s x, Weak (Gt s x) (G1 s))
    (ht : ∀ x, GT F.nx tt (fun s => Gt s x) (fun s => Gt s x) (mt x)) (hj : ∀ x, GI F.nx wi1 (fun s => Gt s x) (fun s => Gt s x) CJ ry (mj x)) (hCJ : ∀ s x, CJ (Gt s x)) (hun1 : ∀ s x, UnAt (Gt s x) vs1) (hg1 : ∀ s x, GG F.nx g1 ws1 ry (Gt s x) (Gu s x)) (hwk1 : ∀ s x y, Weak (Gu s x y) (Gt s x))
    (ht1 : ∀ x y, GT F.nx tt1 (fun s => Gu s x y) (fun s => Gu s x y) (mt1 x y)) (he : ∀ x y, GE F.nx te (fun s => Gu s x y) (fun s => Gu s x y) rc (me x y)) :
    GE F (tLc2 wi g tt wi1 g1 tt1 te vs vs1) G G1 (rList rc) (bnd mi fun xs => lc2M mt mj (fun x y => lcIt (mt1 x y) (me x y)) [] xs) := by
  intro T t σ s H Q h0 q
  refine hi T t σ s H _ h0 (wp_mono (wp_bnd q) (fun xs s1 q1 J gv hvv H1 src at1 D hD => ?_) fun _ _ z => z)
  refine ⟨fun i m H => m = xs.length - i ∧ i ≤ xs.length ∧ ∃ s acc, At F (.is (rList rc) acc :: (gv ++ T)) (.ref D :: (hvv ++ t)) (G1 s) σ H ∧
      (lc2M mt mj (fun x y => lcIt (mt1 x y) (me x y)) acc (xs.drop i) s).wp (fun a s' => ∀ v H', At F (.is (rList rc) a :: T) (v :: t) (G1 s') σ H' → Q v H') (XP F σ),
    ⟨xs.length, by simp, Nat.zero_le _, s1, [], At.lst (r := rc) (as := []) (vs := []) (by simpa [pend] using at1) rfl hD, by simpa using q1⟩, ?_⟩
  rintro i m H ⟨rfl, hi, s, acc, at2, q2⟩
  by_cases hlt : i < xs.length
  · refine .inr ⟨src.go (T1 := [_]) (t1 := [_]) (hC s) rfl at2 hlt, fun H' => ∃ s acc, At F (.is (rList rc) acc :: (gv ++ T)) (.ref D :: (hvv ++ t)) (G1 s) σ H' ∧
      (lc2M mt mj (fun x y => lcIt (mt1 x y) (me x y)) acc (xs.drop (i + 1)) s).wp (fun a s' => ∀ v H', At F (.is (rList rc) a :: T) (v :: t) (G1 s') σ H' → Q v H') (XP F σ),
      fun H' ⟨s, acc, at3, q3⟩ => ⟨xs.length - (i + 1), by omega, rfl, hlt, s, acc, at3, q3⟩, fun x H' hy => ?_⟩
    have at3 := src.yld (T1 := [_]) (t1 := [_]) (hC s) rfl at2 hy (List.getElem?_eq_getElem hlt)
    refine hg s _ _ _ H' x xs[i] _ (nx_at (at3.wiped fun v h => (hun s).all v h)) fun σ2 at4 l4 k4 => ?_
    refine ⟨wipe_eq l4 k4 sub, ?_⟩
    rw [List.drop_eq_getElem_cons hlt] at q2
    have back : ∀ {T' : List Slot} {t' : List V} {s' : S} {H3 : Hp}, At F.nx T' t' (Gt s' xs[i]) σ2 H3 → At F T' t' (G1 s') σ H3 := fun {T' t' s' H3} z => by
      have y := (at_nx z).weak (hwk s' xs[i])
      refine y.reS (by rw [l4, wipe_length]) fun j => ?_
      by_cases hj : j ∈ vs
      · rcases (hun s').all j hj with w | w
        · exact .inl w
        · right
          have hl : σ2.length ≤ j := by rw [y.len]; exact List.getElem?_eq_none_iff.mp w
          rw [List.getElem?_eq_none hl, List.getElem?_eq_none (by rw [l4, wipe_length] at hl; exact hl)]
      · right
        rw [k4 j fun w => hj (sub j w), wipe_get hj]
    have q3 := wp_nxc (E' := XP F.nx σ2) (wp_bnd q2)
    refine ht xs[i] _ _ σ2 s H' _ at4 (wp_mono q3 (fun k s4 q4 H4 at5 => ?_) fun _ _ z => z)
    cases k with
    | false =>
      rw [if_neg Bool.false_ne_true] at q4
      rw [if_neg Bool.false_ne_true]
      exact ⟨s4, acc, back at5, q4⟩
    | true =>
      rw [if_pos rfl] at q4
      rw [if_pos rfl]
      have q5 := wp_nxc (E' := XP F.nx σ2) (wp_bnd q4)
      refine hj xs[i] _ _ σ2 s4 H4 _ at5 (wp_mono q5 (fun ys s5 q6 J1 g1v h1v H5 src1 at6 => ?_) fun _ _ z => z)
      have at7 := At.raise src1.len at6
      refine ⟨fun j m H => m = ys.length - j ∧ j ≤ ys.length ∧ ∃ s acc, At F.nx (.is (rList rc) acc :: (g1v ++ (gv ++ T))) (.ref D :: (h1v ++ (hvv ++ t))) (Gt s xs[i]) σ2 H ∧
          (bnd (lcM (fun y => lcIt (mt1 xs[i] y) (me xs[i] y)) acc (ys.drop j)) (fun acc' => lc2M mt mj (fun x y => lcIt (mt1 x y) (me x y)) acc' (xs.drop (i + 1))) s).wp (fun a s' => ∀ v H', At F (.is (rList rc) a :: T) (v :: t) (G1 s') σ H' → Q v H') (XP F σ),
        ⟨ys.length, by simp, Nat.zero_le _, s5, acc, at7, by simpa using q6⟩, ?_⟩
      rintro j m H ⟨rfl, hjl, s6, acc6, at8, q8⟩
      by_cases hlt1 : j < ys.length
      · refine .inr ⟨src1.go (T1 := [_]) (t1 := [_]) (hCJ s6 xs[i]) rfl at8 hlt1, fun H' => ∃ s acc, At F.nx (.is (rList rc) acc :: (g1v ++ (gv ++ T))) (.ref D :: (h1v ++ (hvv ++ t))) (Gt s xs[i]) σ2 H' ∧
          (bnd (lcM (fun y => lcIt (mt1 xs[i] y) (me xs[i] y)) acc (ys.drop (j + 1))) (fun acc' => lc2M mt mj (fun x y => lcIt (mt1 x y) (me x y)) acc' (xs.drop (i + 1))) s).wp (fun a s' => ∀ v H', At F (.is (rList rc) a :: T) (v :: t) (G1 s') σ H' → Q v H') (XP F σ),
          fun H' ⟨s, acc, at3, q3⟩ => ⟨ys.length - (j + 1), by omega, rfl, hlt1, s, acc, at3, q3⟩, fun y H' hy1 => ?_⟩
        have at9 := src1.yld (T1 := [_]) (t1 := [_]) (hCJ s6 xs[i]) rfl at8 hy1 (List.getElem?_eq_getElem hlt1)
        refine hg1 s6 xs[i] _ _ _ H' y ys[j] _ (at9.wiped fun v h => (hun1 s6 xs[i]).all v h) fun σ3 at10 l10 k10 => ?_
        refine ⟨wipe_eq l10 k10 sub1, ?_⟩
        rw [List.drop_eq_getElem_cons hlt1] at q8
        have back1 : ∀ {T' : List Slot} {t' : List V} {s' : S} {H3 : Hp}, At F.nx T' t' (Gu s' xs[i] ys[j]) σ3 H3 → At F.nx T' t' (Gt s' xs[i]) σ2 H3 := fun {T' t' s' H3} z => by
          have y := z.weak (hwk1 s' xs[i] ys[j])
          refine y.reS (by rw [l10, wipe_length]) fun j' => ?_
          by_cases hj' : j' ∈ vs1
          · rcases (hun1 s' xs[i]).all j' hj' with w | w
            · exact .inl w
            · right
              have hl : σ3.length ≤ j' := by rw [y.len]; exact List.getElem?_eq_none_iff.mp w
              rw [List.getElem?_eq_none hl, List.getElem?_eq_none (by rw [l10, wipe_length] at hl; exact hl)]
          · right
            rw [k10 j' fun w => hj' (sub1 j' w), wipe_get hj']
        have q9 := wp_nxc (E' := XP F.nx σ3) (wp_bnd (wp_bnd q8))
        refine ht1 xs[i] ys[j] _ _ σ3 s6 H' _ at10 (wp_mono (wp_bnd q9) (fun k s7 q10 H7 at11 => ?_) fun _ _ z => z)
        cases k with
        | true =>
          rw [if_pos rfl] at q10
          rw [if_pos rfl]
          refine he xs[i] ys[j] _ _ σ3 s7 H7 _ at11 (wp_mono (wp_bnd q10) (fun c s8 q11 v H8 at12 => ?_) fun _ _ z => z)
          have at13 := back1 at12
          have q12 : ((bnd (grd (acc6.length < sizeLine)) fun _ => lcM (fun y => lcIt (mt1 xs[i] y) (me xs[i] y)) (acc6 ++ [c]) (List.drop (j + 1) ys)) s8).wp (fun a s' => (lc2M mt mj (fun x y => lcIt (mt1 x y) (me x y)) a (List.drop (i + 1) xs) s').wp (fun a s' => ∀ v H', At F (.is (rList rc) a :: T) (v :: t) (G1 s') σ H' → Q v H') (XP F σ)) (XP F σ) := q11
          obtain ⟨hz, q13⟩ := wp_grd (wp_bnd q12)
          obtain ⟨us, hDu, hl, at14⟩ := At.appendT at13
          exact ⟨us, hDu, by rw [hl]; exact hz, s8, acc6 ++ [c], at14, bnd_wp q13⟩
        | false =>
          rw [if_neg Bool.false_ne_true] at q10
          rw [if_neg Bool.false_ne_true]
          exact ⟨s7, acc6, back1 at11, bnd_wp q10⟩
      · have e : j = ys.length := by omega
        subst e
        rw [List.drop_length] at q8
        exact .inl ⟨src1.stop (T1 := [_]) (t1 := [_]) (hCJ s6 xs[i]) rfl at8 (Nat.le_refl _), s6, acc6, back (At.dropU src1.len at8), wp_bnd q8⟩
  · have e : i = xs.length := by omega
    subst e
    rw [List.drop_length] at q2
    refine .inl ⟨src.stop (T1 := [_]) (t1 := [_]) (hC s) rfl at2 (Nat.le_refl _), ?_⟩
    exact q2 _ H (At.dropU src.len at2)
end
section
variable {X : Cx} {S : Type} {F : FC X.K S} {A B C : Type} {rx : Rp A} {ry : Rp B} {rc : Rp C} {tg e tg1 e1 elt : Expr} {ifs ifs1 : List Expr} {scope : Scope} {own : List (Str × Nat)} {wi : TI} {wi1 : Shared → Hp → Addr → List (Str × Addr) → List Addr → TI} {g g1 : Shared → Hp → Addr → List (Str × Addr) → List Addr → TG} {ws ws1 vs1 : List Nat} {tt tt1 : Shared → Hp → Addr → List (Str × Addr) → List Addr → TT} {te : Shared → Hp → Addr → List (Str × Addr) → List Addr → TE} {G G1 : S → List Slot} {CI CJ : List Slot → Prop} {mi : SM S (List A)} {Gt : S → A → List Slot} {Gu : S → A → B → List Slot} {mt : A → SM S Bool} {mj : A → SM S (List B)} {mt1 : A → B → SM S Bool} {me : A → B → SM S C} {pos : Pos}
theorem ex_lc2 (sh0 : Shared) (hc : X.calm = true) (hN : X.N.Nodup) (hi : EI X F tg e wi G G1 CI rx mi) (hC : ∀ s, CI (G1 s)) (ok : BlkOk X.N X.env.scope scope own) (hun : ∀ s, UnAt (G1 s) (own.map (·.2))) (sub : ∀ j, j ∈ ws → j ∈ own.map (·.2)) (sub1 : ∀ j, j ∈ ws1 → j ∈ vs1) (hv : ∀ j, j ∈ vs1 → j ∈ own.map (·.2)) (hwk : ∀ s x, Weak (Gt s x) (G1 s))
    (hg : ∀ (s0 : Shared) (H : Hp) (D : Addr) (cl : List (Str × Addr)) (fp : List Addr) (s : S), EG (X.blk s0 H scope (compEnvC scope cl D X.env) fp) F.nx tg (g s0 H D cl fp) ws rx (G1 s) (Gt s))
    (ht : ∀ (s0 : Shared) (H : Hp) (D : Addr) (cl : List (Str × Addr)) (fp : List Addr) (x : A), ETs (X.blk s0 H scope (compEnvC scope cl D X.env) fp) F.nx ifs (tt s0 H D cl fp) (fun s => Gt s x) (fun s => Gt s x) (mt x))
    (hj : ∀ (s0 : Shared) (H : Hp) (D : Addr) (cl : List (Str × Addr)) (fp : List Addr) (x : A), EI (X.blk s0 H scope (compEnvC scope cl D X.env) fp) F.nx tg1 e1 (wi1 s0 H D cl fp) (fun s => Gt s x) (fun s => Gt s x) CJ ry (mj x)) (hCJ : ∀ s x, CJ (Gt s x)) (hun1 : ∀ s x, UnAt (Gt s x) vs1) (hwk1 : ∀ s x y, Weak (Gu s x y) (Gt s x))
    (hg1 : ∀ (s0 : Shared) (H : Hp) (D : Addr) (cl : List (Str × Addr)) (fp : List Addr) (s : S) (x : A), EG (X.blk s0 H scope (compEnvC scope cl D X.env) fp) F.nx tg1 (g1 s0 H D cl fp) ws1 ry (Gt s x) (Gu s x))
    (ht1 : ∀ (s0 : Shared) (H : Hp) (D : Addr) (cl : List (Str × Addr)) (fp : List Addr) (x : A) (y : B), ETs (X.blk s0 H scope (compEnvC scope cl D X.env) fp) F.nx ifs1 (tt1 s0 H D cl fp) (fun s => Gu s x y) (fun s => Gu s x y) (mt1 x y))
    (he : ∀ (s0 : Shared) (H : Hp) (D : Addr) (cl : List (Str × Addr)) (fp : List Addr) (x : A) (y : B), EX (X.blk s0 H scope (compEnvC scope cl D X.env) fp) F.nx elt (te s0 H D cl fp) (fun s => Gu s x y) (fun s => Gu s x y) rc (me x y)) (hA : Inhabited A) (hB : Inhabited B) (hS : Inhabited S)
    (e_g : ∀ s0 H D cl fp, g s0 H D cl fp = g sh0 (fun _ => none) 0 [] [] := by intros; rfl) (e_g1 : ∀ s0 H D cl fp, g1 s0 H D cl fp = g1 sh0 (fun _ => none) 0 [] [] := by intros; rfl) (e_tt : ∀ s0 H D cl fp, tt s0 H D cl fp = tt sh0 (fun _ => none) 0 [] [] := by intros; rfl) (e_tt1 : ∀ s0 H D cl fp, tt1 s0 H D cl fp = tt1 sh0 (fun _ => none) 0 [] [] := by intros; rfl) (e_te : ∀ s0 H D cl fp, te s0 H D cl fp = te sh0 (fun _ => none) 0 [] [] := by intros; rfl) (e_wi1 : ∀ s0 H D cl fp, wi1 s0 H D cl fp = wi1 sh0 (fun _ => none) 0 [] [] := by intros; rfl) (hs : ∀ x, foldedSetIterable e X.env x = pure x := by intro _; rfl) (hs1 : ∀ env x, foldedSetIterable e1 env x = pure x := by intro _ _; rfl) :
    EX X F (.ListComp elt [⟨tg, e, ifs, 0⟩, ⟨tg1, e1, ifs1, 0⟩] scope pos) (tLc2 wi (g sh0 (fun _ => none) 0 [] []) (tt sh0 (fun _ => none) 0 [] []) (wi1 sh0 (fun _ => none) 0 [] []) (g1 sh0 (fun _ => none) 0 [] []) (tt1 sh0 (fun _ => none) 0 [] []) (te sh0 (fun _ => none) 0 [] []) (own.map (·.2)) vs1) G G1 (rList rc) (bnd mi fun xs => lc2M mt mj (fun x y => lcIt (mt1 x y) (me x y)) [] xs) :=
  ⟨pe_lc2 hc hN hi.pi ok hv (fun s0 H D cl fp => by rw [← e_g s0 H D cl fp]; exact (hg s0 H D cl fp hS.default).pg) (fun s0 H D cl fp => by rw [← e_tt s0 H D cl fp]; exact (ht s0 H D cl fp hA.default).pt) (fun s0 H D cl fp => by rw [← e_wi1 s0 H D cl fp]; exact (hj s0 H D cl fp hA.default).pi)
      (fun s0 H D cl fp => by rw [← e_g1 s0 H D cl fp]; exact (hg1 s0 H D cl fp hS.default hA.default).pg) (fun s0 H D cl fp => by rw [← e_tt1 s0 H D cl fp]; exact (ht1 s0 H D cl fp hA.default hB.default).pt) (fun s0 H D cl fp => by rw [← e_te s0 H D cl fp]; exact (he s0 H D cl fp hA.default hB.default).pe) hs hs1,
    go_lc2 hi.go hC hun sub sub1 hv (fun s => (hg sh0 (fun _ => none) 0 [] [] s).go) hwk (fun x => (ht sh0 (fun _ => none) 0 [] [] x).go) (fun x => (hj sh0 (fun _ => none) 0 [] [] x).go) hCJ hun1 (fun s x => (hg1 sh0 (fun _ => none) 0 [] [] s x).go) hwk1 (fun x y => (ht1 sh0 (fun _ => none) 0 [] [] x y).go) (fun x y => (he sh0 (fun _ => none) 0 [] [] x y).go)⟩
end
end Td
namespace Td
open PySem PySem.Spec PyProof.Rows L2
theorem At.unpair3 {K : PySem.W.Frag} {S : Type} {F : FC K S} {T : List Slot} {t : List V} {G : List Slot} {σ : L2.St} {H : Hp} {U W Z : Type} {r : Rp U} {q : Rp W} {l : Rp Z} {a : U × W × Z} {v : V} (h : At F (.is (rTup3 r q l) a :: T) (v :: t) G σ H) :
    ∃ p x y z, v = .ref p ∧ SqT K H p [x, y, z] ∧ At F (.is r a.1 :: .is q a.2.1 :: .is l a.2.2 :: T) (x :: y :: z :: t) G σ H := by
  obtain ⟨A1, A2, h⟩ := h
  obtain ⟨B, A', eA, ⟨v', ev, p, x, y, z, B1, B2, B3, e, hT, h1, h2, h3, eB⟩, ht⟩ := AtS.cons_inv h.tmp
  cases ev
  subst eA eB
  have eq : (B1 ++ (B2 ++ B3)) ++ A' = B1 ++ (B2 ++ (B3 ++ A')) := by simp
  refine ⟨p, x, y, z, e, hT, (B1 ++ (B2 ++ (B3 ++ A'))), A2, ?_, ?_, ?_⟩
  · rw [← eq]
    have w : AtS K ((B1 ++ (B2 ++ B3)) ++ A' ++ A2 ++ F.M0) H (.is r a.1 :: .is q a.2.1 :: .is l a.2.2 :: T) ((x :: y :: z :: t).map some) (B1 ++ (B2 ++ (B3 ++ A'))) := .cons ⟨x, rfl, h1⟩ (.cons ⟨y, rfl, h2⟩ (.cons ⟨z, rfl, h3⟩ ht))
    rwa [← eq] at w
  · rw [← eq]; exact h.loc
  · rw [← eq]; exact h.good
section
variable {X : Cx} {S : Type} {F : FC X.K S} {A B C : Type} {rx : Rp A} {ry : Rp B} {rz : Rp C} {G : List Slot} {pos : Pos}
theorem eg_tup3 {e1 e2 e3 : Expr} {g1 g2 g3 : TG} {w1 w2 w3 ws : List Nat} {k : Nat} {Gt : A × B × C → List Slot} {G1 : A → List Slot} {G2 : A → B → List Slot} {G3 : A → B → C → List Slot} (hc : X.calm = true) (h1 : EG X F e1 g1 w1 rx G G1) (h2 : ∀ a, EG X F e2 g2 w2 ry (G1 a) (G2 a)) (h3 : ∀ a b, EG X F e3 g3 w3 rz (G2 a b) (G3 a b))
    (ha : Inhabited A) (hb : Inhabited B) (hws : ws = w1 ++ (w2 ++ w3) := by rfl) (hGt : ∀ p, Gt p = G3 p.1 p.2.1 p.2.2 := by intro _; rfl) (hs1 : (assignEach [e1, e2, e3] X.env).map (·.2) = assign e1 X.env :: (assignEach [e2, e3] X.env).map (·.2) := by rfl)
    (hs2 : (assignEach [e2, e3] X.env).map (·.2) = assign e2 X.env :: (assignEach [e3] X.env).map (·.2) := by rfl) (hs3 : (assignEach [e3] X.env).map (·.2) = assign e3 X.env :: (assignEach [] X.env).map (·.2) := by rfl)
    (hn : (assignEach [e1, e2, e3] X.env).length = 3 := by rfl) (hst : (assignEach [e1, e2, e3] X.env).findIdx? (·.1) = none := by rfl) :
    EG X F (.Tuple [e1, e2, e3] k pos) (gTup X.K 3 (gCons g1 (gCons g2 (gCons g3 gNil)))) ws (rTup3 rx ry rz) G Gt :=
  ⟨pg_tup hc (pgs_cons h1.pg (pgs_cons (h2 ha.default).pg (pgs_cons (h3 ha.default hb.default).pg pgs_nil hs3) hs2) hs1) hn hst, fun T t σ H v a Q h q => by
    have eG : Gt = fun p => G3 p.1 p.2.1 p.2.2 := funext hGt
    subst hws eG
    obtain ⟨p, x, y, z, ev, hT, h⟩ := h.unpair3
    refine ⟨p, [x, y, z], ev, hT, rfl, x, [y, z], rfl, ?_⟩
    refine h1.go _ _ σ H x a.1 _ h fun σ1 at1 l1 k1 => ?_
    refine ⟨y, [z], rfl, ?_⟩
    refine (h2 a.1).go _ _ σ1 H y a.2.1 _ at1 fun σ2 at2 l2 k2 => ?_
    refine ⟨z, [], rfl, ?_⟩
    refine (h3 a.1 a.2.1).go _ _ σ2 H z a.2.2 _ at2 fun σ3 at3 l3 k3 => ?_
    exact ⟨rfl, q σ3 at3 ((l3.trans l2).trans l1) fun j hj => ((k3 j fun z => hj (by simp [z])).trans (k2 j fun z => hj (by simp [z]))).trans (k1 j fun z => hj (by simp [z]))⟩⟩
end
end Td

set_option Elab.async false
set_option linter.all false
set_option maxRecDepth 100000
set_option maxHeartbeats 4000000
namespace Td
open PySem PySem.Spec PyProof.Rows L2

/-! ### a law whose def shows data: run where no repr is under way -/
section
variable {P : Program} {w : World} {K : PySem.W.Frag} {mg mb : Str → Option Value} {k : Nat} {fa a : Addr} {fd : FuncData} {x : Str} {sp : Sp} {sh : Shared} {H : Hp}
/-- the call over one abstract heap that knows at most the script -/
theorem callG_at {o : Obj} (KX : K.In sh.heap) (hns : sh.heap.Ns mainGlobals mg) (hb : sh.heap.Ns builtinsNs mb) (hbb : ∀ x : Str, x ≠ "__name__" → mb x = bootBuiltins x) (hlim : sh.heap.NoLimit) (hg : sh.gens = #[])
    (ho : sh.heap.get? a = some o) (hseq : ∀ es ep, o.data ≠ .dict es ep) (hr : Room k callerA) (F : ∀ base : Heap, K.In base → base.Ns mainGlobals mg → FnG P w K mg base k fa fd [x] sp) (hbind : ∀ (s : Shared) (u : Value), BindsTo s fd ⟨[u], []⟩ [(x, u)])
    (hO : Only H) (hok : HOk P w H sh.heap) (hA : ∀ b, H b ≠ none → b = a) (hK : H a ≠ none → K.lookup a = none) (hsp : sp [.ref a] H (fun v _ => v = .bl true) fun _ _ _ => False) :
    codeAny (model P w) callerA (.call (.ref fa) ⟨[.ref a], []⟩) (fun r s' => r = .ok (.ret (.bool true)) ∧ OldK sh.heap s'.heap ∧ s'.os = sh.os ∧ AllBare s'.gens) sh := by
  have free : ∀ {b : Addr}, b ≠ a → H b = none := fun {b} h => by
    cases q : H b with
    | none => rfl
    | some u => exact absurd (hA b (by rw [q]; exact fun z => nomatch z)) h
  have nsK : ∀ {b : Addr} {m : Str → Option Value}, sh.heap.Ns b m → (hidT sh.heap H).Ns b m := fun {b m} hn => by
    obtain ⟨ob, es, ep, e, d, r⟩ := hn
    refine ⟨ob, es, ep, hidT_get e (free fun z => ?_), d, r⟩
    subst z
    rw [ho] at e
    cases e
    exact hseq es ep d
  have hKb : K.In (hidT sh.heap H) := fun b ob e => by
    refine hidT_get (KX b ob e) ?_
    by_cases hb : b = a
    · subst hb
      cases q : H b with
      | none => rfl
      | some u =>
        have z := hK (by rw [q]; exact fun z => nomatch z)
        rw [z] at e; cases e
    · exact free hb
  obtain ⟨mc, lim1, lim2⟩ := hlim
  have e0 : Env0 P w K mg (hidT sh.heap H) callerA [] sh H := ⟨rfl, ⟨hKb, nsK hns, ⟨mb, nsK hb, hbb⟩, ⟨mc, nsK lim1, lim2⟩⟩, fun b ob e => of_hidT e, Nat.le_of_eq (hidT_size _ _), trivial, fun b hb => (nomatch hb), hok, .of_eq hg⟩
  refine codeAny_mono ((F _ hKb (nsK hns)).run callerA [] sh H ⟨[.ref a], []⟩ [.ref a] [.ref a] _ _ hr rfl e0 (hbind sh (.ref a)) (.cons rfl .nil) hsp) fun r s' h => ?_
  cases r with
  | error e =>
    obtain ⟨_, _, _, _, _, _, _, _, _, _, _, _, hf⟩ := h
    exact hf.elim
  | ok fl =>
    cases fl with
    | next => exact h.elim
    | brk => exact h.elim
    | cont => exact h.elim
    | ret u =>
      obtain ⟨v, H', os, bare, un, hok', ru, ev⟩ := h
      have ev' : v = .bl true := ev
      subst ev'
      have eu : u = Value.bool true := ru
      refine ⟨by rw [eu], OldK.of_keep fun b ob e => ?_, os, bare⟩
      rcases hO b with z | ⟨o2, ys, z⟩
      · exact un.keep b ob e z (fun z => nomatch (show b ∈ ([] : List Addr) from z)) (fun z => nomatch z)
      · obtain ⟨e1, _⟩ := hok b _ z
        obtain ⟨e2, _⟩ := hok' b _ (un.frzs b o2 _ z)
        rw [e] at e1; cases e1
        exact e2
theorem law_callG {vs : List Value} {ns : List Int} (KX : K.In sh.heap) (hns : sh.heap.Ns mainGlobals mg) (hb : sh.heap.Ns builtinsNs mb) (hbb : ∀ x : Str, x ≠ "__name__" → mb x = bootBuiltins x) (hlim : sh.heap.NoLimit) (hg : sh.gens = #[])
    (ha : sh.heap.get? a = some { cls := .type "list", data := .seq vs.toArray }) (hi : IntsAre vs ns) (hl : ns.length ≤ sizeLine) (hr : Room k callerA)
    (F : ∀ base : Heap, K.In base → base.Ns mainGlobals mg → FnG P w K mg base k fa fd [x] sp) (hbind : ∀ (s : Shared) (u : Value), BindsTo s fd ⟨[u], []⟩ [(x, u)])
    (hsp : ∀ H : Hp, Only H → SqL K H a (ns.map V.int) → sp [.ref a] H (fun v _ => v = .bl true) fun _ _ _ => False) :
    codeAny (model P w) callerA (.call (.ref fa) ⟨[.ref a], []⟩) (fun r s' => r = .ok (.ret (.bool true)) ∧ OldK sh.heap s'.heap ∧ s'.os = sh.os ∧ AllBare s'.gens) sh := by
  have rv := vals_ints hi
  have key := fun (H : Hp) (hO : Only H) (hS : SqL K H a (ns.map V.int)) => callG_at (H := H) KX hns hb hbb hlim hg ha (fun es ep z => nomatch z) hr F hbind hO (hsp := hsp H hO hS)
  cases hk : K.lookup a with
  | some o =>
    have e := KX a o hk
    rw [ha] at e
    cases e
    exact key (fun _ => none) (fun _ => .inl rfl) (.inr ⟨_, vs.toArray, _, hk, rfl, rfl, rfl, by rw [List.size_toArray, hi.length]; exact hl, by simpa using rv⟩) (fun b u z => nomatch (show (none : Option HO) = some u from z)) (fun b z => absurd rfl z) (fun z => absurd rfl z)
  | none =>
    obtain ⟨u0, hu0⟩ : ∃ u : HO, u = .frz { cls := .type "list", data := .seq vs.toArray } (.lst (ns.map V.int)) := ⟨_, rfl⟩
    have at_a : (fun b : Addr => if b = a then some u0 else none) a = some u0 := if_pos rfl
    have off : ∀ b, b ≠ a → (fun b : Addr => if b = a then some u0 else none) b = none := fun b h => if_neg h
    refine key (fun b => if b = a then some u0 else none) (fun b => ?_) (.inl (.inr ⟨{ cls := .type "list", data := .seq vs.toArray }, by rw [← hu0]; exact at_a⟩)) (fun b u z => ?_) (fun b z => ?_) fun _ => hk
    · by_cases h : b = a
      · exact .inr ⟨_, _, by rw [h, at_a, hu0]⟩
      · exact .inl (off b h)
    · by_cases h : b = a
      · subst h
        rw [at_a] at z
        cases z
        subst hu0
        exact ⟨ha, by rw [List.length_map]; exact hl, vs, _, rv, ha⟩
      · rw [off b h] at z; cases z
    · exact Classical.byContradiction fun h => z (off b h)
end
/-- a law over a head by facts -/
theorem walk_ofG {l : PySem.W.OpenLaw} {n k : Nat} {q : Program} {loose : List Str} {XP : (Str → Option Value) → Heap → Prop} {YP : World → Heap → Prop} {d : DefRec} {x : Str}
    (hn : l.most = some n) (hn2 : n ≤ sizeLine) (hdf : d.params.defaults = []) (hr : Room k callerA)
    (F : ∀ (w : World) (mg : Str → Option Value) (fa : Addr) (h : Heap), YP w h → h.Ns mainGlobals mg → mg d.name = some (.ref fa) →
      ∃ (K : PySem.W.Frag) (fd : FuncData) (sp : Sp), K.In h ∧ (∀ (s : Shared) (u : Value), BindsTo s fd ⟨[u], []⟩ [(x, u)]) ∧
        (∀ (H : Hp) (a : Addr) (ns : List Int), ns.length ≤ n → Only H → SqL K H a (ns.map V.int) → sp [.ref a] H (fun v _ => v = .bl true) fun _ _ _ => False) ∧
        ∀ base : Heap, K.In base → base.Ns mainGlobals mg → FnG l.prog w K mg base k fa fd [x] sp) :
    PySem.W.WalkO q loose XP YP l.row.toRowW d [] (fun f vs => PySem.call f vs) := by
  refine Att.attach_call hn hdf fun w s₀ s₁ mg mb fa o pm cd doc a vs ns G Y ho hd hcd hmg hobj hints hlen hg => ?_
  obtain ⟨K, fd, sp, KX, hb, hsp, hF⟩ := F w mg fa _ Y G.T.g hmg
  exact law_callG KX G.T.g G.T.b G.T.builtins G.T.nolimit hg hobj hints (Nat.le_trans hlen hn2) hr hF hb fun H hO hS => hsp H a ns hlen hO hS
end Td
namespace Td
open PySem PySem.Spec PyProof.Rows L2
/-! ### the script -/
def rScr : Rp (List Int) where
  rel := fun K M H v xs B => B = [] ∧ ∃ p, v = .ref p ∧ ((∃ o, H p = some (.frz o (.lst (xs.map V.int)))) ∨ ∀ H', SqL K H' p (xs.map V.int))
  keep := by
    rintro K M H H' v a B ⟨eB, p, ev, h⟩ k
    refine ⟨eB, p, ev, h.imp (fun ⟨o, e⟩ => ⟨o, k p _ e (.inr (.inr rfl))⟩) id⟩
  grow := fun h _ => h
  trk := by
    rintro K M H v a B ⟨eB, _⟩ x hx
    rw [eB] at hx; cases hx
theorem cp_scr : rScr.Cp := fun h => h.1
theorem clo_scr : rScr.Clo := fun h => h
theorem scr_seq {K : PySem.W.Frag} {M : List Addr} {H : Hp} {v : V} {xs : List Int} {B : List Addr} (h : rScr.rel K M H v xs B) : ∃ p, v = .ref p ∧ SqL K H p (xs.map V.int) := by
  obtain ⟨_, p, ev, h⟩ := h
  exact ⟨p, ev, h.elim (fun ⟨o, e⟩ => .inl (.inr ⟨o, e⟩)) fun h => h H⟩
theorem scr_of {K : PySem.W.Frag} {H : Hp} {a : Addr} {xs : List Int} (hO : Only H) (h : SqL K H a (xs.map V.int)) (M : List Addr) : rScr.rel K M H (.ref a) xs [] := by
  refine ⟨rfl, a, rfl, ?_⟩
  rcases h with (h | h) | h
  · rcases hO a with z | ⟨o, ys, z⟩
    · rw [h] at z; cases z
    · rw [h] at z; cases z
  · exact .inl h
  · exact .inr fun _ => .inr h
theorem atI_map {xs : List Int} {i a : Int} (h : atI xs i = some a) : atI (xs.map V.int) i = some (.int a) := by
  unfold atI at *
  rw [List.length_map]
  cases e : ixN xs.length i with
  | none => rw [e] at h; cases h
  | some j =>
    rw [e] at h
    show (xs.map V.int)[j]? = _
    have h' : xs[j]? = some a := h
    rw [List.getElem?_map, h']; rfl
section
variable {X : Cx} {S : Type} {F : FC X.K S} {U : Type} {a b e : Expr} {ta tb te : TE} {G G1 G2 G' : S → List Slot} {m1 m : SM S U} {mi : SM S Int} {argU arg : U → Arg} {xs : U → List Int} {pos p0 : Pos}
theorem ex_ixScr (h1 : EO X F a ta G G1 argU m1) (h2 : EX X F b tb G1 G2 rInt mi) (hx : ∀ a s, Rdd (G2 s) (argU a) rScr (xs a)) (hs : PlainIx b := by exact fun _ _ => rfl) :
    EX X F (.Subscript a b pos) (tOp (rIxL X.K) ta tb) G G2 rInt (bnd m1 fun a => bnd mi fun i => ixM (xs a) i) :=
  ⟨pe_ix ix_list h1.pe h2.pe hs, go_op2 h1.go (eo_t h2).go (fun _ _ => stl_ixM _ _) fun a i s T t ts x y σ H Q A1 A2 at1 av q => by
    obtain ⟨v, B, e1, k1⟩ := rddM (j := 0) at1 av rfl (hx a s)
    obtain ⟨w, B', e2, ew, _⟩ := rddM (j := 1) at1 av rfl .t
    cases e1; cases e2
    obtain ⟨p, ev, hs⟩ := scr_seq k1
    obtain ⟨z, ez, _, q⟩ := wp_ixM q
    exact ⟨p, _, i, .int z, ev, ew, hs, atI_map ez, q _ H (at1.fin av ⟨rfl, rfl⟩)⟩⟩
theorem ex_lenScr (h : EO X F e te G G' arg m) (hx : ∀ a s, Rdd (G' s) (arg a) rScr (xs a)) (hg : Gl X "len") (hm : X.mg "len" = none) (hs : PySem.W.isStarred e = false := by rfl) :
    EX X F (.Call (.Name "len" p0) [e] [] pos) (tCB (fun xs H Q => ∃ p ys, xs = [.ref p] ∧ (SqL X.K H p ys ∨ SqT X.K H p ys) ∧ Q (.int ys.length) H) (tCons te tNil)) G G' rInt (bnd m fun a => ret ((xs a).length : Int)) :=
  ex_callB1 call_len_seq hg hm PySem.boot_len h (go_call1 h.go (fun _ => stl_ret _) fun a s T t ts v σ H Q A1 A2 at1 av q => by
    obtain ⟨v', B, e1, k1⟩ := rddM (j := 0) at1 av rfl (hx a s)
    cases e1
    obtain ⟨p, ev, hs⟩ := scr_seq k1
    exact ⟨p, _, by rw [ev], .inl hs, q.2 _ H (at1.fin av ⟨by rw [List.length_map], rfl⟩)⟩) hs
end
/-- the law's promise from what the head gives -/
theorem law_sp {K : PySem.W.Frag} {H : Hp} {a : Addr} {ns : List Int} {f : List Int → SM Unit Bool} (hO : Only H) (h : SqL K H a (ns.map V.int)) (hf : ∃ s, f ns () = .ok true s) : SpP K 1 (fun u : List Int => [.is rScr u]) rBool f [.ref a] H (fun v _ => v = .bl true) fun _ _ _ => False := by
  refine ⟨ns, (), [], [], rfl, ⟨[], [] ++ [], .nil, .cons (B := []) ⟨_, rfl, scr_of hO h _⟩ .nil, good_c fun _ z => nomatch z⟩, ?_⟩
  obtain ⟨s, e⟩ := hf
  rw [e]
  intro v H' hx
  obtain ⟨A1, A2, hx⟩ := hx
  obtain ⟨B, A', eA, ⟨v', ev, hv, _⟩, _⟩ := AtS.cons_inv hx.tmp
  cases ev
  exact hv
end Td

set_option Elab.async false
set_option linter.all false
set_option maxRecDepth 100000
set_option maxHeartbeats 4000000
namespace L2
open PySem PySem.Spec PyProof.Rows HT
namespace HT
section
variable {prog : Program} {w : World} {A : Around} {E : Value → Shared → Prop} {s : Shared}
theorem places_back (n : Nat) : Builtin.Slice.slicePlaces ((n : Int) - 1) (-1) (-1) = n := by
  unfold Builtin.Slice.slicePlaces
  have h1 : ¬ ((-1 : Int) > 0) := by decide
  simp only [h1, if_false]
  split
  · rw [show (-(-1) : Int) = 1 by decide, Int.ediv_one]; omega
  · omega
theorem sliceApplied_back {sl : Addr} {vs : Value} {n : Nat} {Q : Int × Int × Nat → Shared → Prop} (hs : s.heap.IsSliceOf sl .none .none vs) (pv : IsPart vs (some (-1)))
    (h : Q ((n : Int) - 1, -1, n) s) : wpAny (model prog w) A (Builtin.Slice.sliceApplied (.ref sl) (pure (n : Int))) Q E s := by
  obtain ⟨os, hos, hcs, hds⟩ := id hs
  unfold Builtin.Slice.sliceApplied Builtin.Slice.sliceFields
  refine wpAny_bind (wpAny_bind (wpAny_field hos hds (x := .none) rfl (wpAny_bind (wpAny_field hos hds (x := .none) rfl (wpAny_bind (wpAny_field hos hds (x := vs) rfl (wpAny_pure ?_)))))))
  refine wpAny_bind (slicePart_ pv ?_)
  show wpAny _ _ (if ((-1 : Int) == 0) = true then _ else _) _ _ s
  rw [if_neg (by decide)]
  refine wpAny_bind (slicePart_ .none (wpAny_bind (slicePart_ .none (wpAny_bind (wpAny_pure ?_)))))
  show wpAny _ _ (pure ((n : Int) - 1, (-1 : Int), Builtin.Slice.slicePlaces ((n : Int) - 1) (-1) (-1))) _ _ s
  rw [places_back]
  exact wpAny_pure h
theorem pick_back (xs : Array Value) : ((List.range xs.size).filterMap fun (m : Nat) => xs[(((xs.size : Int) - 1) + (m : Int) * (-1)).toNat]?).toArray = xs.toList.reverse.toArray := by
  congr 1
  rw [← List.map_id (List.filterMap _ _)]
  have key : ∀ (l : List Value) (f : Nat → Option Value), (∀ m, m < l.length → f m = l[m]?) → (List.range l.length).filterMap f = l := by
    intro l
    induction l with
    | nil => intro f _; rfl
    | cons a l ih =>
      intro f hf
      rw [List.length_cons, List.range_succ_eq_map, List.filterMap_cons_some (b := a) (by rw [hf 0 (by simp)]; rfl), List.filterMap_map, ih _ fun m hm => by
        show f (m + 1) = _
        rw [hf (m + 1) (by simpa using hm)]; rfl]
  rw [List.map_id]
  have := key xs.toList.reverse (fun (m : Nat) => xs[(((xs.size : Int) - 1) + (m : Int) * (-1)).toNat]?) (fun m hm => by
    rw [List.length_reverse, Array.length_toList] at hm
    rw [List.getElem?_reverse (by rw [Array.length_toList]; exact hm), Array.length_toList, Array.getElem?_toList]
    congr 1
    omega)
  rw [List.length_reverse, Array.length_toList] at this
  exact this
theorem getItem_tuple_back {t sl : Addr} {items : Array Value} {vs : Value} {Q : Value → Shared → Prop} (ht : IsTup s.heap t items) (hs : s.heap.IsSliceOf sl .none .none vs) (pv : IsPart vs (some (-1)))
    (h : Q (.ref s.heap.objs.size) { s with heap := s.heap.push { cls := .type "tuple", data := .seq items.toList.reverse.toArray } })
    (hsz : items.size ≤ sizeLine) : wpAny (model prog w) A (getItem (.ref t) (.ref sl)) Q E s := by
  have htake : sizeOk (.seq items.toList.reverse.toArray) := by
    show items.toList.reverse.toArray.size ≤ sizeLine
    rw [List.size_toArray, List.length_reverse, Array.length_toList]
    exact hsz
  obtain ⟨os, hos, hcs, hds⟩ := id hs
  have hTs : s.TypeIs (.ref sl) "slice" := ⟨os, hos, hcs⟩
  unfold getItem
  try with_reducible refine wpAny_holding ?_
  first | refine wpAny_bind (wpAny_pure ?_) | skip
  refine wpAny_bind (wpAny_sequenceKey ht.typeIs (by decide) ?_)
  refine wpAny_bind (wpAny_callSpecial?_slot (name := Str.ofString "__getitem__") ht.typeIs PyProof.Rows.slot_tuple_getitem
    (wpAny_call_entry PyProof.Rows.slot_tuple_getitem ht.typeIs entry_tuple_getitem ?_ (args_tuple_getitem _ _)))
  show wpAny _ _ (Builtin.Tuple.tupleItemsOf (.ref t) >>= _) _ _ s
  refine wpAny_bind (tupleItemsOf_ ht ?_)
  refine wpAny_bind (wpAny_typeOf hTs ?_)
  rw [if_pos (by decide)]
  refine wpAny_bind (sliceApplied_back hs pv ?_)
  have hno : ¬ (((((items.size : Int) - 1)) == 0 && (-1 : Int) == 1 && items.size == items.size) = true) := by
    intro q
    rw [Bool.and_eq_true, Bool.and_eq_true] at q
    exact absurd q.1.2 (by decide)
  show wpAny _ _ (if ((((items.size : Int) - 1)) == 0 && (-1 : Int) == 1 && items.size == items.size) = true then _ else _) _ _ s
  rw [if_neg hno, pick_back]
  first
    | exact wpAny_bind (m := Builtin.Tuple.tupleExact _) (wpAny_newObj_type (wpAny_pure ⟨_, rfl, wpAny_pure h⟩) htake)
    | exact wpAny_bind (m := Builtin.Tuple.tupleExact _) (wpAny_newObj_type (wpAny_bind (wpAny_pure (wpAny_pure ⟨_, rfl, wpAny_pure h⟩))) htake)
    | exact wpAny_bind (wpAny_bind (m := Builtin.Tuple.tupleExact _) (wpAny_newObj_type (wpAny_pure (wpAny_pure ⟨_, rfl, wpAny_pure h⟩)) htake))
    | exact wpAny_bind (wpAny_bind (m := Builtin.Tuple.tupleExact _) (wpAny_newObj_type (wpAny_pure ⟨_, rfl, wpAny_pure h⟩) htake))
end
end HT
section
variable {X : Cx}
def tRevT (K : PySem.W.Frag) (te : TE) : TE := fun σ H Q => te σ H fun x H1 => ∃ a xs, x = .ref a ∧ SqT K H1 a xs ∧ ∀ p, H1 p = none → Q (.ref p) (upd H1 p (.tup xs.reverse))
theorem pe_revT {e : Expr} {te : TE} {k : Nat} {p1 p2 p3 pos : Pos} (he : PE X e te) : PE X (.Subscript e (.Slice none none (some (.UnaryOp .USub (.Constant (.int 1) k p1) p2)) p3) pos) (tRevT X.K te) := by
  refine ⟨fun pins s σ H Q I h => ?_⟩
  refine Subscript_ (thn (he.run pins s σ H _ I h) fun v s1 ⟨x, H1, I1, r1, q1⟩ => ?_)
  obtain ⟨a, xs, ex, hx, q⟩ := q1
  subst ex
  cases r1
  have hst : PO X (some (.UnaryOp .USub (.Constant (.int 1) k p1) p2)) (tPart (tUn (rU fun i => .int (-i)) (tC (.int 1)))) := po_some (pe_un un_neg pe_int)
  refine wpAny_Slice (thn (po_none.run pins s1 σ H1 (fun o H2 => o = none ∧ H2 = H1) I1 ⟨rfl, rfl⟩) fun vl s2 ⟨l, H2, I2, pl, el, e2⟩ => ?_)
  subst el e2
  refine thn (po_none.run pins s2 σ H2 (fun o H3 => o = none ∧ H3 = H2) I2 ⟨rfl, rfl⟩) fun vu s3 ⟨u, H3, I3, pu, eu, e3⟩ => ?_
  subst eu e3
  refine thn (hst.run pins s3 σ H3 (fun o H4 => o = some (-1) ∧ H4 = H3) I3 ⟨1, rfl, -1, rfl, rfl, rfl⟩) fun vs s4 ⟨o, H4, I4, ps, eo, e4⟩ => ?_
  subst eo e4
  have I5 : Inv X pins σ H4 { s4 with heap := s4.heap.push { cls := .type "slice", data := .fields #[vl, vu, vs] } } := I4.kept (t' := s4.toks) fun b ob q => Heap.get?_push_of_some _ q
  obtain ⟨its, r, ht, hz⟩ := I5.tuple hx
  have hlen := r.length
  cases pl
  cases pu
  show wpAny (model X.prog X.w) X.A (subscriptTail e (.Slice none none (some (.UnaryOp .USub (.Constant (.int 1) k p1) p2)) p3) (.ref a) (.ref s4.heap.objs.size)) (EP X pins σ Q) X.xe { s4 with heap := s4.heap.push { cls := .type "slice", data := .fields #[.none, .none, vs] } }
  refine tail_any (ops := [.ref a, .ref s4.heap.objs.size]) ht.typeIs (PyProof.Rows.slot_tuple_getitem.lookup) ?_ (by with_unfolding_all rfl)
  refine HT.getItem_tuple_back ht (Heap.IsSliceOf.new _ .none .none vs) ps ?_ (by rw [List.size_toArray]; omega)
  refine ⟨.ref _, _, I5.laid (t' := s4.toks) (o := .tup xs.reverse) (fun b ob q => Heap.get?_push_of_some _ q) (Nat.le_refl _) ?_, rfl, q _ (I5.hok.fresh (Nat.le_refl _))⟩
  exact ⟨by rw [List.length_reverse]; exact hz, _, r.reverse, IsTup.new _ _⟩
end
end L2
namespace Td
open PySem PySem.Spec PyProof.Rows L2
theorem all3_rev {T : Type} {R : V → T → List Addr → Prop} : ∀ {vs : List V} {as : List T}, All3 R vs as [] → All3 R vs.reverse as.reverse [] := by
  intro vs as h
  generalize eA : ([] : List Addr) = A at h
  induction h with
  | nil => exact .nil
  | @cons v a B vs as A h t ih =>
    obtain ⟨e1, e2⟩ := List.append_eq_nil_iff.mp eA.symm
    subst e1 e2
    rw [List.reverse_cons, List.reverse_cons]
    exact (ih rfl).append (.cons (B := []) h .nil)
section
variable {X : Cx} {S : Type} {F : FC X.K S} {U W Z N L R : Type} {r r1 : Rp U} {r2 : Rp W} {r3 : Rp Z} {a b e : Expr} {es : List Expr} {ta tb te : TE} {tr : TA} {G G1 G2 G3 G' : S → List Slot} {m1 : SM S U} {m2 : SM S W} {ml : SM S (List Z)} {pos p0 p2 : Pos} {argU : U → Arg} {argW : W → Arg}
/-- xs[::-1] -/
theorem ex_revL {xs : U → List Z} {k : Nat} {q1 q2 q3 : Pos} (h1 : EO X F a ta G G1 argU m1) (c : r3.Cp) (hx : ∀ a s, Rdd (G1 s) (argU a) (rList r3) (xs a)) :
    EX X F (.Subscript a (.Slice none none (some (.UnaryOp .USub (.Constant (.int 1) k q1) q2)) q3) pos) (tRevL X.K ta) G G1 (rList r3) (bnd m1 fun a => ret (xs a).reverse) :=
  ⟨pe_revL h1.pe, fun T t σ s H Q h0 q => h1.go T t σ s H _ h0 (wp_mono (wp_bnd q) (fun a s1 q1 ts x H1 at1 av => by
    obtain ⟨A1, A2, at1⟩ := at1
    obtain ⟨v, B, e1, p, vs, A, ev, hp, hA, eB⟩ := rddM (j := 0) at1 av rfl (hx a s1)
    cases e1
    have eA := cp_all c hA
    subst eA
    exact ⟨p, vs, ev, SqL.of hp, fun l hl => q1 _ _ (at1.newL av (all3_rev hA) hl)⟩) fun _ _ z => z)⟩
/-- t[::-1] of a tuple -/
theorem ex_revT {xs : U → List Z} {k : Nat} {q1 q2 q3 : Pos} (h1 : EO X F a ta G G1 argU m1) (c : r3.Cp) (hx : ∀ a s, Rdd (G1 s) (argU a) (rTupL r3) (xs a)) :
    EX X F (.Subscript a (.Slice none none (some (.UnaryOp .USub (.Constant (.int 1) k q1) q2)) q3) pos) (tRevT X.K ta) G G1 (rTupL r3) (bnd m1 fun a => ret (xs a).reverse) :=
  ⟨pe_revT h1.pe, fun T t σ s H Q h0 q => h1.go T t σ s H _ h0 (wp_mono (wp_bnd q) (fun a s1 q1 ts x H1 at1 av => by
    obtain ⟨A1, A2, at1⟩ := at1
    obtain ⟨v, B, e1, p, vs, ev, hp, hA⟩ := rddM (j := 0) at1 av rfl (hx a s1)
    cases e1
    have eA := cp_all c hA
    subst eA
    exact ⟨p, vs, ev, hp, fun l hl => q1 _ _ (at1.newT av (all3_rev hA) hl)⟩) fun _ _ z => z)⟩
/-- t[lo:hi] of a tuple -/
theorem ex_sliceT {lo hi : Option Expr} {tl th : TO} {mlo mhi : SM S (Option Int)} {xs : U → List Z} (h1 : EO X F a ta G G1 argU m1) (hl : EPa X F lo tl G1 G2 mlo) (hh : EPa X F hi th G2 G3 mhi) (c : r3.Cp) (hx : ∀ a s, Rdd (G3 s) (argU a) (rTupL r3) (xs a)) :
    EX X F (.Subscript a (.Slice lo hi none p2) pos) (tSl (rSlA X.K) ta tl th) G G3 (rTupL r3) (bnd m1 fun a => bnd mlo fun l => bnd mhi fun u => ret (cutL (xs a) l u)) :=
  ⟨pe_slice sl_tupA h1.pe hl.po hh.po, fun T t σ s H Q h0 q => by
    refine h1.go T t σ s H _ h0 (wp_mono (wp_bnd q) (fun a s1 q1 ts x H1 at1 av => ?_) fun _ _ z => z)
    refine hl.go _ _ σ s1 H1 _ at1 (wp_mono (wp_bnd q1) (fun lo' s2 q2 H2 at2 => ?_) fun _ _ z => z)
    refine hh.go _ _ σ s2 H2 _ at2 (wp_mono (wp_bnd q2) (fun u s3 q3 H3 at3 => ?_) fun _ _ z => z)
    obtain ⟨A1, A2, at3⟩ := at3
    obtain ⟨v, B, e1, p, vs, ev, hp, hA⟩ := rddM (j := 0) at3 av rfl (hx a s3)
    cases e1
    have eA := cp_all c hA
    subst eA
    refine ⟨p, vs, ev, hp, fun hw => ?_, fun _ l hl => ?_⟩
    · have ec : cutL (xs a) lo' u = xs a := by
        unfold cutL
        rw [← hA.length, hw.1, hw.2, List.drop_zero, Nat.sub_zero, hA.length, List.take_length]
      exact q3 _ H3 (at3.fin av ⟨p, vs, rfl, hp, by rw [ec]; exact hA⟩)
    · obtain ⟨A', hA', sub⟩ := all3_cut hA lo' u
      have eA' := cp_all c hA'
      subst eA'
      exact q3 _ _ (at3.newT av hA' hl)⟩
/-- *t in a list's display, t a tuple -/
theorem el_starT {p : Pos} {xs : W → List Z} (h1 : EO X F e te G G1 argW m2) (c : r3.Cp) (hx : ∀ a s, Rdd (G1 s) (argW a) (rTupL r3) (xs a)) (h2 : EL X F es tr G1 G2 r3 ml) (hs : starEach (.Starred e p :: es) X.env = (true, eval e X.env) :: starEach es X.env := by rfl) :
    EL X F (.Starred e p :: es) (StX.tStar X.K te tr) G G2 r3 (bnd m2 fun a => bnd ml fun l => ret (xs a ++ l)) :=
  ⟨StX.pa_star h1.pe h2.pa hs, fun T t σ s H Q h q => by
    refine h1.go T t σ s H _ h (wp_mono (wp_bnd q) (fun a s1 q1 ts v H1 at1 av => ?_) fun _ _ z => z)
    obtain ⟨A1, A2, at1⟩ := at1
    obtain ⟨v', B, e1, p, vs, ev, hp, hA⟩ := rddM (j := 0) at1 av rfl (hx a s1)
    cases e1
    have eA := cp_all c hA
    subst eA
    refine ⟨p, vs, ev, .inl hp, ?_⟩
    have at2 := at1.pushAll hA rfl
    have at3 : At F (pend r3 (xs a) ++ T) (vs.reverse ++ t) (G1 s1) σ H1 := At.dropM (by rw [List.length_reverse, pend_len, hA.length]) (by simp [(argV_len av).2]) ⟨A1, A2, at2⟩
    refine h2.go _ _ σ s1 H1 _ at3 (wp_mono (wp_bnd q1) (fun l s2 q2 ws H2 at4 hl => ?_) fun _ _ z => z)
    exact q2 (vs ++ ws) H2 (by simpa [pend] using at4) (by simp [hl, hA.length])⟩
end
end Td

set_option Elab.async false
set_option linter.all false
set_option maxRecDepth 100000
set_option maxHeartbeats 4000000
namespace L2
open PySem PySem.Spec PyProof.Rows
/-- the values at the places is -/
def permL {α : Type} (is : List Nat) (xs : List α) : List α := is.filterMap (xs[·]?)
theorem permL_cons {α : Type} (i : Nat) (is : List Nat) (xs : List α) : permL (i :: is) xs = (match xs[i]? with | some x => x :: permL is xs | none => permL is xs) := by
  unfold permL
  rw [List.filterMap_cons]
  cases xs[i]? <;> rfl
theorem vals_get : ∀ {vs : List V} {us : List Value}, Vals vs us → ∀ i : Nat, (∃ v u, vs[i]? = some v ∧ us[i]? = some u ∧ RelV v u) ∨ (vs[i]? = none ∧ us[i]? = none)
  | _, _, .nil, i => .inr ⟨rfl, rfl⟩
  | _, _, .cons r t, 0 => .inl ⟨_, _, rfl, rfl, r⟩
  | _, _, .cons r t, i + 1 => by simpa using vals_get t i
theorem vals_perm {vs : List V} {us : List Value} (r : Vals vs us) : ∀ is : List Nat, Vals (permL is vs) (permL is us)
  | [] => .nil
  | i :: is => by
    rw [permL_cons, permL_cons]
    rcases vals_get r i with ⟨v, u, e1, e2, rv⟩ | ⟨e1, e2⟩
    · rw [e1, e2]; exact .cons rv (vals_perm r is)
    · rw [e1, e2]; exact vals_perm r is
section
variable {K : PySem.W.Frag} {x qual : Str} {params : Arguments} {body : List Stmt} {scope : Scope} {kws : List (Str × V)} {f : Addr} {fd : FuncData} {ps : List Str}
/-- no defaults: n values, then keywords ks, bound at the places is -/
theorem FunD.kbP (F : FunD K x qual params body scope [] kws f fd) (n : Nat) (ks : List Str) (is : List Nat)
    (h : ∀ (kV doc pm : Value) (an : Option Addr) (cdv ct : Value) (us ws : List Value), us.length = n → ws.length = ks.length → bindArgs (PySem.W.fnOf x qual params body scope .none kV doc pm an cdv ct) ⟨us, ks.zip ws⟩ = pure (ps.zip (permL is (us ++ ws)))) :
    KBn K fd ps n ks (fun us ws => permL is (us ++ ws)) (fun vs zs => permL is (vs ++ zs)) := by
  obtain ⟨oc, od, dV, kV, doc, pm, an, cdv, ct, osl, rfl, lk, hcd, hD, hK⟩ := F.ex
  rcases hD with ⟨_, rfl⟩ | ⟨e, _⟩
  · exact ⟨fun s us ws _ l1 l2 => .of_eq (h kV doc pm an cdv ct us ws l1 l2), fun r1 r2 => vals_perm (r1.append r2) is⟩
  · exact absurd rfl e
end
section
variable {X : Cx} {CX : CXT} {k n : Nat} {f : Addr} {fd : FuncData} {ps ks : List Str} {sp : Sp} {E : XK} {x : Str} {p pos : Pos} {kws : List Keyword} {tk : TA} {g : List Value → List Value → List Value} {gV : List V → List V → List V}
/-- f(k = v, ..) -/
theorem pe_callN0 (F : FnOk X.prog X.w X.K X.mg X.base CX k f fd ps sp) (hr : Room k X.A) (hg : Gl X x) (hm : X.mg x = some (.ref f)) (hk : PySem.W.keepIn X.K (.ref f) = true) (hb : KBn X.K fd ps 0 ks g gV) (hx : Passes CX X E)
    (hkw : PK X kws tk) (hall : (backToKw pos (keywordEach kws X.env)).all (·.1.isSome) = true := by rfl) (hks : (backToKw pos (keywordEach kws X.env)).filterMap (·.1) = ks := by rfl)
    (hdb : (x == ("__debug__" : Str)) = false := by decide)
    (hpl : ((backTo pos (starEach [] X.env)).any (·.1) || (backToKw pos (keywordEach kws X.env)).any (·.1.isNone)) = false := by rfl) :
    PE X (.Call (.Name x p) [] kws pos) (tCallN 0 ks.length sp gV E tNil tk) := by
  refine ⟨fun pins s σ H Q I h => ?_⟩
  refine wpAny_Call_Name_kw (ld_glob I hg hm ?_ hdb)
  refine PySem.W.callWith_KW0 (h₀ := X.base) I.ok.mod.kin hk hall ?_ hpl
  refine thn (hkw.run pos pins s σ H _ I h) fun ws s2 ⟨zs, H2, I2, rz, l1, l2, q2⟩ => ⟨I2.kIn, ?_⟩
  rw [hks]
  exact run_fnN (us := []) (vs := []) F hr hb hx I2 .nil rz rfl l2 q2
end
end L2
namespace Td
open PySem PySem.Spec PyProof.Rows L2
theorem atS_get {K : PySem.W.Frag} {M : List Addr} {H : Hp} : ∀ {G : List Slot} {xs : List (Option V)} {A : List Addr}, AtS K M H G xs A → A = [] → ∀ i : Nat, (∃ g x, G[i]? = some g ∧ xs[i]? = some x ∧ g.ok K M H x []) ∨ (G[i]? = none ∧ xs[i]? = none)
  | _, _, _, .nil, _, i => .inr ⟨rfl, rfl⟩
  | _, _, _, .cons h t, eA, 0 => by
    obtain ⟨e1, e2⟩ := List.append_eq_nil_iff.mp eA
    subst e1
    exact .inl ⟨_, _, rfl, rfl, h⟩
  | _, _, _, .cons h t, eA, i + 1 => by
    obtain ⟨e1, e2⟩ := List.append_eq_nil_iff.mp eA
    simpa using atS_get t e2 i
theorem atS_perm {K : PySem.W.Frag} {M : List Addr} {H : Hp} {G : List Slot} {xs : List (Option V)} (h : AtS K M H G xs []) : ∀ is : List Nat, AtS K M H (is.filterMap (G[·]?)) (permL is xs) []
  | [] => .nil
  | i :: is => by
    rw [permL_cons, List.filterMap_cons]
    rcases atS_get h rfl i with ⟨g, x, e1, e2, k⟩ | ⟨e1, e2⟩
    · rw [e1, e2]; exact .cons (B := []) k (atS_perm h is)
    · rw [e1, e2]; exact atS_perm h is
theorem permL_map {α β : Type} (f : α → β) (xs : List α) : ∀ is : List Nat, permL is (xs.map f) = (permL is xs).map f
  | [] => rfl
  | i :: is => by
    rw [permL_cons, permL_cons, List.getElem?_map, permL_map f xs is]
    cases xs[i]? <;> rfl
/-- keywords' values -/
structure EK (X : Cx) {S : Type} (F : FC X.K S) {U : Type} (kws : List Keyword) (ta : TA) (G G' : S → List Slot) (L : U → List Arg) (m : SM S U) : Prop where
  pk : PK X kws ta
  go : GA F ta G G' L m
section
variable {X : Cx} {S : Type} {F : FC X.K S} {U W : Type} {e : Expr} {kws : List Keyword} {te : TE} {tr : TA} {G G1 G2 : S → List Slot} {m1 : SM S U} {m2 : SM S W} {arg : U → Arg} {L : W → List Arg} {nm : Option Str} {kp : Pos}
theorem ek_nil : EK X F [] tNil G G (fun _ : Unit => []) (ret ()) := ⟨pk_nil, ga_nil⟩
theorem ek_cons (h1 : EO X F e te G G1 arg m1) (h2 : EK X F kws tr G1 G2 L m2) :
    EK X F (⟨nm, e, kp⟩ :: kws) (tCons te tr) G G2 (fun p : U × W => arg p.1 :: L p.2) (bnd m1 fun a => bnd m2 fun b => ret (a, b)) :=
  ⟨pk_cons h1.pe h2.pk, fun T t σ s H Q h q => by
    refine h1.go T t σ s H _ h (wp_mono (wp_bnd q) (fun a s1 q1 ts v H1 at1 av1 => ?_) fun _ _ z => z)
    refine h2.go _ _ σ s1 H1 _ at1 (wp_mono (wp_bnd q1) (fun b s2 q2 us ws H2 at2 av2 => ?_) fun _ _ z => z)
    refine q2 (ts ++ us) (v :: ws) H2 ?_ (argV_cons av1 av2)
    rw [tmps_cons]
    simpa using at2⟩
end
section
variable {K : PySem.W.Frag} {S : Type} {F : FC K S} {σ : L2.St}
theorem argV_app {σ : L2.St} : ∀ {L1 L2 : List Arg} {ts us vs ws : List V}, ArgV σ L1 ts vs → ArgV σ L2 us ws → ArgV σ (L1 ++ L2) (ts ++ us) (vs ++ ws)
  | _, _, _, _, _, _, .nil, h => h
  | _, _, _, _, _, _, .t h, h2 => .t (argV_app h h2)
  | _, _, _, _, _, _, .v e h, h2 => .v e (argV_app h h2)
  | _, _, _, _, _, _, .u h, h2 => .u (argV_app h h2)
theorem tmps_app : ∀ L1 L2 : List Arg, tmps (L1 ++ L2) = tmps L1 ++ tmps L2
  | [], _ => rfl
  | .t g :: L1, L2 => by show g :: tmps (L1 ++ L2) = _; rw [tmps_app]; rfl
  | .v i :: L1, L2 => tmps_app L1 L2
  | .u i :: L1, L2 => tmps_app L1 L2
def tCallNS (n m : Nat) (sp : Sp) (gV : List V → List V → List V) (E : L2.St → XK) (t tk : TA) : TE := fun σ H Q => t σ H fun vs H1 => tk σ H1 fun zs H2 => vs.length = n ∧ zs.length = m ∧ sp (gV vs zs) H2 Q (E σ)
/-- positional values, then keywords' values -/
theorem go_callK {U W A B : Type} {n m0 nn : Nat} {is : List Nat} {Ps Pe : U → List Slot} {r : Rp W} {f : U → SM Unit W} {fa : A → B → SM Unit W} {E : L2.St → XK} {ta tk : TA} {G G1 G' : S → List Slot} {LA : A → List Arg} {LB : B → List Arg} {mA : SM S A} {mB : SM S B} (u : A → B → U) (hf : ∀ a b, fa a b = f (u a b)) (h : GA F ta G G1 LA mA) (hk : GA F tk G1 G' LB mB)
    (hn : ∀ a, (LA a).length = n) (hm : ∀ b, (LB b).length = m0) (hl : ∀ u, (Ps u).length = nn) (hp : ∀ u, (is.filterMap ((Pe u)[·]?)) = Ps u)
    (he : (r.Clo ∧ ∀ a b s, Ent (G' s) (LA a ++ LB b) (Pe (u a b))) ∨ ∀ a b s, EntS (G' s) (LA a ++ LB b) (Pe (u a b))) (hW : ∀ c d σ H, F.W c d σ H → E σ c d H) (hw : ∀ s, Weak (G' s) (F.io s)) :
    GE F (tCallNS n m0 (SpP K nn Ps r f) (fun vs zs => permL is (vs ++ zs)) E ta tk) G G' r (bnd mA fun a => bnd mB fun b => lft (fa a b)) := by
  intro T t σ s H Q h0 q
  have ef : fa = fun a b => f (u a b) := by funext a b; exact hf a b
  subst ef
  refine h T t σ s H _ h0 (wp_mono (wp_bnd q) (fun a s1 q1 ts vs H1 at1 av => ?_) fun _ _ z => z)
  refine hk _ _ σ s1 H1 _ at1 (wp_mono (wp_bnd q1) (fun b s2 q2 us zs H2 at2 av2 => ?_) fun _ _ z => z)
  refine ⟨by rw [(argV_len av).1, hn], by rw [(argV_len av2).1, hm], ?_⟩
  have q3 := wp_lft q2
  have av3 := argV_app av av2
  have at3' : At F ((tmps (LA a ++ LB b)).reverse ++ T) ((ts ++ us).reverse ++ t) (G' s2) σ H2 := by
    rw [tmps_app]
    simpa using at2
  obtain ⟨A1, A2, at3⟩ := at3'
  have run : ∀ (M0 : List Addr), (∀ p, p ∈ M0 → ∃ o, H2 p = some o ∧ isTup o = false) → AtS K M0 H2 (Pe (u a b)) ((vs ++ zs).map some) [] → (r.Clo ∨ ∀ p, p ∈ A1 ++ A2 ++ F.M0 → p ∈ M0) → SpP K nn Ps r f (permL is (vs ++ zs)) H2 Q (E σ) := by
    intro M0 hM0 hat hor
    have hat1 := atS_perm hat is
    rw [hp, permL_map] at hat1
    have lv : (permL is (vs ++ zs)).length = nn := by
      have := hat1.length
      rw [List.length_map, hl] at this
      exact this
    have hat2 : AtS K ([] ++ [] ++ (FC.c (K := K) (S := Unit) H2 [] M0).M0) H2 (Ps (u a b)) ((permL is (vs ++ zs)).map some) [] := hat1
    refine ⟨u a b, (), [], M0, lv, ⟨[], [], .nil, hat2, good_c hM0⟩, wp_mono q3 (fun b _ q4 v H' hx => ?_) (fun e _ q4 d H' hx => ?_)⟩
    · have z := At.back at3 hx hor
      exact q4 v H' (At.dropU (by rw [List.length_reverse, List.length_reverse, (argV_len av3).2]) z)
    · have z := At.back at3 hx (.inl clo_xd)
      have z2 := (At.dropU (by rw [List.length_reverse, List.length_reverse, (argV_len av3).2]) z).weak (hw s2)
      refine hW _ _ σ _ (q4 d H' ?_)
      exact At.dropM (T0 := [_]) (t0 := [.ref d]) (T := []) (t := []) rfl (T1 := T) (t1 := t) (by obtain ⟨B1, B2, hz⟩ := h0; have := hz.tmp.length; simpa using this) (by simpa using z2)
  rcases he with ⟨c, he⟩ | he
  · exact run [] (fun _ z => by cases z) (ent_at at3 av3 (he a b s2)) (.inl c)
  · exact run (A1 ++ A2 ++ F.M0) at3.m_trk (entS_at at3 av3 (he a b s2)) (.inr fun _ z => z)
end
section
variable {X : Cx} {S : Type} {F : FC X.K S} {U W A B : Type} {n nn k : Nat} {is : List Nat} {Ps Pe : U → List Slot} {r : Rp W} {f : U → SM Unit W} {E : XK} {ta tk : TA} {G G1 G' : S → List Slot} {LA : A → List Arg} {LB : B → List Arg} {mA : SM S A} {mB : SM S B} {CX : CXT} {fA : Addr} {fd : FuncData} {ps ks : List Str} {x : Str} {p pos : Pos} {e : Expr} {es : List Expr} {kws : List Keyword} {g : List Value → List Value → List Value}
/-- f(e, .., k = v, ..) -/
theorem ex_callK {fm : A → B → SM Unit W} (u : A → B → U) (FO : FnOk X.prog X.w X.K X.mg X.base CX k fA fd ps (SpP X.K nn Ps r f)) (hr : Room k X.A) (hg : Gl X x) (hm : X.mg x = some (.ref fA)) (hk : PySem.W.keepIn X.K (.ref fA) = true) (hb : KBn X.K fd ps n ks g (fun vs zs => permL is (vs ++ zs))) (hx : Passes CX X E)
    (h : EA X F (e :: es) ta G G1 LA mA) (h2 : EK X F kws tk G1 G' LB mB) (hn : ∀ a, (LA a).length = n) (hn2 : ∀ b, (LB b).length = ks.length) (hl : ∀ u, (Ps u).length = nn) (hp : ∀ u, (is.filterMap ((Pe u)[·]?)) = Ps u)
    (he : (r.Clo ∧ ∀ a b s, Ent (G' s) (LA a ++ LB b) (Pe (u a b))) ∨ ∀ a b s, EntS (G' s) (LA a ++ LB b) (Pe (u a b))) (hW : ∀ c d σ H, F.W c d σ H → E c d H) (hw : ∀ s, Weak (G' s) (F.io s))
    (hf : ∀ a b, fm a b = f (u a b) := by intros; rfl)
    (hall : (backToKw pos (keywordEach kws X.env)).all (·.1.isSome) = true := by rfl) (hks : (backToKw pos (keywordEach kws X.env)).filterMap (·.1) = ks := by rfl)
    (hst : PySem.W.isStarred e = false := by rfl) (hpl : ((backTo pos (starEach (e :: es) X.env)).any (·.1) || (backToKw pos (keywordEach kws X.env)).any (·.1.isNone)) = false := by rfl) (hdb : (x == ("__debug__" : Str)) = false := by decide) :
    EX X F (.Call (.Name x p) (e :: es) kws pos) (tCallN n ks.length (SpP X.K nn Ps r f) (fun vs zs => permL is (vs ++ zs)) E ta tk) G G' r (bnd mA fun a => bnd mB fun b => lft (fm a b)) :=
  ⟨pe_callN FO hr hg hm hk hb hx h.pa h2.pk hall hks hdb (star1 hst) hpl, go_callK (E := fun _ => E) u hf h.go h2.go hn hn2 hl hp he hW hw⟩
/-- f(k = v, ..) -/
theorem ex_callK0 {fm : B → SM Unit W} (u : B → U) (FO : FnOk X.prog X.w X.K X.mg X.base CX k fA fd ps (SpP X.K nn Ps r f)) (hr : Room k X.A) (hg : Gl X x) (hm : X.mg x = some (.ref fA)) (hk : PySem.W.keepIn X.K (.ref fA) = true) (hb : KBn X.K fd ps 0 ks g (fun vs zs => permL is (vs ++ zs))) (hx : Passes CX X E)
    (h2 : EK X F kws tk G G' LB mB) (hn2 : ∀ b, (LB b).length = ks.length) (hl : ∀ u, (Ps u).length = nn) (hp : ∀ u, (is.filterMap ((Pe u)[·]?)) = Ps u)
    (he : (r.Clo ∧ ∀ b s, Ent (G' s) (LB b) (Pe (u b))) ∨ ∀ b s, EntS (G' s) (LB b) (Pe (u b))) (hW : ∀ c d σ H, F.W c d σ H → E c d H) (hw : ∀ s, Weak (G' s) (F.io s))
    (hf : ∀ b, fm b = f (u b) := by intros; rfl)
    (hall : (backToKw pos (keywordEach kws X.env)).all (·.1.isSome) = true := by rfl) (hks : (backToKw pos (keywordEach kws X.env)).filterMap (·.1) = ks := by rfl)
    (hpl : ((backTo pos (starEach [] X.env)).any (·.1) || (backToKw pos (keywordEach kws X.env)).any (·.1.isNone)) = false := by rfl) (hdb : (x == ("__debug__" : Str)) = false := by decide) :
    EX X F (.Call (.Name x p) [] kws pos) (tCallN 0 ks.length (SpP X.K nn Ps r f) (fun vs zs => permL is (vs ++ zs)) E tNil tk) G G' r (bnd mB fun b => lft (fm b)) :=
  ⟨pe_callN0 FO hr hg hm hk hb hx h2.pk hall hks hdb hpl, go_callK (E := fun _ => E) (U := U) (LA := fun _ : Unit => []) (mA := ret ()) (fun _ b => u b) (fun _ b => hf b) ga_nil h2.go (fun _ => rfl) hn2 hl hp (he.imp (fun z => ⟨z.1, fun _ b s => z.2 b s⟩) fun z _ b s => z b s) hW hw⟩
end
end Td

set_option Elab.async false
set_option linter.all false
set_option maxRecDepth 100000
set_option maxHeartbeats 4000000
namespace Td
open PySem PySem.Spec PyProof.Rows L2 SlX
section
variable {K : PySem.W.Frag} {S : Type} {F : FC K S} {T : List Slot} {t : List V} {G : S → List Slot} {σ : L2.St} {H : Hp}
/-- a promise run at values in hand; what is raised goes on -/
theorem run_spE {U W : Type} {n : Nat} {Ps : U → List Slot} {r : Rp W} {f : U → SM Unit W} {E : XK} {L : List Arg} {ts vs : List V} {u : U} {A1 A2 : List Addr} {Q : VK} {s : S} (at1 : AtP F ((tmps L).reverse ++ T) (ts.reverse ++ t) (G s) σ H A1 A2) (av : ArgV σ L ts vs) (hn : L.length = n) (ht : t.length = T.length)
    (he : (r.Clo ∧ Ent (G s) L (Ps u)) ∨ EntS (G s) L (Ps u)) (hW : ∀ c d H, F.W c d σ H → E c d H) (hw : Weak (G s) (F.io s))
    (q : (f u ()).wp (fun b _ => ∀ v H', At F (.is r b :: T) (v :: t) (G s) σ H' → Q v H') (fun e _ => XP F σ e s)) : SpP K n Ps r f vs H Q E := by
  have run : ∀ (M0 : List Addr), (∀ p, p ∈ M0 → ∃ o, H p = some o ∧ isTup o = false) → AtS K M0 H (Ps u) (vs.map some) [] → (r.Clo ∨ ∀ p, p ∈ A1 ++ A2 ++ F.M0 → p ∈ M0) → SpP K n Ps r f vs H Q E := by
    intro M0 hM0 hat hor
    have hat2 : AtS K ([] ++ [] ++ (FC.c (K := K) (S := Unit) H [] M0).M0) H (Ps u) (vs.map some) [] := hat
    refine ⟨u, (), [], M0, by rw [(argV_len av).1, hn], ⟨[], [], .nil, hat2, good_c hM0⟩, wp_mono q (fun b _ q3 v H' hx => ?_) (fun e _ q3 d H' hx => ?_)⟩
    · have z := At.back at1 hx hor
      exact q3 v H' (At.dropU (by simp [(argV_len av).2]) z)
    · have z := At.back at1 hx (.inl clo_xd)
      have z2 := (At.dropU (by simp [(argV_len av).2]) z).weak hw
      refine hW _ _ _ (q3 d H' ?_)
      exact At.dropM (T0 := [_]) (t0 := [.ref d]) (T := []) (t := []) rfl (T1 := T) (t1 := t) (by rw [ht]) (by simpa using z2)
  rcases he with ⟨c, he⟩ | he
  · exact run [] (fun _ z => by cases z) (ent_at at1 av he) (.inl c)
  · exact run (A1 ++ A2 ++ F.M0) at1.m_trk (entS_at at1 av he) (.inr fun _ z => z)
end
section
variable {X : Cx} {S : Type} {F : FC X.K S} {U W A : Type} {e a b : Expr} {es : List Expr} {te ta tb : TE} {tA : TA} {G G1 G' : S → List Slot} {m m1 : SM S U} {m2 : SM S A} {arg argA : U → Arg} {argB : A → Arg} {tx txA : U → TapeV} {txB : A → TapeV} {pos p0 apos : Pos} {r : Rp W} {k n : Nat} {g : Addr} {fd : FuncData} {nm : Str} {ps : List Str} {E : XK}
theorem at_len {T : List Slot} {t : List V} {Gs : List Slot} {σ : L2.St} {H : Hp} (h : At F T t Gs σ H) : t.length = T.length := by
  obtain ⟨B1, B2, hz⟩ := h
  have := hz.tmp.length
  simpa using this
/-- tape.m() -/
theorem ex_meth0 {fm : U → SM Unit W} {f : TapeV → SM Unit W} {pl : Sem Bool} (tc : TapeCls X.K) (mt : Meth X.K (tapeC X.K) nm g) (FO : FnOk X.prog X.w X.K X.mg X.base (L2.CX X.prog X.w) k g fd ps (SpP X.K 1 (fun u : TapeV => [.is (sh rTape) u]) r f)) (hb : Binds X.K fd ps []) (hr : Room k X.A) (hx : Passes (L2.CX X.prog X.w) X E)
    (h : EO X F e te G G' arg m) (hxt : ∀ a s, RdS (G' s) (arg a) rTape (tx a)) (hW : ∀ c d σ H, F.W c d σ H → E c d H) (hw : ∀ s, Weak (G' s) (F.io s)) (hf : ∀ a, fm a = f (tx a) := by intro _; rfl)
    (ht : eval (.Call (.Attribute e nm apos) [] [] pos) X.env = (do
      let ov ← eval e X.env
      standAt apos.atName
      let (f, first) ← holding [ov] (getMethod ov nm pl)
      callWith pos f first (backTo pos (starEach [] X.env)) (backToKw pos (keywordEach [] X.env))) := by rfl) :
    EX X F (.Call (.Attribute e nm apos) [] [] pos) (tMethSl (tapeC X.K) (SpP X.K 1 (fun u : TapeV => [.is (sh rTape) u]) r f) E te tNil) G G' r (bnd m fun a => lft (fm a)) :=
  ⟨pe_methSl0 h.pe tc.sc mt ((FnOk.raw FO hb .nil).imp fun vs H Q E q => by rw [List.append_nil]; exact q) hr hx ht, fun T t σ s H Q h0 q => by
    have hl := at_len h0
    refine h.go T t σ s H _ h0 (wp_mono (wp_bnd q) (fun a s1 q1 ts v H1 at1 av => ?_) fun _ _ z => z)
    obtain ⟨A1, A2, at1⟩ := at1
    obtain ⟨v', e1, _, B, k1, _⟩ := rdS (j := 0) at1 av rfl (hxt a s1)
    cases e1
    obtain ⟨p, dx, w, ev, hs, _⟩ := tape_slt k1
    rw [hf a] at q1
    refine ⟨p, dx, _, ev, hs, ?_⟩
    exact run_spE at1 av rfl hl (.inr (rtape_s (hxt a s1))) (fun c d H => hW c d σ H) (hw s1) (wp_lft q1)⟩
/-- tape.m(i) -/
theorem ex_methI {mi : SM S Int} {fm : U → Int → SM Unit W} {f : TapeV × Int → SM Unit W} {pl : Sem Bool} (tc : TapeCls X.K) (mt : Meth X.K (tapeC X.K) nm g) (FO : FnOk X.prog X.w X.K X.mg X.base (L2.CX X.prog X.w) k g fd ps (SpP X.K 2 (fun u : TapeV × Int => [.is (sh rTape) u.1, .is rInt u.2]) r f)) (hb : Binds X.K fd ps []) (hr : Room k X.A) (hx : Passes (L2.CX X.prog X.w) X E)
    (h : EO X F e te G G1 arg m) (h2 : EX X F b tb G1 G' rInt mi) (hxt : ∀ a s, RdS (G' s) (arg a) rTape (tx a)) (hxt1 : ∀ a s, RdS (G1 s) (arg a) rTape (tx a)) (hW : ∀ c d σ H, F.W c d σ H → E c d H) (hw : ∀ s, Weak (G' s) (F.io s)) (hf : ∀ a i, fm a i = f (tx a, i) := by intros; rfl)
    (hst : PySem.W.isStarred b = false := by rfl) (hpl : (backTo pos (starEach [] X.env)).any (·.1) = false := by rfl)
    (ht : eval (.Call (.Attribute e nm apos) [b] [] pos) X.env = (do
      let ov ← eval e X.env
      standAt apos.atName
      let (f, first) ← holding [ov] (getMethod ov nm pl)
      callWith pos f first (backTo pos (starEach [b] X.env)) (backToKw pos (keywordEach [] X.env))) := by rfl) :
    EX X F (.Call (.Attribute e nm apos) [b] [] pos) (tMethSl (tapeC X.K) (SpP X.K 2 (fun u : TapeV × Int => [.is (sh rTape) u.1, .is rInt u.2]) r f) E te (tCons tb tNil)) G G' r (bnd m fun a => bnd mi fun i => lft (fm a i)) :=
  ⟨pe_methSl h.pe tc.sc mt ((FnOk.raw FO hb .nil).imp fun vs H Q E q => by rw [List.append_nil]; exact q) hr hx (pa_cons h2.pe pa_nil (star1 hst)) (star1 hst) hpl ht, fun T t σ s H Q h0 q => by
    have hl := at_len h0
    refine h.go T t σ s H _ h0 (wp_mono (wp_bnd q) (fun a s1 q1 ts x H1 at1 av1 => ?_) fun _ _ z => z)
    have at1' := at1
    obtain ⟨A1, A2, at1⟩ := at1
    obtain ⟨v', e1, _, B, k1, _⟩ := rdS (j := 0) at1 av1 rfl (hxt1 a s1)
    cases e1
    obtain ⟨p, dx, w, ev, hs, _⟩ := tape_slt k1
    refine ⟨p, dx, _, ev, hs, ?_⟩
    refine h2.go _ _ σ s1 H1 _ at1' (wp_mono (wp_bnd q1) (fun i s2 q2 y H2 at2 => ?_) fun _ _ z => z)
    obtain ⟨A1, A2, at2⟩ := at2
    have at3 : AtP F ((tmps [arg a, .t (.is rInt i)]).reverse ++ T) ((ts ++ [y]).reverse ++ t) (G' s2) σ H2 A1 A2 := by
      rw [tmps_cons]
      simpa [tmps] using at2
    have av2 : ArgV σ [arg a, .t (.is rInt i)] (ts ++ [y]) [x, y] := argV_cons av1 (.t .nil)
    rw [hf a i] at q2
    exact run_spE at3 av2 rfl hl (.inr (.sh (hxt a s2) (.cp cp_int (.tc cp_int) .nil))) (fun c d H => hW c d σ H) (hw s2) (wp_lft q2)⟩
/-- isinstance(tape, Tape) -/
theorem ex_isTape {q0 : Pos} (tc : TapeCls X.K) (ti : SlX.SIsi X.K (tapeC X.K)) (h : EO X F e te G G' arg m) (hxt : ∀ a s, RdS (G' s) (arg a) rTape (tx a)) (hg : Gl X "isinstance") (hm : X.mg "isinstance" = none) (hg2 : Gl X "Tape") (hm2 : X.mg "Tape" = some (.ref (tapeC X.K))) (hs : PySem.W.isStarred e = false := by rfl) :
    EX X F (.Call (.Name "isinstance" p0) [e, .Name "Tape" q0] [] pos) (tCB (rIsiSl X.K (.ref (tapeC X.K))) (tCons te (tCons (tC (.ref (tapeC X.K))) tNil))) G G' rBool (bnd m fun a => ret true) :=
  ⟨pe_callB (call_isiSl (.ref (tapeC X.K))) hg hm (by decide +kernel) (pa_cons h.pe (pa_cons (pe_glob hg2 hm2 rfl) pa_nil (star1 rfl)) (star1 hs)) (he := star1 hs), fun T t σ s H Q h0 q => h.go T t σ s H _ h0 (wp_mono (wp_bnd q) (fun a s1 q1 ts v H1 at1 av => by
    have at0 := at1
    obtain ⟨A1, A2, at1⟩ := at1
    obtain ⟨v', e1, _, B, k1, _⟩ := rdS (j := 0) at1 av rfl (hxt a s1)
    cases e1
    obtain ⟨p, dx, w, ev, hs, _⟩ := tape_slt k1
    subst ev
    refine ⟨p, tapeC X.K, dx, _, .ref (tapeC X.K), true, rfl, rfl, fun w hw => hw, hs, tc.sc, ti, by unfold PySem.W.kitOne; rw [if_pos (by simp)], q1 _ H1 (at1.fin av ⟨rfl, rfl⟩)⟩) fun _ _ z => z)⟩
/-- tape == tape -/
theorem go_eqTape {f : TapeV × TapeV → SM Unit Bool} {fm : U → A → SM Unit Bool} (h : GO F ta G G1 argA m1) (h2 : GO F tb G1 G' argB m2) (x1 : ∀ a s, RdS (G' s) (argA a) rTape (txA a)) (x2 : ∀ a s, RdS (G' s) (argB a) rTape (txB a)) (hw : ∀ s, Weak (G' s) (F.io s)) (hf : ∀ a b, fm a b = f (txA a, txB b)) :
    GE F (tOp (rOwn X.K (tapeC X.K) (SpP X.K 2 (fun u : TapeV × TapeV => [.is (sh rTape) u.1, .is (sh rTape) u.2]) rBool f) (fun _ _ _ => False)) ta tb) G G' rBool (bnd m1 fun a => bnd m2 fun b => nxc (lft (fm a b))) := fun T t σ s H Q h0 q => by
  have hl := at_len h0
  refine h T t σ s H _ h0 (wp_mono (wp_bnd q) (fun a s1 q1 ts x H1 at1 av1 => ?_) fun _ _ z => z)
  refine h2 _ _ σ s1 H1 _ at1 (wp_mono (wp_bnd q1) (fun b s2 q2 us y H2 at2 av2 => ?_) fun _ _ z => z)
  have av3 : ArgV σ [argA a, argB b] (ts ++ us) [x, y] := argV_cons av1 av2
  have at3 : At F ((tmps [argA a, argB b]).reverse ++ T) ((ts ++ us).reverse ++ t) (G' s2) σ H2 := by
    rw [tmps_cons]
    simpa using at2
  obtain ⟨A1, A2, at3⟩ := at3
  obtain ⟨v1, e1, _, B1, k1, _⟩ := rdS (j := 0) at3 av3 rfl (x1 a s2)
  obtain ⟨v2, e2, _, B2, k2, _⟩ := rdS (j := 1) at3 av3 rfl (x2 b s2)
  cases e1
  cases e2
  obtain ⟨p, dx, w, ev, hs, _⟩ := tape_slt k1
  obtain ⟨p2, dx2, w2, ev2, hs2, _⟩ := tape_slt k2
  subst ev ev2
  rw [hf a b] at q2
  refine ⟨p, dx, _, p2, tapeC X.K, dx2, _, rfl, rfl, hs, hs2, by unfold PySem.W.notFirst; simp, ?_⟩
  exact run_sp at3 av3 rfl (.sh (x1 a s2) (.sh (x2 b s2) .nil)) (wp_mono (wp_lft (wp_nxc (E' := fun _ _ => False) q2)) (fun b _ q3 v H' z => q3 v H' z) fun _ _ z => z)
theorem ex_eqTape {f : TapeV × TapeV → SM Unit Bool} {fm : U → A → SM Unit Bool} (mt : Meth X.K (tapeC X.K) "__eq__" g) (FO : FnOk X.prog X.w X.K X.mg X.base (L2.CX X.prog X.w) k g fd ps (SpP X.K 2 (fun u : TapeV × TapeV => [.is (sh rTape) u.1, .is (sh rTape) u.2]) rBool f)) (hb : Binds X.K fd ps []) (hr : Room k X.A)
    (h : EO X F a ta G G1 argA m1) (h2 : EO X F b tb G1 G' argB m2) (x1 : ∀ a s, RdS (G' s) (argA a) rTape (txA a)) (x2 : ∀ a s, RdS (G' s) (argB a) rTape (txB a)) (hw : ∀ s, Weak (G' s) (F.io s)) (hf : ∀ a b, fm a b = f (txA a, txB b) := by intros; rfl) (hm : behindInMarks .Eq b = false := by rfl) :
    EX X F (.Compare a [.Eq] [b] pos) (tOp (rOwn X.K (tapeC X.K) (SpP X.K 2 (fun u : TapeV × TapeV => [.is (sh rTape) u.1, .is (sh rTape) u.2]) rBool f) (fun _ _ _ => False)) ta tb) G G' rBool (bnd m1 fun a => bnd m2 fun b => nxc (lft (fm a b))) :=
  ⟨pe_cmpR (op_own (fun _ _ => rfl) mt.at_ mt.fn ((FnOk.raw FO hb .nil).imp fun vs H Q E q => by rw [List.append_nil]; exact q) hr (passes_nx rfl)) h.pe h2.pe hm, go_eqTape h.go h2.go x1 x2 hw hf⟩
theorem et_eqTape {f : TapeV × TapeV → SM Unit Bool} {fm : U → A → SM Unit Bool} (mt : Meth X.K (tapeC X.K) "__eq__" g) (FO : FnOk X.prog X.w X.K X.mg X.base (L2.CX X.prog X.w) k g fd ps (SpP X.K 2 (fun u : TapeV × TapeV => [.is (sh rTape) u.1, .is (sh rTape) u.2]) rBool f)) (hb : Binds X.K fd ps []) (hr : Room k X.A)
    (h : EO X F a ta G G1 argA m1) (h2 : EO X F b tb G1 G' argB m2) (x1 : ∀ a s, RdS (G' s) (argA a) rTape (txA a)) (x2 : ∀ a s, RdS (G' s) (argB a) rTape (txB a)) (hw : ∀ s, Weak (G' s) (F.io s)) (hf : ∀ a b, fm a b = f (txA a, txB b) := by intros; rfl) (hm : behindInMarks .Eq b = false := by rfl) :
    ET X F (.Compare a [.Eq] [b] pos) (tTest (tOp (rOwn X.K (tapeC X.K) (SpP X.K 2 (fun u : TapeV × TapeV => [.is (sh rTape) u.1, .is (sh rTape) u.2]) rBool f) (fun _ _ _ => False)) ta tb)) G G' (bnd m1 fun a => bnd m2 fun b => nxc (lft (fm a b))) :=
  ⟨pt_cmpR (op_own (fun _ _ => rfl) mt.at_ mt.fn ((FnOk.raw FO hb .nil).imp fun vs H Q E q => by rw [List.append_nil]; exact q) hr (passes_nx rfl)) h.pe h2.pe hm, go_test (go_eqTape h.go h2.go x1 x2 hw hf)⟩
end
end Td

set_option Elab.async false
set_option linter.all false
set_option maxRecDepth 100000
set_option maxHeartbeats 4000000
namespace Td
open PySem PySem.Spec PyProof.Rows L2
section
variable {K : PySem.W.Frag} {S : Type} {F : FC K S} {T : List Slot} {t : List V} {G : List Slot} {σ : L2.St} {H : Hp} {U W : Type}
/-- a pair's two values taken by name -/
theorem At.box {i : Nat} {r : Rp U} {q : Rp W} {a : U × W} (h : At F T t G σ H) (e : G[i]? = some (.is (rPair r q) a)) : ∃ v1 v2, At F T t (G.set i (.is (rBox v1 v2 r q) a)) σ H := by
  obtain ⟨A1, A2, h⟩ := h
  obtain ⟨x, B, P1, P2, e1, hr, eA, back⟩ := h.loc.at_ e
  obtain ⟨v, ev, p, v1, v2, B1, B2, ep, hT, k1, k2, eB⟩ := hr
  refine ⟨v1, v2, ?_⟩
  have z := back (A1 ++ A2 ++ F.M0) H (.is (rBox v1 v2 r q) a) x B (fun h _ => h) ⟨v, ev, p, B1, B2, ep, hT, k1, k2, eB⟩
  rw [set_self e1, ← eA] at z
  exact ⟨A1, A2, h.tmp, z, h.good⟩
theorem At.putB2 {i : Nat} {q : Rp U} {r : Rp W} {v1 v2 : V} {a : U} {xs : List W} (c : r.Cp) (h : At F T t G σ H) (e : G[i]? = some (.is (rBox v1 v2 q (rList r)) (a, xs))) :
    ∃ D vs M, v2 = .ref D ∧ H D = some (.lst vs) ∧ All3 (r.rel K M H) vs xs [] ∧ ∀ ys ws, (∀ M, All3 (r.rel K M H) vs xs [] → All3 (r.rel K M H) ws ys []) → At F T t (G.set i (.is (rBox v1 v2 q (rList r)) (a, ys))) σ (upd H D (.lst ws)) := by
  obtain ⟨A1, A2, h0⟩ := id h
  obtain ⟨x, B, P1, P2, ex, hok, eA, back⟩ := h0.loc.at_ e
  obtain ⟨v, ev, p, B1, B2, ep, hT, k1, ⟨D, vs, C, eD, hD, hA, eB2⟩, eB⟩ := hok
  have eC := cp_all c hA
  subst eC
  subst eB2 eB
  refine ⟨D, vs, _, eD, hD, hA, fun ys ws hw => ?_⟩
  have nd := h0.good.nd
  have hM : D ∈ A1 ++ A2 ++ F.M0 := by rw [eA]; simp
  have hn1 : D ∉ B1 := by
    rw [eA] at nd
    simp only [List.nodup_append, List.mem_append] at nd
    intro z
    have := nd.2.1.2.1.1.2.2 D z D (by simp)
    exact this rfl
  have kp : ∀ {B0 : List Addr}, D ∉ B0 → ∀ p o, H p = some o → (p ∉ A1 ++ A2 ++ F.M0 ∨ p ∈ B0 ∨ isTup o = true) → upd H D (.lst ws) p = some o := fun {B0} hB0 p o eo hp => by
    have hne : p ≠ D := by
      intro z
      subst z
      rcases hp with z | z | z
      · exact z hM
      · exact hB0 z
      · rw [hD] at eo; cases eo; cases z
    rw [upd_ne hne]; exact eo
  refine h0.chg eA ex back (fun p hp => ?_) (fun p hp => ?_) (fun p hp => ?_) ⟨v, ev, p, B1, [D], ep, sqT_keep hT (kp (B0 := []) (by simp)), q.keep k1 (kp hn1), ⟨D, ws, [], eD, upd_same, (hw _ hA).imp fun v a B hB z => r.keep z (kp fun y => by cases hB _ y), rfl⟩, rfl⟩
  · rcases List.mem_append.mp hp with hp | hp
    · exact q.trk k1 p hp
    · rcases List.mem_cons.mp hp with z | z
      · subst z; exact ⟨_, hD, rfl⟩
      · cases z
  · refine upd_ne fun z => hp ?_
    subst z
    simp
  · by_cases z : p = D
    · subst z; exact ⟨_, upd_same, rfl⟩
    · rw [upd_ne z]
      rcases List.mem_append.mp hp with hp | hp
      · exact q.trk k1 p hp
      · rcases List.mem_cons.mp hp with y | y
        · exact absurd y z
        · cases y
end
section
variable {X : Cx} {S : Type} {F : FC X.K S} {N L R U W Z A : Type} {G G1 G2 : S → List Slot} {GN : N → S → List Slot} {GL : L → S → List Slot} {r : Rp R} {r1 : Rp U} {r2 : Rp W} {q1 : Rp Z} {pos p0 p1 cpos apos : Pos} {sts rest : List Stmt} {ts tr : TS} {e e2 : Expr} {te te2 : TE}
/-- from here on the pair in slot i has its two values by name -/
theorem bx_box {a : U × W} {out : SM S (Fl N L R)} (i : Nat) (hG : ∀ s, (G s)[i]? = some (.is (rPair r1 r2) a)) (hb : ∀ v1 v2, BX X F sts ts (fun s => (G s).set i (.is (rBox v1 v2 r1 r2) a)) GN GL r out) : BX X F sts ts G GN GL r out :=
  ⟨(hb .non .non).ps, fun T t σ s H D h0 q => by
    obtain ⟨v1, v2, h1⟩ := h0.box (hG s)
    exact (hb v1 v2).go T t σ s H D h1 q⟩
/-- x[0], x[1] of such a pair -/
theorem eo_b1 {v1 v2 : V} {a : Z × W} {b : A} {x : Str} {j : Nat} (i : Nat) (hG : ∀ s, (G s)[i]? = some (.is (rBox v1 v2 q1 r2) a)) (hN : X.N[i]? = some x := by rfl) (hv : Vis X.env.scope x := by first | exact Or.inl rfl | exact Or.inr (Or.inl rfl) | exact Or.inr (Or.inr rfl))
    (hd : (x == ("__debug__" : Str)) = false := by decide) (hcd : (x == ("__classdict__" : Str)) = false := by decide) :
    EO X F (.Subscript (.Name x p0) (.Constant (.int 0) j p1) pos) (tOp (rIxT X.K) (tVar i) (tC (.int 0))) G G (fun _ : A => .u v1) (ret b) :=
  ⟨pe_ix ix_tup (pe_var hN hv hd hcd) pe_int fun _ _ => rfl, fun T t σ s H Q h q => by
    obtain ⟨A1, A2, h0⟩ := id h
    obtain ⟨x, B, e1, ⟨v, ev, p, B1, B2, ep, hT, _⟩, _⟩ := h0.loc.mem (hG s)
    subst ev
    exact ⟨v, e1, p, [v1, v2], 0, v1, ep, rfl, hT, rfl, q [] v1 H (by simpa [tmps] using h) (.u .nil)⟩⟩
theorem eo_b2 {v1 v2 : V} {a : Z × W} {b : A} {x : Str} {j : Nat} (i : Nat) (hG : ∀ s, (G s)[i]? = some (.is (rBox v1 v2 q1 r2) a)) (hN : X.N[i]? = some x := by rfl) (hv : Vis X.env.scope x := by first | exact Or.inl rfl | exact Or.inr (Or.inl rfl) | exact Or.inr (Or.inr rfl))
    (hd : (x == ("__debug__" : Str)) = false := by decide) (hcd : (x == ("__classdict__" : Str)) = false := by decide) :
    EO X F (.Subscript (.Name x p0) (.Constant (.int 1) j p1) pos) (tOp (rIxT X.K) (tVar i) (tC (.int 1))) G G (fun _ : A => .u v2) (ret b) :=
  ⟨pe_ix ix_tup (pe_var hN hv hd hcd) pe_int fun _ _ => rfl, fun T t σ s H Q h q => by
    obtain ⟨A1, A2, h0⟩ := id h
    obtain ⟨x, B, e1, ⟨v, ev, p, B1, B2, ep, hT, _⟩, _⟩ := h0.loc.mem (hG s)
    subst ev
    exact ⟨v, e1, p, [v1, v2], 1, v2, ep, rfl, hT, rfl, q [] v2 H (by simpa [tmps] using h) (.u .nil)⟩⟩
theorem en_Box {T U : Type} {v1 v2 : V} {r : Rp T} {q : Rp U} {f : T → PyData} {g : U → PyData} (h1 : Enc r f) (h2 : Enc q g) : Enc (rBox v1 v2 r q) (dP f g) := by
  rintro K M H v a B ⟨p, B1, B2, e, hT, k1, k2, _⟩
  rw [e]
  exact .tup hT (.cons (h1 k1) (.cons (h2 k2) .nil))
/-- xs.pop(i): the item and what is left -/
def popM {T : Type} (xs : List T) (i : Int) : SM S (T × List T) := bnd (grd (-(2 ^ 63) ≤ i ∧ i < 2 ^ 63)) fun _ => match ixN xs.length i with
  | some k => (match xs[k]? with
    | some y => ret (y, xs.eraseIdx k)
    | none => stk)
  | none => stk
theorem wp_popM {T : Type} {xs : List T} {i : Int} {s : S} {P : T × List T → S → Prop} {E : Exn → S → Prop} (h : (popM xs i s).wp P E) : ∃ k y, ixN xs.length i = some k ∧ xs[k]? = some y ∧ (-(2 ^ 63) ≤ i ∧ i < 2 ^ 63) ∧ P (y, xs.eraseIdx k) s := by
  obtain ⟨hi, q⟩ := wp_grd (wp_bnd h)
  cases e : ixN xs.length i with
  | none => rw [e] at q; exact q.elim
  | some k =>
    rw [e] at q
    cases e2 : xs[k]? with
    | none => simp only [e2] at q; exact q.elim
    | some y => simp only [e2] at q; exact ⟨k, y, rfl, e2, hi, q⟩
def popL {T : Type} (xs : List T) (i : Int) : SM S (List T) := bnd (popM xs i) fun p => ret p.2
theorem all3_erase {T : Type} {R' : V → T → List Addr → Prop} : ∀ {vs : List V} {as : List T} (k : Nat), All3 R' vs as [] → All3 R' (vs.eraseIdx k) (as.eraseIdx k) [] := by
  intro vs as k h
  generalize eA : ([] : List Addr) = B at h
  induction h generalizing k with
  | nil => exact .nil
  | @cons v a B vs as C h t ih =>
    obtain ⟨e1, e2⟩ := List.append_eq_nil_iff.mp eA.symm
    subst e1 e2
    cases k with
    | zero => exact t
    | succ k => exact .cons (B := []) h (ih k rfl)
theorem all3_at {T : Type} {R' : V → T → List Addr → Prop} {vs : List V} {as : List T} (h : All3 R' vs as []) {k : Nat} {y : T} (e : as[k]? = some y) : ∃ v, vs[k]? = some v ∧ R' v y [] := by
  have hk : k < vs.length := by rw [h.length]; exact (List.getElem?_eq_some_iff.mp e).1
  obtain ⟨a, B, e1, hr, sub⟩ := h.get (List.getElem?_eq_getElem hk)
  rw [e] at e1
  cases e1
  have eB : B = [] := List.eq_nil_iff_forall_not_mem.mpr fun p hp => by cases sub p hp
  subst eB
  exact ⟨_, List.getElem?_eq_getElem hk, hr⟩
/-- given[1].pop(i) -/
theorem bx_popB {epos : Pos} {v1 v2 : V} {a : Z} {xs : List U} {mi : SM S Int} {out : List U → SM S (Fl N L R)} {x : Str} {j : Nat} (i : Nat) (c : r1.Cp) (h : EX X F e te G G1 rInt mi) (hG0 : ∀ s, (G s)[i]? = some (.is (rBox v1 v2 q1 (rList r1)) (a, xs))) (hG : ∀ s, (G1 s)[i]? = some (.is (rBox v1 v2 q1 (rList r1)) (a, xs)))
    (hb : ∀ ys, BX X F rest tr (fun s => (G1 s).set i (.is (rBox v1 v2 q1 (rList r1)) (a, ys))) GN GL r (out ys))
    (hN : X.N[i]? = some x := by rfl) (hv : Vis X.env.scope x := by first | exact Or.inl rfl | exact Or.inr (Or.inl rfl) | exact Or.inr (Or.inr rfl)) (hd : (x == ("__debug__" : Str)) = false := by decide) (hcd : (x == ("__classdict__" : Str)) = false := by decide)
    (hs : PySem.W.isStarred e = false := by rfl)
    (hfew : ((backTo cpos (starEach (e :: []) X.env)).all (fun x => !x.1) && (backToKw cpos (keywordEach [] X.env)).all (fun x => x.1.isSome)
      && decide ((e :: []).length + ([] : List Keyword).length + (if ([] : List Keyword).isEmpty then 0 else 1) < 30)) = true := by rfl) (hline : (apos.endLine == cpos.line) = true := by rfl)
    (hbase : attributeBase (.Subscript (.Name x p0) (.Constant (.int 1) j p1) pos) "pop" X.env (eval (.Subscript (.Name x p0) (.Constant (.int 1) j p1) pos) X.env) = eval (.Subscript (.Name x p0) (.Constant (.int 1) j p1) pos) X.env := by rfl)
    (hsw : swapsWith (.Call (.Attribute (.Subscript (.Name x p0) (.Constant (.int 1) j p1) pos) "pop" apos) [e] [] cpos) none epos.line X.env = pure false := by rfl) :
    BX X F (.Expr (.Call (.Attribute (.Subscript (.Name x p0) (.Constant (.int 1) j p1) pos) "pop" apos) [e] [] cpos) epos :: rest) (tSeq (tDrop (tBM X.K "list" rPopAt (tOp (rIxT X.K) (tVar i) (tC (.int 1))) (tCons te tNil))) tr) G GN GL r (bnd mi fun k => bnd (popL xs k) out) :=
  ⟨pss_cons (ps_expr (pe_bm PySem.F.plainAttrs_list PySem.F.slot_list_pop PySem.F.type_list_pop mt_popAt (pe_ix ix_tup (pe_var hN hv hd hcd) pe_int fun _ _ => rfl) (pa_cons h.pe pa_nil (star1 hs)) hbase hfew hline (star1 hs) (by rfl)) hsw) (hb []).ps, fun T t σ s H D h0 q => by
    have e0 := h0
    obtain ⟨A1, A2, e0⟩ := e0
    obtain ⟨x, B, e1, ⟨v, ev, p, B1, B2, ep, hT, _, ⟨D0, vs0, C0, eD0, hD0, _⟩, _⟩, _⟩ := e0.loc.mem (hG0 s)
    subst ev
    refine ⟨v, e1, p, [v1, v2], 1, v2, ep, rfl, hT, rfl, by rw [eD0]; exact ty_lst hD0, ?_⟩
    refine h.go T t σ s H _ h0 (wp_mono (wp_bnd q) (fun k s1 q1 w H1 at1 => ?_) fun e s z => z σ)
    obtain ⟨kk, y, hk, hy, hi, q2⟩ := wp_popM (wp_bnd (wp_bnd q1))
    obtain ⟨_, _, ek, _⟩ := top_rel at1
    subst ek
    obtain ⟨D', vs, M, e2, hD, hA, k3⟩ := at1.pop.putB2 c (hG s1)
    obtain ⟨u, eu, _⟩ := all3_at hA hy
    have hlen := hA.length
    obtain ⟨hk2, _⟩ := ixN_seq hk
    exact ⟨D', vs, k, kk, u, e2, rfl, hD, hi.1, hi.2, by rw [hlen]; exact hk2, eu, (hb _).go T t σ s1 _ D (k3 _ _ fun M z => all3_erase kk z) q2⟩⟩
/-- x.pop(i) of an own list -/
theorem bx_pop {xs : List U} {mi : SM S Int} {out : List U → SM S (Fl N L R)} {x : Str} (i : Nat) (c : r1.Cp) (h : EX X F e te G G1 rInt mi) (hG0 : ∀ s, (G s)[i]? = some (.is (rList r1) xs)) (hG : ∀ s, (G1 s)[i]? = some (.is (rList r1) xs))
    (hb : ∀ ys, BX X F rest tr (fun s => (G1 s).set i (.is (rList r1) ys)) GN GL r (out ys))
    (hN : X.N[i]? = some x := by rfl) (hv : Vis X.env.scope x := by first | exact Or.inl rfl | exact Or.inr (Or.inl rfl) | exact Or.inr (Or.inr rfl)) (hd : (x == ("__debug__" : Str)) = false := by decide) (hcd : (x == ("__classdict__" : Str)) = false := by decide)
    (hs : PySem.W.isStarred e = false := by rfl)
    (hfew : ((backTo cpos (starEach (e :: []) X.env)).all (fun x => !x.1) && (backToKw cpos (keywordEach [] X.env)).all (fun x => x.1.isSome)
      && decide ((e :: []).length + ([] : List Keyword).length + (if ([] : List Keyword).isEmpty then 0 else 1) < 30)) = true := by rfl) (hline : (apos.endLine == cpos.line) = true := by rfl)
    (hsw : swapsWith (.Call (.Attribute (.Name x p0) "pop" apos) [e] [] cpos) none pos.line X.env = pure false := by rfl)
    (hbase : attributeBase (.Name x p0) "pop" X.env (eval (.Name x p0) X.env) = eval (.Name x p0) X.env := by rfl) :
    BX X F (.Expr (.Call (.Attribute (.Name x p0) "pop" apos) [e] [] cpos) pos :: rest) (tSeq (tDrop (tBM X.K "list" rPopAt (tVar i) (tCons te tNil))) tr) G GN GL r (bnd mi fun k => bnd (popL xs k) out) :=
  ⟨pss_cons (ps_expr (pe_bm PySem.F.plainAttrs_list PySem.F.slot_list_pop PySem.F.type_list_pop mt_popAt (pe_var hN hv hd hcd) (pa_cons h.pe pa_nil (star1 hs)) hbase hfew hline (star1 hs) (by rfl)) hsw) (hb []).ps, fun T t σ s H D h0 q => by
    obtain ⟨v0, M0, B0, ev0, hr0⟩ := h0.slot (hG0 s)
    obtain ⟨p0', vs0, A0, ep0, hp0, _⟩ := hr0
    subst ep0
    refine ⟨_, ev0, ty_lst hp0, ?_⟩
    refine h.go T t σ s H _ h0 (wp_mono (wp_bnd q) (fun k s1 q1 w H1 at1 => ?_) fun e s z => z σ)
    obtain ⟨kk, y, hk, hy, hi, q2⟩ := wp_popM (wp_bnd (wp_bnd q1))
    obtain ⟨_, _, ek, _⟩ := top_rel at1
    subst ek
    have at1p := at1.pop
    obtain ⟨v1, M1, B1, ev1, p1, vs1, A1, ep1, hp1, hA1, _⟩ := at1p.slot (hG s1)
    have eA := cp_all c hA1
    subst eA
    obtain ⟨D', vs, e1, hD, hl, k3⟩ := at1p.putS (ys := xs.eraseIdx kk) c (hG s1)
    rw [ev0] at e1 ev1
    cases e1
    cases ev1
    cases ep1
    rw [hD] at hp1
    cases hp1
    obtain ⟨u, eu, _⟩ := all3_at hA1 hy
    obtain ⟨hk2, _⟩ := ixN_seq hk
    exact ⟨p0', _, k, kk, u, rfl, rfl, hD, hi.1, hi.2, by rw [hl]; exact hk2, eu, (hb _).go T t σ s1 _ D (k3 _ fun M z => all3_erase kk z) q2⟩⟩
end
end Td

set_option Elab.async false
set_option linter.all false
set_option maxRecDepth 100000
set_option maxHeartbeats 4000000
namespace Td
open PySem PySem.Spec PyProof.Rows L2 StX
section
variable {K : PySem.W.Frag} {S : Type} {F : FC K S} {T : List Slot} {t : List V} {G : List Slot} {σ : L2.St} {H : Hp} {A : Type} {rx : Rp A} {xs : List A}
theorem held_pn {i : Nat} {w : V} {A1 A2 : List Addr} {U : Type} {r : Rp U} {a : U} (e : G[i]? = some (.pn w r a)) (h : AtP F T t G σ H A1 A2) : ∃ B, r.rel K (A1 ++ A2 ++ F.M0) H w a B := by
  obtain ⟨x, B, e1, ⟨_, h1⟩, _⟩ := h.loc.mem e
  exact ⟨B, h1⟩
/-- a list in a slot whose value is known -/
theorem src_pin {i : Nat} {p : Addr} (c : rx.Cp) : Src F (fun G => G[i]? = some (.pn (.ref p) (rList rx) xs)) (Itl K p) [] [] rx xs where
  len := rfl
  go := by
    intro i T1 t1 T t G σ H hC e h hi
    obtain ⟨A1, A2, h⟩ := h
    obtain ⟨B, p', vs, A, ep, hp, hA, _⟩ := held_pn hC h
    cases ep
    have hi' : i < vs.length := by rw [hA.length]; exact hi
    exact ⟨vs, vs[i], SqL.of hp, List.getElem?_eq_getElem hi'⟩
  stop := by
    intro i T1 t1 T t G σ H hC e h hi
    obtain ⟨A1, A2, h⟩ := h
    obtain ⟨B, p', vs, A, ep, hp, hA, _⟩ := held_pn hC h
    cases ep
    exact ⟨vs, SqL.of hp, by rw [hA.length]; exact hi⟩
  yld := by
    intro i a x T1 t1 T t G σ H H' hC e h hy ha
    obtain ⟨A1, A2, h⟩ := h
    obtain ⟨B, p', vs, A, ep, hp, hA, _⟩ := held_pn hC h
    cases ep
    obtain ⟨rfl, hy⟩ := hy
    obtain ⟨w, D, e1, hr, _⟩ := hA.get' ha
    have e2 := hy vs (SqL.of hp)
    rw [e1] at e2
    cases e2
    have eD := c hr
    subst eD
    exact ⟨A1, A2, h.pushM hr⟩
/-- a tuple -/
theorem src_tup {a : Addr} (c : rx.Cp) : Src F (fun _ => True) (Itt K a) [.is (rTupL rx) xs] [.ref a] rx xs where
  len := rfl
  go := by
    intro i T1 t1 T t G σ H _ e h hi
    obtain ⟨A1, A2, h⟩ := h
    obtain ⟨B, v, ev, p, vs, ep, hp, hA⟩ := held e h
    cases ev
    cases ep
    have hi' : i < vs.length := by rw [hA.length]; exact hi
    exact ⟨vs, vs[i], hp, List.getElem?_eq_getElem hi'⟩
  stop := by
    intro i T1 t1 T t G σ H _ e h hi
    obtain ⟨A1, A2, h⟩ := h
    obtain ⟨B, v, ev, p, vs, ep, hp, hA⟩ := held e h
    cases ev
    cases ep
    exact ⟨vs, hp, by rw [hA.length]; exact hi⟩
  yld := by
    intro i a x T1 t1 T t G σ H H' _ e h hy ha
    obtain ⟨A1, A2, h⟩ := h
    obtain ⟨B, v, ev, p, vs, ep, hp, hA⟩ := held e h
    cases ev
    cases ep
    obtain ⟨rfl, hy⟩ := hy
    obtain ⟨w, D, e1, hr, _⟩ := hA.get' ha
    have e2 := hy vs hp
    rw [e1] at e2
    cases e2
    have eD := c hr
    subst eD
    exact ⟨A1, A2, h.pushM hr⟩
theorem At.pin {i : Nat} {U : Type} {r : Rp U} {a : U} (h : At F T t G σ H) (e : G[i]? = some (.is r a)) : ∃ w, At F T t (G.set i (.pn w r a)) σ H := by
  obtain ⟨v, M, B, ev, hr⟩ := h.slot e
  exact ⟨v, h.repin e ev⟩
end
section
variable {X : Cx} {S : Type} {F : FC X.K S} {N L R U W Z A : Type} {G G1 G2 : S → List Slot} {GN : N → S → List Slot} {GL : L → S → List Slot} {r : Rp R} {r1 : Rp U} {r2 : Rp W} {q1 : Rp Z} {rx : Rp A} {pos p0 p1 cpos apos : Pos} {sts rest : List Stmt} {ts tr : TS} {tg e e2 : Expr} {te te2 : TE}
/-- a name that holds a pinned list is walked -/
theorem ei_pin {w : V} {xs : List A} {x : Str} (i : Nat) (hG : ∀ s, (G s)[i]? = some (.pn w (rList rx) xs)) (c : rx.Cp) (hN : X.N[i]? = some x := by rfl) (hv : Vis X.env.scope x := by first | exact Or.inl rfl | exact Or.inr (Or.inl rfl) | exact Or.inr (Or.inr rfl))
    (hd : (x == ("__debug__" : Str)) = false := by decide) (hcd : (x == ("__classdict__" : Str)) = false := by decide) : EI X F tg (.Name x p0) (iList X.K (tVar i)) G G (fun G => G[i]? = some (.pn w (rList rx) xs)) rx (ret xs) :=
  ⟨pi_list (pe_var hN hv hd hcd), fun T t σ s H R h0 q => by
    obtain ⟨A1, A2, h1⟩ := id h0
    obtain ⟨x, B, e1, ⟨ew, h2⟩, _⟩ := h1.loc.mem (hG s)
    obtain ⟨p', vs, A', ep, hp, hA, _⟩ := h2
    subst ep
    subst ew
    exact ⟨_, e1, p', rfl, ⟨vs, SqL.of hp⟩, q _ [] [] H (src_pin c) h0⟩⟩
theorem ei_tup {m : SM S (List A)} (h : EX X F e te G G1 (rTupL rx) m) (c : rx.Cp) : EI X F tg e (iTup X.K te) G G1 (fun _ => True) rx m :=
  ⟨pi_tup h.pe, fun T t σ s H R h0 q => h.go T t σ s H _ h0 (wp_mono q (fun xs s1 q1 v H1 at1 => by
    obtain ⟨M, B, p, vs, ev, hp, hD⟩ := top_rel at1
    subst ev
    exact ⟨p, rfl, ⟨vs, hp⟩, q1 _ [_] [_] H1 (src_tup c) at1⟩) fun _ _ z => z)⟩
theorem en_sh {T : Type} {r : Rp T} {f : T → PyData} (h : Enc r f) : Enc (sh r) f := by
  rintro K M H v a B ⟨_, A, k, _⟩
  exact h k
/-- while an expression is evaluated, the list in slot i has its value by name -/
theorem ex_pin {b : Z} {m : SM S U} (i : Nat) (h0 : ∀ s, (G s)[i]? = some (.is q1 b)) (h1 : ∀ s, (G1 s)[i]? = some (.is q1 b)) (h : ∀ w, EX X F e te (fun s => (G s).set i (.pn w q1 b)) (fun s => (G1 s).set i (.pn w q1 b)) r1 m) : EX X F e te G G1 r1 m :=
  ⟨(h .non).pe, fun T t σ s H Q at0 q => by
    obtain ⟨w, at1⟩ := at0.pin (h0 s)
    refine (h w).go T t σ s H Q at1 (wp_mono q (fun a s1 q1 v H1 at2 => q1 v H1 ?_) fun _ _ z => z)
    have hi : i < (G1 s1).length := (List.getElem?_eq_some_iff.mp (h1 s1)).1
    have z := (at2.unpin (i := i) (by rw [List.getElem?_set_self hi])).2
    rw [List.set_set, set_self (h1 s1)] at z
    exact z⟩
theorem bx_pin {b : Z} {out : SM S (Fl N L R)} (i : Nat) (h0 : ∀ s, (G s)[i]? = some (.is q1 b)) (h : ∀ w, BX X F sts ts (fun s => (G s).set i (.pn w q1 b)) GN GL r out) : BX X F sts ts G GN GL r out :=
  ⟨(h .non).ps, fun T t σ s H D at0 q => by
    obtain ⟨w, at1⟩ := at0.pin (h0 s)
    exact (h w).go T t σ s H D at1 q⟩
theorem bx_unpin {w : V} {b : Z} {out : SM S (Fl N L R)} (i : Nat) (h0 : ∀ s, (G s)[i]? = some (.pn w q1 b)) (h : BX X F sts ts (fun s => (G s).set i (.is q1 b)) GN GL r out) : BX X F sts ts G GN GL r out :=
  ⟨h.ps, fun T t σ s H D at0 q => h.go T t σ s H D (at0.unpin (h0 s)).2 q⟩
end
section
variable {K : PySem.W.Frag} {S : Type} {F : FC K S} {T : List Slot} {t : List V} {G : List Slot} {σ : L2.St} {H : Hp}
/-- a call with a state of its own; the other arguments may be the caller's own -/
theorem run_ioSE {S' U W : Type} {n : Nat} {rio : Rp S'} {Pr : U → List Slot} {r : Rp W} {f : U → SM S' W} {E : XK} {L : List Arg} {ts vr : List V} {w : V} {s0 : S'} {u : U} {A1' A2 C : List Addr} {Q : VK} (cio : rio.Clo) (cr : r.Clo)
    (hio : rio.rel K (A1' ++ (C ++ A2) ++ F.M0) H w s0 C) (tail : AtS K (A1' ++ (C ++ A2) ++ F.M0) H G σ A2) (at2 : AtP F ((tmps L).reverse ++ T) (ts.reverse ++ t) (.is rio s0 :: G) (some w :: σ) H A1' (C ++ A2)) (lts : ts.length = (tmps L).length) (hn : vr.length + 1 = n)
    (hent : AtS K C H (Pr u) (vr.map some) [])
    (q : (f u s0).wp (fun b s' => ∀ v H', At F (.is rio s' :: .is r b :: T) (w :: v :: t) G σ H' → Q v H') (fun e s' => ∀ d H', At F (.is rXd e.pay :: T) (.ref d :: t) G σ H' → E (.ref (He.ga K e.cls)) (some d) H')) :
    SpI K n rio Pr r f (w :: vr) H Q E := by
  have tC := rio.trk hio
  have nd := at2.good.nd
  have ndC : C.Nodup := by
    simp only [List.nodup_append] at nd
    exact nd.2.1.1
  have entry : At (FC.c (K := K) (S := S') H C []) [] [] (.pn w rio s0 :: Pr u) ((w :: vr).map some) H := by
    refine ⟨[], C ++ [], .nil, .cons ⟨rfl, cio hio⟩ (hent.grow fun p hp => .inl (by simpa [FC.c] using hp)), ⟨by simpa using ndC, fun p hp z => (by cases z), fun p hp => .inr (show p ∈ C by simpa using hp), tC, fun _ _ e _ => e, fun p hp => (by cases hp)⟩⟩
  have back : ∀ (M' : List Addr) (H' : Hp) (g' : Slot) (x' : Option V) (B' : List Addr), (∀ {g x B}, Slot.ok K (A1' ++ (C ++ A2) ++ F.M0) H g x B → (∀ p, p ∈ B → p ∈ [] ∨ p ∈ A2) → Slot.ok K M' H' g x B) → g'.ok K M' H' x' B' → AtS K M' H' ((.is rio s0 :: G).set 0 g') ((some w :: σ).set 0 x') ([] ++ (B' ++ A2)) := by
    intro M' H' g' x' B' k hg'
    show AtS K M' H' (g' :: G) (x' :: σ) (B' ++ A2)
    exact .cons hg' (tail.mapOk fun hs sub => k hs fun p hp => .inr (sub p hp))
  refine ⟨u, s0, C, _, by rw [List.length_cons, hn], entry, wp_mono q (fun b s2 q3 v H' hx => ?_) (fun e s2 q3 d H' hx => ?_)⟩
  · have z := At.backIo (j := 0) at2 (P1 := []) rfl back rfl tC hx cio (.inl cr)
    have z2 := At.dropU (by simp [lts]) z
    have z3 := (At.unpin z2 (i := 0) rfl).2
    exact q3 v H' (At.sink z3)
  · have z := At.backIo (j := 0) at2 (P1 := []) rfl back rfl tC hx cio (.inl clo_xd)
    exact q3 d H' (At.low (At.dropU (by simp [lts]) z))
theorem go_makeE {U A : Type} {n : Nat} {Pr : U → List Slot} {f : U → SM TS0 Unit} {fm : A → SM TS0 Unit} {E : XK} {ta : TA} {G G' : S → List Slot} {LA : A → List Arg} {mA : SM S A} (u : A → U) (hf : ∀ a, fm a = f (u a)) (h : GA F ta G G' LA mA) (hn : ∀ a, (LA a).length + 1 = n)
    (he : ∀ a s, Ent (G' s) (LA a) (Pr (u a))) (hW : ∀ c d σ H, F.W c d σ H → E c d H) (hw : ∀ s, Weak (G' s) (F.io s)) :
    GE F (tMakeR (tapeC K) (SpI K n rSelf Pr rNon f) E ta) G G' (sh rTape) (bnd mA fun a => bnd (subM (fm a) TS0.new) fun p => tapeM p.2) := by
  intro T t σ s H Q h0 q
  have ef : fm = fun a => f (u a) := funext hf
  subst ef
  refine h T t σ s H _ h0 (wp_mono (wp_bnd q) (fun a s1 q1 ts vs H1 at1 av => ?_) fun _ _ z => z)
  have q2 := wp_subM (wp_bnd q1)
  obtain ⟨A1, A2, at1⟩ := at1
  intro x dx hx hd ne
  have hent := ent_at at1 av (he a s1)
  obtain ⟨at2, tail, rel, k, hM⟩ := at1.alloc hx hd ne
  have hC : ∀ p, p ∈ [x, dx] → p ∈ ([] : List Addr) ∨ H1 p = none := fun p hp => by
    rcases List.mem_cons.mp hp with e | hp
    · subst e; exact .inr hx
    · rcases List.mem_cons.mp hp with e | hp
      · subst e; exact .inr hd
      · cases hp
  refine run_ioSE clo_self (fun h => h) rel tail at2 (argV_len av).2 (by rw [(argV_len av).1, hn]) ((hent.grow hC).keep fun p o e _ => k p o e) (wp_mono q2 (fun b s' q3 v H' hz => ?_) (fun e s' q3 d H' hz => ?_))
  · obtain ⟨_, _, hz0⟩ := id hz
    obtain ⟨_, _, _, _, ht0⟩ := AtS.cons_inv hz0.tmp
    obtain ⟨_, _, _, ⟨v', ev, eb, _⟩, _⟩ := AtS.cons_inv ht0
    cases ev
    subst eb
    refine ⟨rfl, ?_⟩
    cases s' with
    | new => exact q3.elim
    | half _ => exact q3.elim
    | full a =>
      have z1 : At F (.is rTape a :: .is rNon b :: T) (.ref x :: .non :: t) (G' s1) σ H' := by
        obtain ⟨C1, C2, hz⟩ := hz
        obtain ⟨B, A', eA, ⟨v', ev, hr⟩, ht⟩ := AtS.cons_inv hz.tmp
        subst eA
        exact ⟨_, C2, .cons ⟨v', ev, hr⟩ ht, hz.loc, hz.good⟩
      exact q3 _ H' (At.dropU (T1 := [_]) (t1 := [_]) rfl z1).freeze
  · refine hW _ _ σ _ (q3 d H' ?_)
    have z2 := hz.weak (hw s1)
    exact At.dropM (T0 := [_]) (t0 := [.ref d]) (T := []) (t := []) rfl (T1 := T) (t1 := t) (by obtain ⟨B1, B2, hz⟩ := h0; have := hz.tmp.length; simpa using this) (by simpa using z2)
end
section
variable {X : Cx} {S : Type} {F : FC X.K S} {U A : Type} {n k : Nat} {Pr : U → List Slot} {f : U → SM TS0 Unit} {fm : A → SM TS0 Unit} {E : XK} {ta : TA} {G G' : S → List Slot} {LA : A → List Arg} {mA : SM S A} {CX : CXT} {fA : Addr} {fd : FuncData} {ps : List Str} {x : Str} {p pos : Pos} {e : Expr} {es : List Expr}
theorem ex_makeE (u : A → U) (M : Mk X.K (tapeC X.K) fA) (FO : FnOk X.prog X.w X.K X.mg X.base CX k fA fd ps (SpI X.K n rSelf Pr rNon f)) (hr : Room (k + 1) X.A) (hg : Gl X x) (hm : X.mg x = some (.ref (tapeC X.K))) (hb : Binds X.K fd ps []) (hx : Passes CX X E)
    (h : EA X F (e :: es) ta G G' LA mA) (hn : ∀ a, (LA a).length + 1 = n) (he : ∀ a s, Ent (G' s) (LA a) (Pr (u a))) (hW : ∀ c d σ H, F.W c d σ H → E c d H) (hw : ∀ s, Weak (G' s) (F.io s)) (hf : ∀ a, fm a = f (u a) := by intro _; rfl)
    (hst : PySem.W.isStarred e = false := by rfl) (hpl : (backTo pos (starEach es X.env)).any (·.1) = false := by rfl) (hdb : (x == ("__debug__" : Str)) = false := by decide) :
    EX X F (.Call (.Name x p) (e :: es) [] pos) (tMakeR (tapeC X.K) (SpI X.K n rSelf Pr rNon f) E ta) G G' (sh rTape) (bnd mA fun a => bnd (subM (fm a) TS0.new) fun p => tapeM p.2) :=
  ⟨pe_makeR M ((FnOk.raw FO hb .nil).imp fun vs H Q E q => by rw [List.append_nil]; exact q) hr hg hm hx h.pa (hdb := hdb) (he := star1 hst) (hpl := hpl), go_makeE u hf h.go hn he hW hw⟩
end
end Td

set_option Elab.async false
set_option linter.all false
set_option maxRecDepth 100000
set_option maxHeartbeats 4000000
namespace L2
open PySem PySem.Spec PyProof.Rows
/-- a caught error that is kept: its object at a -/
def ExK (cls : Value) (d : Option Addr) (a : Addr) : HO := .ext fun h => ∃ (oe : Obj) (vs : Array Value), h.get? a = some oe ∧ Zc cls d oe ∧ oe.data = .fields vs
theorem exK_at {P : Program} {w : World} {H : Hp} {h : Heap} {a : Addr} {cls : Value} {d : Option Addr} (hok : HOk P w H h) (e : H a = some (ExK cls d a)) : ∃ (oe : Obj) (vs : Array Value), h.get? a = some oe ∧ Zc cls d oe ∧ oe.data = .fields vs := by
  have x : ObjOk P w H h a (.ext fun h => ∃ (oe : Obj) (vs : Array Value), h.get? a = some oe ∧ Zc cls d oe ∧ oe.data = .fields vs) := hok a _ e
  exact x.1
section
variable {X : Cx} {pins : List (Addr × Obj)} {σ : St} {H : Hp} {s : Shared} {a : Addr} {oe : Obj} {vs : Array Value} {cls : Value} {d : Option Addr}
/-- an object of no one becomes one of ours -/
theorem Inv.note (I : Inv X pins σ H s) (ha : s.heap.get? a = some oe) (hz : Zc cls d oe) (hd : oe.data = .fields vs) (na : H a = none) (n0 : X.s_0.heap.get? a = none) (nL : a ≠ X.env.locals) (np : ∀ p ∈ X.pn ++ pins, p.1 ≠ a) : Inv X pins σ (upd H a (ExK cls d a)) s := by
  have old : ∀ {b : Addr} {o : Obj}, X.s_0.heap.get? b = some o → b ≠ a := fun {b o} e z => by
    rw [z, n0] at e; cases e
  have hne : ∀ {b : Addr} {o : HO}, H b = some o → b ≠ a := fun {b o} e z => by
    rw [z, na] at e; cases e
  refine ⟨I.ok, I.os, I.bare, ⟨I.base.keep, I.base.slot, fun b o e n hx => ?_, I.base.there, fun b xs e => ?_, fun b o u e => ?_, fun b ps e => ?_⟩, I.loc, I.cell, ?_, fun x c e => ?_, fun p hp => ?_, fun b u e => ?_, I.len⟩
  · rw [upd_ne (old e)]; exact I.base.free b o e n hx
  · have z := I.base.tups b xs e
    rw [upd_ne (hne z)]; exact z
  · have z := I.base.frzs b o u e
    rw [upd_ne (hne z)]; exact z
  · obtain ⟨more, z⟩ := I.base.tbls b ps e
    exact ⟨more, by rw [upd_ne (hne z)]; exact z⟩
  · rw [upd_ne (Ne.symm nL)]; exact I.free
  · rw [upd_ne ?_]
    · exact I.freeC x c e
    · intro z
      obtain ⟨v, o, ho, hc⟩ := I.cell x c e
      rw [z, ha] at ho
      cases ho
      rw [hd] at hc; cases hc
  · obtain ⟨e, n, ne, nf, dd⟩ := I.pin p hp
    exact ⟨e, by rw [upd_ne (np p hp)]; exact n, ne, nf, dd⟩
  · by_cases hb : b = a
    · subst hb
      rw [upd_same] at e
      cases e
      exact ⟨⟨oe, vs, ha, hz, hd⟩, ⟨oe, ha⟩, fun _ _ ⟨o, v, q, r⟩ k => ⟨o, v, k o q, r⟩⟩
    · rw [upd_ne hb] at e
      exact (I.hok b u e).stay (fun c v _ q => q) (fun c q => by rw [upd_ne (hne q)]; exact q) fun c xs q => by rw [upd_ne (hne q)]; exact q
end
/-- what the clause 'except x as n' wishes of an error that is kept behind the suite; slot i is n's -/
def wKp (K : PySem.W.Frag) (c : Value) (i : Nat) (ts : Addr → Value → Option Addr → TS) (Wout : WX) (D : Ends) : WX := fun cls d σ H =>
  ∃ b, PySem.W.exmOne K cls c = some b ∧ (b = true → ∀ a, H a = none → ts a cls d { nx := fun σ' H' => H' a = none → D.nx (σ'.set i none) (upd H' a (ExK cls d a)), rt := fun _ _ => False, bk := fun _ _ => False, ct := fun _ _ => False } (σ.set i (some (.ref a))) H) ∧
    (b = false → Wout cls d σ H)
section
variable {X : Cx} {x n : Str} {c : Value} {i : Nat} {body suite : List Stmt} {b₀ : Stmt} {np pos pos' : Pos} {tb : WX → TS} {ts : Addr → Value → Option Addr → TS} {Wout : WX}
/-- try .. except x as n, the error kept -/
theorem ps_keep (hs : X.stack = X.env :: X.outer) (hf : X.env.frame = some X.env.locals) (hex : X.ex = []) (hN : X.N.Nodup) (hi : X.N[i]? = some n) (hln : X.env.kindOf n = some .local) (hc : Names X x c) (tk : Takes X Wout)
    (hb : ∀ (W : WX) (pn : List (Addr × Obj)) (xe : Value → Shared → Prop), Takes (X.tr pn xe) W → PassesOwn (model X.prog X.w) X.A X.env xe → PSs (X.tr pn xe) body (tb W))
    (hsu : ∀ (a : Addr) (oe : Obj) (cls : Value) (d : Option Addr) (pn : List (Addr × Obj)), PSs (X.suite a ((a, oe) :: pn)) (b₀ :: suite) (ts a cls d)) :
    PS X (.Try body [.ExceptHandler (some (.Name x np)) (some n) (b₀ :: suite) pos'] [] [] pos) (fun D σ H => tb (wKp X.K c i ts Wout D) D σ H) := by
  refine ⟨fun pins s σ H D I h => ?_⟩
  have ok := I.ok
  have hfr : X.A.frames = some (X.env :: X.outer) := by rw [ok.frames, hs]
  obtain ⟨xt, ext⟩ : ∃ xt : Value → Shared → Prop, xt = fun e s₁ => wpAny (model X.prog X.w) X.A (noteFrame e X.env) (fun _ s₂ => wpAny (model X.prog X.w) X.A (setFlight e none) (fun _ s₃ =>
    wpAny (model X.prog X.w) X.A (handleBy e X.env [.ExceptHandler (some (.Name x np)) (some n) (b₀ :: suite) pos']) (SP X pins D) X.xe s₃) X.xe s₂) X.xe s₁ := ⟨_, rfl⟩
  have caught : Takes (X.tr (X.pn ++ pins) xt) (wKp X.K c i ts Wout D) := by
    intro u s' ⟨a, B, sI, pins', σ', H', cls, d, eu, J', nb, up, sky, na, os, ag, b, hb1, hyes, hno⟩
    subst eu ext
    have J : Inv X pins σ' H' sI := J'.ofTry ok
    rw [show (X.tr (X.pn ++ pins) _).stack = X.env :: X.outer from hs] at sky
    show wpAny (model X.prog X.w) X.A (noteFrame (.ref a) X.env) _ _ _
    refine Sky.land Zc.steady hfr hf sky fun h3 fl3 up3 => ?_
    obtain ⟨oe3, vs3, he3, hz3, hd3⟩ := fl3.there
    have nfr : a ∉ frs (X.env :: X.outer) := fun hm => by
      obtain ⟨_, o', e', hnf⟩ := fl3.2.2.1.mem hm
      rw [he3] at e'; cases e'
      exact hnf _ hd3
    have nL : a ≠ X.env.locals := fun z => nfr (List.mem_filterMap.mpr ⟨X.env, List.mem_cons_self, by rw [hf, z]⟩)
    have nF : a ∉ X.fs := fun hm => by
      obtain ⟨e, he, q⟩ := List.mem_filterMap.mp hm
      exact nfr (List.mem_filterMap.mpr ⟨e, List.mem_cons_of_mem _ he, q⟩)
    have nI : sI.heap.get? a = none := by
      cases e : sI.heap.get? a with
      | none => rfl
      | some o =>
        have z := nb a o e (by rw [show (X.tr (X.pn ++ pins) _).stack = X.env :: X.outer from hs]; exact nfr)
        rw [fl3.2.1] at z; cases z
    have n0 : X.s_0.heap.get? a = none := by
      cases e : X.s_0.heap.get? a with
      | none => rfl
      | some o =>
        obtain ⟨o', z⟩ := J.base.there a o e (by rw [hex]; exact fun z => nomatch z)
        rw [nI] at z; cases z
    have np' : ∀ p ∈ X.pn ++ pins, p.1 ≠ a := fun p hp z => by
      obtain ⟨e, _⟩ := J.pin p hp
      rw [z, nI] at e; cases e
    have down : ∀ h4, HandSPX.FlyingZ B (X.env :: X.outer) a (Zc cls d) h4 → sI.heap.UpToSlots h4 → ∃ oe vs, Zc cls d oe ∧ oe.data = .fields vs ∧ Inv (X.suite a ((a, oe) :: (X.pn ++ pins))) [] σ' H' { s' with heap := h4 } := fun h4 fl4 up4 => by
      obtain ⟨oe, vs, he, hz, hd⟩ := fl4.there
      exact ⟨oe, vs, hz, hd, (J.landed (s' := { s' with heap := h4 }) nb fl4.1 up4 os ag).suite he hd na nL nF⟩
    have J3 : Inv X pins σ' H' { s' with heap := h3 } := J.landed nb fl3.1 (up.trans up3) os ag
    obtain ⟨oe, vs, hz, hd, S3⟩ := down h3 fl3 (up.trans up3)
    refine wpAny_handleBy_cons (codeAny_handlers_test ?_) (by intro q; cases q)
    have LT : PySem.W.Looks (model X.prog X.w) h3 (typeOf (.ref a)) cls := fun A Q E s k q => wpAny_typeOf_ref (k _ _ he3) (by rw [hz3.1]; exact q)
    have LM := PySem.W.exm_one (M := model X.prog X.w) (J3.kIn) LT hb1
    have test : ∀ {Q : Value → Shared → Prop} {E : Value → Shared → Prop}, Q c { s' with heap := h3 } → wpAny (model X.prog X.w) (X.A.mark (some (.ref a))) (eval (.Name x np) X.env) Q E { s' with heap := h3 } := fun {Q E} q => by
      obtain ⟨hg, hdbg, hm | ⟨hm, hv, hnn⟩⟩ := hc
      · exact ld_glob (X := X.suite a ((a, oe) :: (X.pn ++ pins))) S3 hg hm q hdbg
      · exact ld_blt (X := X.suite a ((a, oe) :: (X.pn ++ pins))) S3 hg hm hv q hnn hdbg
    refine test (LM.here ?_)
    cases b with
    | true =>
      refine codeAny_handlers_suite_as (HandSPX.lands_againZ fl3 fun h4 fl4 up4 => ?_)
      obtain ⟨oe, vs, hz, hd, S4⟩ := down h4 fl4 ((up.trans up3).trans up4)
      refine store_ok (X := X.suite a ((a, oe) :: (X.pn ++ pins))) (v := .ref a) S4 hN hi (.inl hln) rfl (fun s5 S5 => ?_) (.inr hln)
      refine wpAny_mono ((hsu a oe cls d (X.pn ++ pins)).run [] s5 _ H' _ S5 (hyes rfl a na)) (fun f s6 hsp => ?_) (fun _ _ z => False.elim z)
      cases f with
      | next =>
        obtain ⟨σ6, H6, S6, q6⟩ := hsp
        obtain ⟨_, na6, _⟩ := S6.pin (a, oe) (List.mem_append_left _ List.mem_cons_self)
        have T6 : Inv X ((a, oe) :: pins) σ6 H6 s6 := ⟨ok, S6.os, S6.bare, S6.base, S6.loc, S6.cell, S6.free, S6.freeC, fun p hp => S6.pin p (by
          simp only [List.mem_append, List.mem_cons, List.append_nil] at *
          rcases hp with z | z | z
          · exact .inr (.inl z)
          · exact .inl z
          · exact .inr (.inr z)), S6.hok, S6.len⟩
        refine gone_ok T6 hN hi hln fun s7 J7 => ?_
        obtain ⟨e7, na7, _⟩ := J7.pin (a, oe) (List.mem_append_right _ List.mem_cons_self)
        have T7 : Inv X pins (σ6.set i none) H6 s7 := ⟨ok, J7.os, J7.bare, J7.base, J7.loc, J7.cell, J7.free, J7.freeC, fun p hp => J7.pin p (by
          simp only [List.mem_append, List.mem_cons] at *
          exact hp.imp id .inr), J7.hok, J7.len⟩
        exact ⟨_, _, T7.note e7 hz hd na7 n0 nL np', q6 na6⟩
      | brk =>
        obtain ⟨_, _, _, q6⟩ := hsp
        exact q6.elim
      | cont =>
        obtain ⟨_, _, _, q6⟩ := hsp
        exact q6.elim
      | ret u =>
        obtain ⟨_, _, _, _, _, q6⟩ := hsp
        exact q6.elim
    | false =>
      show wpAny _ X.A (handleBy (.ref a) X.env []) _ _ _
      refine wpAny_handleBy_nil ?_
      obtain ⟨_, _, _, oe, vs, T, _, _, he, _, hd, h1, _⟩ := id fl3
      have fin : wpAny (model X.prog X.w) X.A (setFlight (.ref a) X.env.frame) (fun _ s4 => wpAny (model X.prog X.w) X.A (throw (.ref a) : Sem Flow) (SP X pins D) X.xe s4) X.xe { s' with heap := h3 } := by
        rw [hf]
        exact HandSPX.setFlight_upZ fl3 fun h4 hh4 up4 => wpAny_throw (tk _ _ ⟨a, B, sI, pins, σ', H', cls, d, rfl, J, nb, (up.trans up3).trans up4, .inr (.inr (by rw [hs]; exact hh4)), na, os, ag, hno rfl⟩)
      unfold PySem.passOn
      refine wpAny_bind (wpAny_field he hd h1 ?_)
      rw [if_neg (show ¬ ((Value.ref T == Value.none) = true) from by simp)]
      first
        | exact wpAny_bind (wpAny_pure (wpAny_bind fin))
        | exact wpAny_bind fin
  have pass : PassesOwn (model X.prog X.w) X.A X.env xt := by
    subst ext
    exact PassesOwn.looking
  refine wpAny_Try_except (wpAny_mono ((hb _ _ _ caught pass).run [] s σ H D (I.toTry _) h) (fun f s1 hsp => ?_) fun e s1 he => ?_)
  · cases f with
    | next =>
      obtain ⟨σ', H', J', q⟩ := hsp
      exact wpAny_execs_nil ⟨σ', H', J'.ofTry ok, q⟩
    | brk =>
      obtain ⟨σ', H', J', q⟩ := hsp
      exact ⟨σ', H', J'.ofTry ok, q⟩
    | cont =>
      obtain ⟨σ', H', J', q⟩ := hsp
      exact ⟨σ', H', J'.ofTry ok, q⟩
    | ret u =>
      obtain ⟨v, σ', H', J', r, q⟩ := hsp
      exact ⟨v, σ', H', J'.ofTry ok, r, q⟩
  · have he' : xt e s1 := he
    rw [ext] at he'
    exact he'
end
end L2

set_option Elab.async false
set_option linter.all false
set_option maxRecDepth 100000
set_option maxHeartbeats 4000000
namespace Td
open PySem PySem.Spec PyProof.Rows L2
/-! ### errors made -/
/-- __init__ of an error's class: told of the object that is being made -/
def spX (K : PySem.W.Frag) : Sp := fun vs H Q _ => ∃ (a C : Addr) (v : V), vs = [.ref a, v] ∧ OexC K C ∧ PySem.W.findIn K (.ref C) "value" = some none ∧ H a = some (exo a C none) ∧
  ∀ dx, H dx = none → dx ≠ a → Q .non (upd (upd H dx (exd dx [("value", v)])) a (exo a C (some dx)))
section
variable {P : Program} {w : World} {K : PySem.W.Frag} {mg : Str → Option Value} {base : Heap} {qual : Str} {params : Arguments} {body : List Stmt} {scope : Scope} {f : Addr} {fd : FuncData} {k : Nat} {p1 p2 p3 p4 p5 p6 p7 p8 p9 p10 : Pos}
theorem fn_xinit (FD : FunD K "__init__" qual params body scope [] [] f fd) (Sc : FnScope ["self", "value"] ["self", "value"] scope)
    (hb : body = [.Expr (.Call (.Attribute (.Name "ValueError" p1) "__init__" p2) [.Name "self" p3, .Name "value" p4] [] p5) p6, .Assign [.Attribute (.Name "self" p7) "value" p8] (.Name "value" p9) p10])
    (hsc : scope = { kind := .function, names := [("self", .local), ("value", .local), ("ValueError", .globalImplicit)], isGenerator := false, isCoroutine := false, more := [] })
    (hcall : ∀ (cdv : Value) (A : Around) (outer : List Env) (s : Shared) (H : Hp) (E : XK), ∃ pl : Sem Bool, eval (.Call (.Attribute (.Name "ValueError" p1) "__init__" p2) [.Name "self" p3, .Name "value" p4] [] p5) (cxOf (L2.CX P w) P w K mg base ["self", "value"] qual scope f cdv A outer s H E).env = (do
      let ov ← eval (.Name "ValueError" p1) (cxOf (L2.CX P w) P w K mg base ["self", "value"] qual scope f cdv A outer s H E).env
      standAt p2.atName
      let (g, first) ← holding [ov] (getMethod ov "__init__" pl)
      callWith p5 g first (backTo p5 (starEach [.Name "self" p3, .Name "value" p4] (cxOf (L2.CX P w) P w K mg base ["self", "value"] qual scope f cdv A outer s H E).env)) (backToKw p5 (keywordEach [] (cxOf (L2.CX P w) P w K mg base ["self", "value"] qual scope f cdv A outer s H E).env))))
    (hm : mg "ValueError" = none) (vV : PySem.W.findCls K (.type "ValueError") (.type "type") "__init__" = some (.val (.builtin "ValueError.__init__"))) : FnOk P w K mg base (L2.CX P w) (k + 1) f fd ["self", "value"] (spX K) := by
  subst hb hsc
  refine FD.ok Sc (fun vs H Q E h => ?_) (fun cdv A outer s H vs Q E hr h => ?_)
  · obtain ⟨a, C, v, rfl, _⟩ := h
    rfl
  · obtain ⟨a, C, v, rfl, T, hno, ha, q⟩ := h
    obtain ⟨pl, hc⟩ := hcall cdv A outer s H E
    refine ⟨_, pss_cons (ps_expr (pe_veinit (pl := pl) (hc := hc) (X := cxOf (L2.CX P w) P w K mg base ["self", "value"] qual _ f cdv A outer s H E) rfl hm vV (pa_cons (pe_var (i := 0) rfl (.inl rfl) (by decide) (by decide)) (pa_cons (pe_var (i := 1) rfl (.inl rfl) (by decide) (by decide)) pa_nil (star1 rfl)) (star1 rfl))) rfl)
      (pss_cons (ps_ost (pe_var (i := 0) rfl (.inl rfl) (by decide) (by decide)) (pe_var (i := 1) rfl (.inl rfl) (by decide) (by decide)) rfl) pss_nil), ?_⟩
    refine ⟨.ref a, rfl, v, rfl, a, C, [v], rfl, (by show 1 ≤ 1000; decide), T, ha, ?_⟩
    exact ⟨v, rfl, .ref a, rfl, a, C, rfl, T, hno, .inl ⟨ha, fun dx n ne => q dx n ne⟩⟩
end
section
variable {K : PySem.W.Frag} {S : Type} {F : FC K S} {T : List Slot} {t : List V} {G : List Slot} {σ : L2.St} {H : Hp}
theorem At.xd {U : Type} {r : Rp U} {a : U} {v : V} {pay : U → Pay} (h : At F (.is r a :: T) (v :: t) G σ H) (hp : ∀ {K M H v a B}, r.rel K M H v a B → rPay.rel K M H v (pay a) B) {d : Addr} (hd : H d = none) :
    At F (.is rXd (pay a) :: T) (.ref d :: t) G σ (upd H d (.xd [("value", v)])) := by
  obtain ⟨A1, A2, h⟩ := h
  have k : ∀ x o, H x = some o → upd H d (.xd [("value", v)]) x = some o := fun x o e => by rw [upd_ne (ne_of_none e hd)]; exact e
  have nd := h.good.nd
  have hg := h.good
  have tr := h.m_trk
  obtain ⟨B, A', eA, ⟨v', ev, h1⟩, ht⟩ := AtS.cons_inv h.tmp
  cases ev
  subst eA
  have dn : ∀ p, p ∈ (B ++ A') ++ A2 ++ F.M0 → p ≠ d := fun p hp z => by
    obtain ⟨o, e, _⟩ := tr p hp
    rw [z, hd] at e; cases e
  have hM : ∀ x, x ∈ (d :: B ++ A') ++ A2 ++ F.M0 → x ∈ (B ++ A') ++ A2 ++ F.M0 ∨ H x = none := fun x hx => by
    have hx' : x ∈ d :: (B ++ A' ++ A2 ++ F.M0) := hx
    rcases List.mem_cons.mp hx' with z | z
    · exact .inr (by rw [z]; exact hd)
    · exact .inl z
  obtain ⟨f1, f2, f3⟩ := hg.fresh hd
  refine ⟨d :: B ++ A', A2, .cons (B := d :: B) ⟨_, rfl, d, v, B, rfl, upd_same, rPay.keep (hp (r.grow h1 hM)) (fun x o e _ => k x o e), rfl⟩ ((ht.grow hM).keep fun x o e _ => k x o e), (h.loc.grow hM).keep fun x o e _ => k x o e, ⟨?_, fun p hp => ?_, fun p hp => ?_, fun p hp => ?_, fun p o e hI => k p o (hg.stay p o e hI), hg.m0⟩⟩
  · show (d :: ((B ++ A') ++ A2)).Nodup
    exact List.nodup_cons.mpr ⟨fun z => dn d (List.mem_append_left _ z) rfl, nd⟩
  · rcases List.mem_cons.mp (show p ∈ d :: ((B ++ A') ++ A2) from hp) with z | z
    · rw [z]; exact f2
    · exact hg.out p z
  · rcases List.mem_cons.mp (show p ∈ d :: ((B ++ A') ++ A2) from hp) with z | z
    · rw [z]; exact .inl f1
    · exact hg.new p z
  · obtain ⟨o, e, z⟩ := hg.has p hp
    exact ⟨o, k p o e, z⟩
end
/-- the class of an error: what the head tells -/
structure XCls (K : PySem.W.Frag) (c : Str) (fI : Addr) : Prop where
  ox : OexC K (He.ga K c)
  iC : PySem.W.findIn K (.ref (He.ga K c)) "__init__" = some (some (.ref fI))
  tI : PySem.W.typeIn K (.ref fI) = some (.type "function")
  nv : PySem.W.findIn K (.ref (He.ga K c)) "value" = some none
section
variable {X : Cx} {S : Type} {F : FC X.K S} {N N' L L' R : Type} {G G1 G2 : S → List Slot} {GN : N → S → List Slot} {GJ : N' → S → List Slot} {GL : L → S → List Slot} {r : Rp R} {pos p0 p1 : Pos} {rest : List Stmt} {tr : TS}
/-- raise C(e) -/
theorem bx_raise {U : Type} {r1 : Rp U} {pay : U → Pay} {e : Expr} {te : TE} {m : SM S U} {c : Str} {fI : Addr} {fd : FuncData} {k : Nat} {W : WX} (hc : X.calm = true) (tk : Takes X W) (hW : F.W = W) (xc : XCls X.K c fI) (FO : FnOk X.prog X.w X.K X.mg X.base (L2.CX X.prog X.w) k fI fd ["self", "value"] (spX X.K)) (hr : Room (k + 1) X.A)
    (hb : Binds X.K fd ["self", "value"] []) (hx : Passes (L2.CX X.prog X.w) X (fun _ _ _ => False)) (hg : Gl X c) (hm : X.mg c = some (.ref (He.ga X.K c))) (hp : ∀ {K M H v a B}, r1.rel K M H v a B → rPay.rel K M H v (pay a) B) (h : EX X F e te G G1 r1 m) (hw : ∀ s, Weak (G1 s) (F.io s))
    (hs : PySem.W.isStarred e = false := by rfl) (hdb : (c == ("__debug__" : Str)) = false := by decide) :
    BX X F (.Raise (some (.Call (.Name c p0) [e] [] pos)) none p1 :: rest) (tSeq (fun _ σ H => tMkO (He.ga X.K c) (spX X.K) [] (tCons te tNil) σ H fun cls d H' => W cls d σ H') tNever) G GN GL r (bnd m fun a => rse ⟨c, pay a⟩) :=
  ⟨pss_cons (ps_raise hc tk (pmk_oex xc.ox xc.iC xc.tI FO hr hb .nil hx hg hm (pa_cons h.pe pa_nil (star1 hs)) hdb (star1 hs) rfl)) pss_never, fun T t σ s H D h0 q => by
    have hl := at_len h0
    show te σ H fun v H1 => _
    refine h.go T t σ s H _ h0 (wp_mono (wp_bnd q) (fun a s1 q1 v H1 at1 => ?_) fun e s z => z σ)
    show [v].length ≤ 1000 ∧ _
    refine ⟨(by show 1 ≤ 1000; decide), fun x hx => ⟨x, He.ga X.K c, v, rfl, xc.ox, xc.nv, upd_same, fun dx hdx ne => ⟨rfl, dx, [("value", v)], upd_same, ?_, ?_, ?_⟩⟩⟩
    · rw [upd_ne ne, upd_same]
    · rw [upd_ne ne] at hdx; exact hdx
    · have hdx' : H1 dx = none := by rw [upd_ne ne] at hdx; exact hdx
      have eH : upd (del (upd (upd (upd H1 x (exo x (He.ga X.K c) none)) dx (exd dx [("value", v)])) x (exo x (He.ga X.K c) (some dx))) x) dx (.xd [("value", v)]) = upd H1 dx (.xd [("value", v)]) := by
        funext b
        by_cases e1 : b = dx
        · rw [e1, upd_same, upd_same]
        · rw [upd_ne e1, upd_ne e1]
          by_cases e2 : b = x
          · rw [e2, del_same, hx]
          · rw [del_ne e2, upd_ne e2, upd_ne e1, upd_ne e2]
      rw [eH, ← hW]
      refine q1 σ dx _ ?_
      have z := (at1.xd hp hdx').weak (hw s1)
      exact At.dropM (T0 := [_]) (t0 := [.ref dx]) (T := []) (t := []) rfl (T1 := T) (t1 := t) hl (by simpa using z)⟩
end
end Td

set_option Elab.async false
set_option linter.all false
set_option maxRecDepth 100000
set_option maxHeartbeats 4000000
namespace Td
open PySem PySem.Spec PyProof.Rows L2
/-- a caught error -/
def rExc : Rp Exn where
  rel := fun K M H v e B => ∃ a d w C, v = .ref a ∧ H a = some (ExK (.ref (He.ga K e.cls)) (some d) a) ∧ H d = some (.xd [("value", w)]) ∧ rPay.rel K M H w e.pay C ∧ B = a :: d :: C
  keep := by
    rintro K M H H' v e B ⟨a, d, w, C, ev, ha, hd, h, eB⟩ k
    subst eB
    exact ⟨a, d, w, C, ev, k a _ ha (.inr (.inl (List.mem_cons_self ..))), k d _ hd (.inr (.inl (List.mem_cons_of_mem _ (List.mem_cons_self ..)))), rPay.keep h (fun p o e h => k p o e (h.imp id (Or.imp (fun z => List.mem_cons_of_mem _ (List.mem_cons_of_mem _ z)) id))), rfl⟩
  grow := by
    rintro K M M' H v e B ⟨a, d, w, C, ev, ha, hd, h, eB⟩ k
    exact ⟨a, d, w, C, ev, ha, hd, rPay.grow h k, eB⟩
  trk := by
    rintro K M H v e B ⟨a, d, w, C, ev, ha, hd, h, eB⟩ x hx
    subst eB
    rcases List.mem_cons.mp hx with hx | hx
    · subst hx; exact ⟨_, ha, rfl⟩
    · rcases List.mem_cons.mp hx with hx | hx
      · subst hx; exact ⟨_, hd, rfl⟩
      · exact rPay.trk h x hx
theorem clo_exc : rExc.Clo := by
  rintro K M M' H v e B ⟨a, d, w, C, ev, ha, hd, h, eB⟩
  exact ⟨a, d, w, C, ev, ha, hd, clo_pay h, eB⟩
section
variable {K : PySem.W.Frag} {S : Type} {F : FC K S} {T : List Slot} {t : List V} {G : List Slot} {σ : L2.St} {H : Hp}
/-- a new object on top of what the top temp owns -/
theorem At.top {U W : Type} {r : Rp U} {q : Rp W} {a : U} {b : W} {v : V} (h : At F (.is r a :: T) (v :: t) G σ H) {p : Addr} {o : HO} (hp : H p = none) (ho : isTup o = false)
    (hq : ∀ M B, r.rel K M (upd H p o) v a B → q.rel K M (upd H p o) (.ref p) b (p :: B)) : At F (.is q b :: T) (.ref p :: t) G σ (upd H p o) := by
  obtain ⟨A1, A2, h⟩ := h
  have k : ∀ x u, H x = some u → upd H p o x = some u := fun x u e => by rw [upd_ne (ne_of_none e hp)]; exact e
  have nd := h.good.nd
  have hg := h.good
  have tr := h.m_trk
  obtain ⟨B, A', eA, ⟨v', ev, h1⟩, ht⟩ := AtS.cons_inv h.tmp
  cases ev
  subst eA
  have dn : ∀ x, x ∈ (B ++ A') ++ A2 ++ F.M0 → x ≠ p := fun x hx z => by
    obtain ⟨u, e, _⟩ := tr x hx
    rw [z, hp] at e; cases e
  have hM : ∀ x, x ∈ (p :: B ++ A') ++ A2 ++ F.M0 → x ∈ (B ++ A') ++ A2 ++ F.M0 ∨ H x = none := fun x hx => by
    have hx' : x ∈ p :: (B ++ A' ++ A2 ++ F.M0) := hx
    rcases List.mem_cons.mp hx' with z | z
    · exact .inr (by rw [z]; exact hp)
    · exact .inl z
  obtain ⟨f1, f2, f3⟩ := hg.fresh hp
  refine ⟨p :: B ++ A', A2, .cons (B := p :: B) ⟨_, rfl, hq _ _ (r.keep (r.grow h1 hM) (fun x u e _ => k x u e))⟩ ((ht.grow hM).keep fun x u e _ => k x u e), (h.loc.grow hM).keep fun x u e _ => k x u e, ⟨?_, fun x hx => ?_, fun x hx => ?_, fun x hx => ?_, fun x u e hI => k x u (hg.stay x u e hI), hg.m0⟩⟩
  · show (p :: ((B ++ A') ++ A2)).Nodup
    exact List.nodup_cons.mpr ⟨fun z => dn p (List.mem_append_left _ z) rfl, nd⟩
  · rcases List.mem_cons.mp (show x ∈ p :: ((B ++ A') ++ A2) from hx) with z | z
    · rw [z]; exact f2
    · exact hg.out x z
  · rcases List.mem_cons.mp (show x ∈ p :: ((B ++ A') ++ A2) from hx) with z | z
    · rw [z]; exact .inl f1
    · exact hg.new x z
  · obtain ⟨u, e, z⟩ := hg.has x hx
    exact ⟨u, k x u e, z⟩
theorem At.top2 {U W : Type} {r : Rp U} {q : Rp W} {a : U} {b : W} {v : V} (h : At F (.is r a :: T) (v :: t) G σ H) (k : ∀ M B, r.rel K M H v a B → q.rel K M H v b B) : At F (.is q b :: T) (v :: t) G σ H := by
  obtain ⟨A1, A2, h⟩ := h
  obtain ⟨B, A', eA, ⟨v', ev, hr⟩, ht⟩ := AtS.cons_inv h.tmp
  subst eA
  exact ⟨B ++ A', A2, .cons ⟨v', ev, by cases ev; exact k _ _ hr⟩ ht, h.loc, h.good⟩
theorem At.kept {e : Exn} {d : Addr} (h : At F (.is rXd e.pay :: T) (.ref d :: t) G σ H) {a : Addr} (ha : H a = none) :
    At F (.is rExc e :: T) (.ref a :: t) G σ (upd H a (ExK (.ref (He.ga K e.cls)) (some d) a)) :=
  h.top ha rfl fun M B ⟨d', w, C, ev, hd, hw, eB⟩ => by
    cases ev
    subst eB
    exact ⟨a, d, w, C, rfl, upd_same, hd, hw, rfl⟩
/-- what a slot of no account holds -/
theorem At.setUn (h : At F T t G σ H) {i : Nat} (e : G[i]? = some .un) (x : Option V) : At F T t G (σ.set i x) H := by
  obtain ⟨A1, A2, h⟩ := h
  obtain ⟨y, B, P1, P2, e1, hB, eA, back⟩ := h.loc.at_ e
  have eB : B = [] := hB
  subst eB
  have z := back (A1 ++ A2 ++ F.M0) H .un x [] (fun h _ => h) rfl
  rw [set_self e] at z
  exact ⟨A1, A2, h.tmp, by rw [eA] at z ⊢; exact z, h.good⟩
/-- a suite by itself: what the temps own is no one's business in it -/
def FC.sub (F : FC K S) (H : Hp) (A1 A2 : List Addr) (io : S → List Slot) (W : WX) : FC K S := ⟨H, A2, A1 ++ F.M0, io, W⟩
theorem AtP.nest {A1 A2 : List Addr} (h : AtP F T t G σ H A1 A2) (io : S → List Slot) (W : WX) : At (F.sub H A1 A2 io W) [] [] G σ H := by
  have nd := h.good.nd
  refine ⟨[], A2, .nil, h.loc.grow fun p hp => .inl ?_, ⟨(List.nodup_append.mp nd).2.1, fun p hp => ?_, fun p hp => .inr hp, h.loc.trk, fun _ _ e _ => e, fun p hp => ⟨?_, ?_⟩⟩⟩
  · have hp' : p ∈ [] ++ A2 ++ (A1 ++ F.M0) := hp
    simp only [List.nil_append, List.mem_append] at *
    grind
  · show p ∉ A1 ++ F.M0
    have out := h.good.out p
    simp only [List.nodup_append, List.nil_append, List.mem_append] at *
    grind
  · have hp' : p ∈ A1 ++ F.M0 := hp
    refine h.m_trk p ?_
    simp only [List.mem_append] at *
    grind
  · have hp' : p ∈ A1 ++ F.M0 := hp
    show p ∉ A2
    have out := h.good.out p
    simp only [List.nodup_append, List.mem_append] at *
    grind
theorem AtP.unnest {A1 A2 : List Addr} {T1 : List Slot} {t1 : List V} {G' : List Slot} {σ' : L2.St} {H' : Hp} {io : S → List Slot} {W : WX} (h : AtP F T t G σ H A1 A2) (hx : At (F.sub H A1 A2 io W) T1 t1 G' σ' H') : At F (T1 ++ T) (t1 ++ t) G' σ' H' := by
  obtain ⟨X1, X2, hx⟩ := hx
  have nd := h.good.nd
  have ndx := hx.good.nd
  have outx : ∀ p, p ∈ X1 ++ X2 → p ∉ A1 ++ F.M0 := hx.good.out
  have newx : ∀ p, p ∈ X1 ++ X2 → H p = none ∨ p ∈ A2 := hx.good.new
  have st : ∀ p o, H p = some o → p ∉ A2 → H' p = some o := hx.good.stay
  have tA2 := h.loc.trk
  have hU : ∀ x, x ∈ (A1 ++ A2 ++ F.M0) ++ (X1 ++ X2) → x ∈ A1 ++ A2 ++ F.M0 ∨ H x = none := fun x hx => by
    rcases List.mem_append.mp hx with z | z
    · exact .inl z
    · rcases newx x z with y | y
      · exact .inr y
      · exact .inl (by simp only [List.mem_append]; grind)
  have hV : ∀ x, x ∈ (X1 ++ A1) ++ X2 ++ F.M0 → x ∈ (A1 ++ A2 ++ F.M0) ++ (X1 ++ X2) ∨ H' x = none := fun x hx => .inl (by simp only [List.mem_append] at *; grind)
  have hM : ∀ x, x ∈ (X1 ++ A1) ++ X2 ++ F.M0 → x ∈ X1 ++ X2 ++ (F.sub H A1 A2 io W).M0 ∨ H' x = none := fun x hx => .inl (by
    show x ∈ X1 ++ X2 ++ (A1 ++ F.M0)
    simp only [List.mem_append] at *; grind)
  refine ⟨X1 ++ A1, X2, ?_, hx.loc.grow hM, ⟨?_, fun p hp => ?_, fun p hp => ?_, fun p hp => ?_, fun p o e hI => ?_, h.good.m0⟩⟩
  · rw [List.map_append]
    refine (hx.tmp.grow hM).append (((h.tmp.grow hU).keep fun p o e z => ?_).grow hV)
    refine st p o e fun hA => ?_
    rcases z with z | z | z
    · exact z (by simp only [List.mem_append]; grind)
    · simp only [List.nodup_append] at nd
      exact nd.2.2 p z p hA rfl
    · obtain ⟨o', e', zt⟩ := tA2 p hA
      rw [e] at e'; cases e'
      rw [zt] at z; cases z
  · simp only [List.nodup_append, List.mem_append] at *
    grind
  · have := outx p
    have := h.good.out p
    simp only [List.mem_append] at *
    grind
  · by_cases hX : p ∈ X1 ++ X2
    · rcases newx p hX with z | z
      · exact .inl (h.good.fresh z).1
      · exact h.good.new p (by simp only [List.mem_append]; grind)
    · exact h.good.new p (by simp only [List.mem_append] at *; grind)
  · obtain ⟨o, e, z⟩ := h.good.has p hp
    by_cases hA : p ∈ A2
    · exact hx.good.has p hA
    · exact ⟨o, st p o e hA, z⟩
  · refine st p o (h.good.stay p o e hI) fun hA => ?_
    rcases h.good.new p (by simp only [List.mem_append]; grind) with z | z
    · rw [z] at e; cases e
    · exact hI z
end
/-! ### try -/
def tryB {S N L R : Type} (m : SM S (Fl N L R)) (c : Str → Bool) (nc : Exn → N) : SM S (Fl N L R) := fun s => match m s with
  | .ok a s' => .ok a s'
  | .exc e s' => if c e.cls = true then .ok (.nx (nc e)) s' else .stuck
  | .stuck => .stuck
/-- a suite read by what it computes -/
def tTryB {K : PySem.W.Frag} {S N L R : Type} (GX G : S → List Slot) (GJ : N → S → List Slot) (GL : L → S → List Slot) (r : Rp R) (m : SM S (Fl N L R)) (W : WX) : TS := fun D σ H =>
  ∃ (F' : FC K S) (s : S), F'.io = GX ∧ F'.W = W ∧ At F' [] [] (G s) σ H ∧ (m s).wp (FlP F' [] [] GJ GL r D) (XA F')
def tTry (X : Cx) (body : List Stmt) (W : WX) : TS := fun D σ H => ∃ t : TS, (∀ (pn : List (Addr × Obj)) (xe : Value → Shared → Prop), Takes (X.tr pn xe) W → PSs (X.tr pn xe) body t) ∧ t D σ H
section
variable {X : Cx} {S : Type} {F : FC X.K S} {N N' L R : Type} {G G1 : S → List Slot} {GN : N → S → List Slot} {GJ : N' → S → List Slot} {GL : L → S → List Slot} {r : Rp R} {pos p0 p1 p2 np pos' : Pos} {body rest : List Stmt} {tr : TS}
theorem bx_keep {tt : TS} {m : SM S (Fl N' L R)} {out : N' → SM S (Fl N L R)} {x n y : Str} {C : Addr} {W : WX} {gs : S → Slot} (i j : Nat) (GX : S → List Slot) (ct : Str → Bool) (nc : Exn → N')
    (hs : X.stack = X.env :: X.outer) (hf : X.env.frame = some X.env.locals) (hex : X.ex = []) (hN : X.N.Nodup) (hc : Names X x (.ref C)) (tk : Takes X W)
    (hct : ∀ c, ct c = true → PySem.W.exmOne X.K (.ref (He.ga X.K c)) (.ref C) = some true)
    (hb : ∀ (W : WX) (pn : List (Addr × Obj)) (xe : Value → Shared → Prop), Takes (X.tr pn xe) W → ∀ F' : FC X.K S, F'.io = GX → F'.W = W → ∃ t, BX (X.tr pn xe) F' body t G GJ GL r m)
    (hw : ∀ s, Weak (GX s) (F.io s)) (hgi : ∀ s, (GX s)[i]? = some .un) (hgj : ∀ s, (GX s)[j]? = some (gs s)) (hnc : ∀ e s, Weak ((GX s).set j (.is (rOpt rExc) (some e))) (GJ (nc e) s))
    (hr : ∀ n, BX X F rest tr (GJ n) GN GL r (out n)) (ha : Inhabited N') (hS : Inhabited S) (hij : i ≠ j := by decide) (hi : X.N[i]? = some n := by rfl) (hln : X.env.kindOf n = some .local := by rfl) (hj : X.N[j]? = some y := by rfl) (hly : X.env.kindOf y = some .local := by rfl)
    (hdn : (n == ("__debug__" : Str)) = false := by decide) (hcn : (n == ("__classdict__" : Str)) = false := by decide)
    (hsw : ∀ a pn, swapsWith (.Name n p1) (some (.Name y p0)) p2.line (X.suite a pn).env = pure false := by intros; rfl)
    (htt : tt = (fun D σ H => tTry X body (wKp X.K (.ref C) i (fun _ _ _ => tSeq (tAsg (tVar i) (gName j)) tNext) W D) D σ H) := by rfl) :
    BX X F (.Try body [.ExceptHandler (some (.Name x np)) (some n) [.Assign [.Name y p0] (.Name n p1) p2] pos'] [] [] pos :: rest)
      (tSeq tt tr) G GN GL r (thn_ (tryB m ct nc) out) := by
  subst htt
  exact ⟨pss_cons (ps_keep (tb := tTry X body) hs hf hex hN hi hln hc tk (fun W pn xe tk' _ => ⟨fun pins s σ H D I ⟨t, ht, q⟩ => (ht pn xe tk').run pins s σ H D I q⟩)
      (fun a oe cls d pn => pss_cons (ps_set (X := X.suite a ((a, oe) :: pn)) hN hj (.inl hly) (pe_var hi (.inl hln) hdn hcn) (hsw a _) (.inr hly)) pss_nil)) (hr ha.default).ps, fun T t σ s H D h0 q => by
    obtain ⟨A1, A2, h0⟩ := h0
    obtain ⟨Wk, eWk⟩ : ∃ Wk : WX, Wk = wKp X.K (.ref C) i (fun _ _ _ => tSeq (tAsg (tVar i) (gName j)) tNext) W { D with nx := tr D } := ⟨_, rfl⟩
    show tTry X body (wKp X.K (.ref C) i (fun _ _ _ => tSeq (tAsg (tVar i) (gName j)) tNext) W { D with nx := tr D }) { D with nx := tr D } σ H
    rw [← eWk]
    refine ⟨tTryB (K := X.K) GX G GJ GL r m Wk, fun pn xe tk' => ⟨fun pins s σ H D I ⟨F', s', hio, hW, at0, q⟩ => by
        obtain ⟨t, ht⟩ := hb Wk pn xe tk' F' hio hW
        exact ht.ps.run pins s σ H D I (ht.go [] [] σ s' H D at0 q)⟩, ?_⟩
    refine ⟨F.sub H A1 A2 GX Wk, s, rfl, rfl, h0.nest GX Wk, ?_⟩
    have q1 := wp_bnd q
    unfold tryB at q1
    cases hm : m s with
    | stuck => rw [hm] at q1; exact q1.elim
    | ok fl s1 =>
      rw [hm] at q1
      cases fl with
      | nx n => exact fun σ' H' z => (hr n).go T t σ' s1 H' D (h0.unnest z) q1
      | bk l => exact fun σ' H' z => q1 σ' H' (h0.unnest z)
      | ct l => exact fun σ' H' z => q1 σ' H' (h0.unnest z)
      | rt b => exact fun v σ' H' z => q1 v σ' H' (by
          have z2 := (h0.unnest z).weak (hw s1)
          exact At.dropM (T0 := [_]) (t0 := [v]) (T := []) (t := []) rfl (T1 := T) (t1 := t) (by have := h0.tmp.length; simpa using this) (by simpa using z2))
    | exc e s1 =>
      rw [hm] at q1
      have q1 : Rs.wp (if ct e.cls = true then (Rs.ok (Fl.nx (nc e)) s1 : Rs S (Fl N' L R)) else .stuck) _ _ := q1
      intro σ1 d H1 z
      show Wk _ _ _ _
      rw [eWk]
      by_cases hce : ct e.cls = true
      · rw [if_pos hce] at q1
        refine ⟨true, hct _ hce, fun _ a na => ?_, fun q => nomatch q⟩
        have hlen : i < σ1.length := by
          obtain ⟨_, _, hz⟩ := id z
          rw [hz.loc.length]
          exact (List.getElem?_eq_some_iff.mp (hgi s1)).1
        refine ⟨.ref a, List.getElem?_set_self hlen, fun _ => ?_⟩
        have z1 := z.kept na
        have z2 : At (F.sub H A1 A2 GX Wk) [.is (rOpt rExc) (some e)] [.ref a] (GX s1) σ1 (upd H1 a (ExK (.ref (He.ga X.K e.cls)) (some d) a)) := z1.top2 fun _ _ h => h
        have z3 := (z2.store j (hgj s1)).weak (hnc e s1)
        have z4 := h0.unnest z3
        have ei : (((σ1.set i (some (.ref a))).set j (some (.ref a))).set i none : L2.St) = (σ1.set j (some (.ref a))).set i none := by
          rw [List.set_comm _ _ hij, List.set_set]
        show tr D (((σ1.set i (some (.ref a))).set j (some (.ref a))).set i none) _
        rw [ei]
        have z5 : At (F.sub H A1 A2 GX Wk) [] [] ((GX s1).set j (.is (rOpt rExc) (some e))) ((σ1.set j (some (.ref a))).set i none) (upd H1 a (ExK (.ref (He.ga X.K e.cls)) (some d) a)) := (z2.store j (hgj s1)).setUn (i := i) (by rw [List.getElem?_set_ne (Ne.symm hij)]; exact hgi s1) none
        exact (hr (nc e)).go T t _ s1 _ D (h0.unnest (z5.weak (hnc e s1))) q1
      · rw [if_neg hce] at q1
        exact q1.elim⟩
end
end Td

set_option Elab.async false
set_option linter.all false
set_option maxRecDepth 100000
set_option maxHeartbeats 4000000
namespace Td
open PySem PySem.Spec PyProof.Rows L2 He
/-! ### errors' classes: facts of the head -/
/-- a caught error of this class may be asked -/
structure XIs (K : PySem.W.Frag) (c : Str) : Prop where
  cl : (PySem.W.clsIn K (He.ga K c)).isSome = true
  ga : PySem.W.findIn K (.ref (He.ga K c)) "__getattribute__" = some (some (.builtin "BaseException.__getattribute__"))
  gg : PySem.W.findIn K (.ref (He.ga K c)) "__getattr__" = some none
  sb : PySem.W.subIn K (.ref (He.ga K c)) (.type "BaseException") = some true
  cc : PySem.W.findIn K (.ref (He.ga K c)) "__class__" = some (some (.builtin "object.__class__"))
  sp : PySem.W.specialIn K (.builtin "object.__class__") "__get__" = some (some (.builtin "getset_descriptor.__get__"))
  tk : PySem.W.takesIn K (.builtin "object.__class__") = some true
  mr : PySem.W.mroIn K (He.ga K c) (.type "object") = some true
  hd : PySem.W.hasDictIn K (He.ga K c) = true
  nv : PySem.W.findIn K (.ref (He.ga K c)) "value" = some none
def xisB (K : PySem.W.Frag) (c : Str) : Bool := (PySem.W.clsIn K (He.ga K c)).isSome && (eqO (PySem.W.findIn K (.ref (He.ga K c)) "__getattribute__") (some (some (.builtin "BaseException.__getattribute__"))) && (eqO (PySem.W.findIn K (.ref (He.ga K c)) "__getattr__") (some none) &&
  (decide (PySem.W.subIn K (.ref (He.ga K c)) (.type "BaseException") = some true) && (eqO (PySem.W.findIn K (.ref (He.ga K c)) "__class__") (some (some (.builtin "object.__class__"))) && (eqO (PySem.W.specialIn K (.builtin "object.__class__") "__get__") (some (some (.builtin "getset_descriptor.__get__"))) &&
  (decide (PySem.W.takesIn K (.builtin "object.__class__") = some true) && (decide (PySem.W.mroIn K (He.ga K c) (.type "object") = some true) && (PySem.W.hasDictIn K (He.ga K c) && eqO (PySem.W.findIn K (.ref (He.ga K c)) "value") (some none)))))))))
theorem xisB_ok {K : PySem.W.Frag} {c : Str} (h : xisB K c = true) : XIs K c := by
  obtain ⟨h1, h⟩ := ba h
  obtain ⟨h2, h⟩ := ba h
  obtain ⟨h3, h⟩ := ba h
  obtain ⟨h4, h⟩ := ba h
  obtain ⟨h5, h⟩ := ba h
  obtain ⟨h6, h⟩ := ba h
  obtain ⟨h7, h⟩ := ba h
  obtain ⟨h8, h⟩ := ba h
  obtain ⟨h9, h10⟩ := ba h
  exact ⟨h1, eqO_ok h2, eqO_ok h3, of_decide_eq_true h4, eqO_ok h5, eqO_ok h6, of_decide_eq_true h7, of_decide_eq_true h8, h9, eqO_ok h10⟩
/-- an error's class made over ValueError -/
def oexB (K : PySem.W.Frag) (C : Addr) : Bool := (match K.lookup C with
    | some ⟨.type "type", _, .cls cd, sl⟩ => (match cd.mro, sl.toList with
      | .ref C' :: bm, [_, _, _, _, some (.builtin n), _] => C' == C && (n == "ValueError.__new__" && (!cd.hasDel && (cd.hasDict && PySem.HandSPX.refsVE bm)))
      | _, _ => false)
    | _ => false) && (eqO (PySem.W.findIn K (.ref C) "__setattr__") (some (some (.builtin "object.__setattr__"))) && (decide (PySem.W.subIn K (.ref C) (.type "BaseException") = some true) && (decide (PySem.W.typeIn K (.ref C) = some (.type "type")) && PySem.W.keepIn K (.ref C))))
theorem oexB_ok {K : PySem.W.Frag} {C : Addr} (h : oexB K C = true) : OexC K C := by
  obtain ⟨q, h⟩ := ba h
  obtain ⟨h2, h⟩ := ba h
  obtain ⟨h3, h⟩ := ba h
  obtain ⟨h4, h5⟩ := ba h
  refine ⟨?_, eqO_ok h2, of_decide_eq_true h3, of_decide_eq_true h4, h5⟩
  split at q
  · rename_i dd cd sl ho
    split at q
    · rename_i C' bm k0 k1 k2 k3 n k5 hm hs
      simp only [Bool.and_eq_true, beq_iff_eq, Bool.not_eq_true'] at q
      obtain ⟨rfl, rfl, hdel, hdct, ht⟩ := q
      obtain ⟨nm, bs, mro, ns, qn, hd, sn, sub, ab, col, del⟩ := cd
      dsimp only at hm hdel hdct
      subst hm hdel hdct
      have hsl : sl = #[k0, k1, k2, k3, some (.builtin "ValueError.__new__"), k5] := by
        obtain ⟨l⟩ := sl
        simp only at hs
        rw [hs]
      subst hsl
      exact ⟨nm, qn, ns, bs, bm, sn, sub, ab, col, dd, k0, k1, k2, k3, k5, ho, ht⟩
    · cases q
  · cases q
def xclB (K : PySem.W.Frag) (c : Str) (fI : Addr) : Bool := oexB K (He.ga K c) && (eqO (PySem.W.findIn K (.ref (He.ga K c)) "__init__") (some (some (.ref fI))) && (decide (PySem.W.typeIn K (.ref fI) = some (.type "function")) && eqO (PySem.W.findIn K (.ref (He.ga K c)) "value") (some none)))
theorem xclB_ok {K : PySem.W.Frag} {c : Str} {fI : Addr} (h : xclB K c fI = true) : XCls K c fI := by
  obtain ⟨h1, h⟩ := ba h
  obtain ⟨h2, h⟩ := ba h
  obtain ⟨h3, h4⟩ := ba h
  exact ⟨oexB_ok h1, eqO_ok h2, of_decide_eq_true h3, eqO_ok h4⟩
def vviB (K : PySem.W.Frag) : Bool := match PySem.W.findCls K (.type "ValueError") (.type "type") "__init__" with
  | some (.val (.builtin "ValueError.__init__")) => true
  | _ => false
theorem vviB_ok {K : PySem.W.Frag} (h : vviB K = true) : PySem.W.findCls K (.type "ValueError") (.type "type") "__init__" = some (.val (.builtin "ValueError.__init__")) := by
  unfold vviB at h
  split at h
  · assumption
  · cases h
def exmB (K : PySem.W.Frag) (c t : Str) : Bool := decide (PySem.W.exmOne K (.ref (He.ga K c)) (.ref (He.ga K t)) = some true)
/-- what isinstance tells of the classes l, asked for the classes us -/
def ctV (K : PySem.W.Frag) (c : Str) : Value := if c = "ValueError" then .type "ValueError" else .ref (He.ga K c)
def ctW (K : PySem.W.Frag) (c : Str) : V := if c = "ValueError" then .ty "ValueError" else .ref (He.ga K c)
theorem ctW_cls (K : PySem.W.Frag) (c : Str) : ClsV (ctW K c) (ctV K c) := by
  unfold ctW ctV
  split
  · exact .ty _
  · exact .own _
def isTab (l : List (Str × Bool)) (c : Str) : Option Bool := l.lookup c
def kisB (K : PySem.W.Frag) (l : List (Str × Bool)) (u : Str) : Bool := (l.all fun p => decide (PySem.W.kitOne K (.ref (He.ga K p.1)) (ctV K u) = some p.2)) && decide (PySem.W.kitOne K (.type "NoneType") (ctV K u) = some false)
def kisTB (K : PySem.W.Frag) (l : List (Str × Bool)) (us : List Str) : Bool := (l.all fun p => decide (PySem.W.kitAny K (.ref (He.ga K p.1)) (us.map (ctV K)) = some p.2)) && decide (PySem.W.kitAny K (.type "NoneType") (us.map (ctV K)) = some false)
theorem isTab_of {α : Type} {f : Str → Option Bool} : ∀ {l : List (Str × Bool)} {c : Str} {b : Bool}, (∀ p ∈ l, f p.1 = some p.2) → isTab l c = some b → f c = some b
  | (d, b') :: l, c, b, h, e => by
    unfold isTab at e
    rw [List.lookup_cons] at e
    by_cases q : c = d
    · subst q
      simp at e
      subst e
      exact h (c, b') (List.mem_cons_self ..)
    · rw [show (c == d) = false by simpa using q] at e
      exact isTab_of (α := α) (fun p hp => h p (List.mem_cons_of_mem _ hp)) e
theorem kisB_ok {K : PySem.W.Frag} {l : List (Str × Bool)} {u c : Str} {b : Bool} (h : kisB K l u = true) (e : isTab l c = some b) : PySem.W.kitOne K (.ref (He.ga K c)) (ctV K u) = some b := by
  obtain ⟨h1, _⟩ := ba h
  exact isTab_of (α := Unit) (f := fun c => PySem.W.kitOne K (.ref (He.ga K c)) (ctV K u)) (fun p hp => of_decide_eq_true (List.all_eq_true.mp h1 p hp)) e
theorem kisTB_ok {K : PySem.W.Frag} {l : List (Str × Bool)} {us : List Str} {c : Str} {b : Bool} (h : kisTB K l us = true) (e : isTab l c = some b) : PySem.W.kitAny K (.ref (He.ga K c)) (us.map (ctV K)) = some b := by
  obtain ⟨h1, _⟩ := ba h
  exact isTab_of (α := Unit) (f := fun c => PySem.W.kitAny K (.ref (He.ga K c)) (us.map (ctV K))) (fun p hp => of_decide_eq_true (List.all_eq_true.mp h1 p hp)) e
/-! ### isinstance of what may be a caught error -/
section
variable {X : Cx}
/-- the thing asked: None, or an error of the class c -/
inductive XT (K : PySem.W.Frag) (H : Hp) : V → Option Str → Prop
  | non : XT K H .non none
  | exc {a : Addr} {d : Option Addr} {c : Str} (e : H a = some (ExK (.ref (He.ga K c)) d a)) (hd : ∀ x, d = some x → ∃ fs, H x = some (.xd fs)) (i : XIs K c) : XT K H (.ref a) (some c)
def xtO (K : PySem.W.Frag) (c : Option Str) : Value := match c with | none => .type "NoneType" | some c => .ref (He.ga K c)
theorem xt_kit {pins : List (Addr × Obj)} {σ : L2.St} {H : Hp} {s : Shared} {x : V} {c : Option Str} {u : Value} (I : Inv X pins σ H s) (rx : RelV x u) (ty : XT X.K H x c) : ∃ P : Heap → Prop, PySem.W.KitX X.K u (xtO X.K c) P ∧ P s.heap ∧ u ≠ .builtin "__main__.__loader__#opaque" := by
  cases ty with
  | non => cases (show u = Value.none from rx); exact ⟨_, PySem.W.kitx_none, True.intro, fun z => nomatch z⟩
  | @exc a d c e hd i =>
    cases (show u = Value.ref a from rx)
    obtain ⟨oe, vs, ho, hz, hv⟩ := exK_at I.hok e
    obtain ⟨od, J⟩ : ∃ od, PySem.W.InstAt s.heap a oe (He.ga X.K c) od := by
      cases d with
      | none => exact ⟨none, ho, hz.1, by unfold PySem.W.notCls; rw [hv] <;> rfl, by rw [hz.2]; trivial⟩
      | some x =>
        obtain ⟨fs, ex⟩ := hd x rfl
        have hx : ObjOk X.prog X.w H s.heap x (.xd fs) := I.hok x _ ex
        obtain ⟨mA, hns, _⟩ := hx
        obtain ⟨od, ho2, _⟩ := lookIn_ns hns
        exact ⟨some od, ho, hz.1, by unfold PySem.W.notCls; rw [hv] <;> rfl, by rw [hz.2]; exact ho2⟩
    exact ⟨_, PySem.W.kitx_exc i.cl i.ga i.gg i.sb i.cc i.sp i.tk i.mr, J, fun z => nomatch z⟩
theorem call_isX : CallR X (.builtin "isinstance") (fun xs H Q => ∃ (x cv : V) (u : Value) (c : Option Str) (b : Bool), xs = [x, cv] ∧ ClsV cv u ∧ XT X.K H x c ∧ PySem.W.kitOne X.K (xtO X.K c) u = some b ∧ Q (.bl b) H) := by
  intro pins s σ H xs us Q I r h
  obtain ⟨x, cv, u, c, b, rfl, k, ty, e, q⟩ := h
  obtain ⟨u1, u2, rfl, r1, r2⟩ := vals2 r
  have e2 := k.eq r2
  subst e2
  obtain ⟨P, Z, p, hx⟩ := xt_kit I r1 ty
  exact PySem.W.kia_one Z I.kIn p e hx fun tk => ⟨.bl b, H, I.tok tk, rfl, q⟩
theorem call_isXT : CallR X (.builtin "isinstance") (fun xs H Q => ∃ (x : V) (tp : Addr) (cs : List V) (us : List Value) (c : Option Str) (b : Bool), xs = [x, .ref tp] ∧ H tp = some (.tup cs) ∧ Paired ClsV cs us ∧ XT X.K H x c ∧ PySem.W.kitAny X.K (xtO X.K c) us = some b ∧ Q (.bl b) H) := by
  intro pins s σ H xs us Q I r h
  obtain ⟨x, tp, cs, ws, c, b, rfl, hT, k, ty, e, q⟩ := h
  obtain ⟨u1, u2, rfl, r1, r2⟩ := vals2 r
  cases (show u2 = Value.ref tp from r2)
  obtain ⟨P, Z, p, hx⟩ := xt_kit I r1 ty
  obtain ⟨_, its, rv, o, h1, h2, n, h3⟩ := (show ObjOk X.prog X.w H s.heap tp (.tup cs) from I.hok tp _ hT)
  have e3 := ClsV.all k rv
  subst e3
  obtain ⟨oc, od, dt, sl⟩ := o
  simp only at h2 h3
  subst h2 h3
  exact PySem.W.kia_tup Z I.kIn p h1 e hx fun tk => ⟨.bl b, H, I.tok tk, rfl, q⟩
end
end Td

set_option Elab.async false
set_option linter.all false
set_option maxRecDepth 100000
set_option maxHeartbeats 4000000
namespace L2
open PySem PySem.Spec PyProof.Rows
section
variable {X : Cx} {CX : CXT} {k n : Nat} {f : Addr} {fd : FuncData} {ps ks : List Str} {sp : Sp} {E : St → XK} {x : Str} {p pos : Pos} {e : Expr} {es : List Expr} {kws : List Keyword} {t tk : TA} {g : List Value → List Value → List Value} {gV : List V → List V → List V}
/-- keyword values; what is raised is wished for at the caller's slots -/
theorem kw_at {pins : List (Addr × Obj)} {σ : St} {H : Hp} {s : Shared} {Q : VK} {us ws : List Value} {vs zs : List V} (F : FnOk X.prog X.w X.K X.mg X.base CX k f fd ps sp) (hr : Room k X.A) (hb : KBn X.K fd ps n ks g gV) (hx : PassesAt CX X σ (E σ))
    (I : Inv X pins σ H s) (r : Vals vs us) (rz : Vals zs ws) (l1 : vs.length = n) (l2 : zs.length = ks.length) (h : sp (gV vs zs) H Q (E σ)) : wpAny (model X.prog X.w) X.A (call (.ref f) us (ks.zip ws)) (EP X pins σ Q) X.xe s :=
  wpAny_call (codeAny_mono (F.run X.A X.stack s H ⟨us, ks.zip ws⟩ (g us ws) (gV vs zs) Q (E σ) hr I.env0 (hb.to s us ws I.kIn (by rw [← r.length, l1]) (by rw [← rz.length, l2])) (hb.rel r rz) h) fun z s' hq => match z, hq with
    | .error e, hq => hx pins H s e s' I hq
    | .ok (.ret u), hq => I.after hq
    | .ok .next, hq => hq.elim
    | .ok .brk, hq => hq.elim
    | .ok .cont, hq => hq.elim)
theorem pe_kwS (F : FnOk X.prog X.w X.K X.mg X.base CX k f fd ps sp) (hr : Room k X.A) (hg : Gl X x) (hm : X.mg x = some (.ref f)) (hk : PySem.W.keepIn X.K (.ref f) = true) (hb : KBn X.K fd ps n ks g gV) (hx : ∀ σ, PassesAt CX X σ (E σ)) (ha : PA X (e :: es) t)
    (hkw : PK X kws tk) (hall : (backToKw pos (keywordEach kws X.env)).all (·.1.isSome) = true := by rfl) (hks : (backToKw pos (keywordEach kws X.env)).filterMap (·.1) = ks := by rfl)
    (hdb : (x == ("__debug__" : Str)) = false := by decide) (he : starEach (e :: es) X.env = (false, eval e X.env) :: starEach es X.env := by rfl)
    (hpl : ((backTo pos (starEach (e :: es) X.env)).any (·.1) || (backToKw pos (keywordEach kws X.env)).any (·.1.isNone)) = false := by rfl) :
    PE X (.Call (.Name x p) (e :: es) kws pos) (Td.tCallNS n ks.length sp gV E t tk) := by
  refine ⟨fun pins s σ H Q I h => wpAny_Call_Name_kw (ld_glob I hg hm ?_ hdb)⟩
  refine PySem.W.callWith_KW (h₀ := X.base) I.ok.mod.kin hk hall (thn (ha.run pos pins s σ H _ I h) fun us s1 ⟨vs, H1, I1, r, q⟩ => ?_) hpl he
  refine thn (hkw.run pos pins s1 σ H1 _ I1 q) fun ws s2 ⟨zs, H2, I2, rz, l1, l2, q2⟩ => ⟨I2.kIn, ?_⟩
  rw [hks]
  exact kw_at F hr hb (hx σ) I2 r rz l1 l2 q2
theorem pe_kwS0 (F : FnOk X.prog X.w X.K X.mg X.base CX k f fd ps sp) (hr : Room k X.A) (hg : Gl X x) (hm : X.mg x = some (.ref f)) (hk : PySem.W.keepIn X.K (.ref f) = true) (hb : KBn X.K fd ps 0 ks g gV) (hx : ∀ σ, PassesAt CX X σ (E σ))
    (hkw : PK X kws tk) (hall : (backToKw pos (keywordEach kws X.env)).all (·.1.isSome) = true := by rfl) (hks : (backToKw pos (keywordEach kws X.env)).filterMap (·.1) = ks := by rfl)
    (hdb : (x == ("__debug__" : Str)) = false := by decide)
    (hpl : ((backTo pos (starEach [] X.env)).any (·.1) || (backToKw pos (keywordEach kws X.env)).any (·.1.isNone)) = false := by rfl) :
    PE X (.Call (.Name x p) [] kws pos) (Td.tCallNS 0 ks.length sp gV E tNil tk) := by
  refine ⟨fun pins s σ H Q I h => wpAny_Call_Name_kw (ld_glob I hg hm ?_ hdb)⟩
  refine PySem.W.callWith_KW0 (h₀ := X.base) I.ok.mod.kin hk hall ?_ hpl
  refine thn (hkw.run pos pins s σ H _ I h) fun ws s2 ⟨zs, H2, I2, rz, l1, l2, q2⟩ => ⟨I2.kIn, ?_⟩
  rw [hks]
  exact kw_at (us := []) (vs := []) F hr hb (hx σ) I2 .nil rz rfl l2 q2
end
end L2
namespace Td
open PySem PySem.Spec PyProof.Rows L2 He
/-! ### calls in a try's body -/
section
variable {X : Cx} {S : Type} {F : FC X.K S} {U W A B : Type} {n nn k : Nat} {is : List Nat} {Ps Pe : U → List Slot} {r : Rp W} {f : U → SM Unit W} {ta tk : TA} {G G1 G' : S → List Slot} {LA : A → List Arg} {LB : B → List Arg} {mA : SM S A} {mB : SM S B} {fA : Addr} {fd : FuncData} {ps ks : List Str} {x : Str} {p pos : Pos} {e : Expr} {es : List Expr} {kws : List Keyword} {g : List Value → List Value → List Value} {Wx : WX}
theorem ex_callS {fm : A → SM Unit W} (u : A → U) (FO : FnOk X.prog X.w X.K X.mg X.base (L2.CX X.prog X.w) k fA fd ps (SpP X.K n Ps r f)) (hr : Room k X.A) (hg : Gl X x) (hm : X.mg x = some (.ref fA)) (hk : PySem.W.keepIn X.K (.ref fA) = true) (hb : Binds X.K fd ps []) (tk : Takes X Wx) (hW : F.W = Wx)
    (h : EA X F (e :: es) ta G G' LA mA) (hn : ∀ a, (LA a).length = n) (he : (r.Clo ∧ ∀ a s, Ent (G' s) (LA a) (Ps (u a))) ∨ ∀ a s, EntS (G' s) (LA a) (Ps (u a))) (hw : ∀ s, Weak (G' s) (F.io s))
    (hf : ∀ a, fm a = f (u a) := by intro _; rfl)
    (hst : PySem.W.isStarred e = false := by rfl) (hpl : (backTo pos (starEach es X.env)).any (·.1) = false := by rfl) (hdb : (x == ("__debug__" : Str)) = false := by decide) :
    EX X F (.Call (.Name x p) (e :: es) [] pos) (tCallSD (SpP X.K n Ps r f) [] (WE Wx) ta) G G' r (bnd mA fun a => lft (fm a)) :=
  ⟨pe_callSD FO hr hg hm hk hb .nil (fun σ => passAt tk σ) h.pa (hdb := hdb) (he := star1 hst) (hpl := hpl), go_call u hf h.go hn he (fun c d σ H z => by rw [hW] at z; exact z) hw⟩
theorem ex_callKS {fm : A → B → SM Unit W} (u : A → B → U) (FO : FnOk X.prog X.w X.K X.mg X.base (L2.CX X.prog X.w) k fA fd ps (SpP X.K nn Ps r f)) (hr : Room k X.A) (hg : Gl X x) (hm : X.mg x = some (.ref fA)) (hk : PySem.W.keepIn X.K (.ref fA) = true) (hb : KBn X.K fd ps n ks g (fun vs zs => permL is (vs ++ zs))) (tkx : Takes X Wx) (hW : F.W = Wx)
    (h : EA X F (e :: es) ta G G1 LA mA) (h2 : EK X F kws tk G1 G' LB mB) (hn : ∀ a, (LA a).length = n) (hn2 : ∀ b, (LB b).length = ks.length) (hl : ∀ u, (Ps u).length = nn) (hp : ∀ u, (is.filterMap ((Pe u)[·]?)) = Ps u)
    (he : (r.Clo ∧ ∀ a b s, Ent (G' s) (LA a ++ LB b) (Pe (u a b))) ∨ ∀ a b s, EntS (G' s) (LA a ++ LB b) (Pe (u a b))) (hw : ∀ s, Weak (G' s) (F.io s))
    (hf : ∀ a b, fm a b = f (u a b) := by intros; rfl)
    (hall : (backToKw pos (keywordEach kws X.env)).all (·.1.isSome) = true := by rfl) (hks : (backToKw pos (keywordEach kws X.env)).filterMap (·.1) = ks := by rfl)
    (hst : PySem.W.isStarred e = false := by rfl) (hpl : ((backTo pos (starEach (e :: es) X.env)).any (·.1) || (backToKw pos (keywordEach kws X.env)).any (·.1.isNone)) = false := by rfl) (hdb : (x == ("__debug__" : Str)) = false := by decide) :
    EX X F (.Call (.Name x p) (e :: es) kws pos) (tCallNS n ks.length (SpP X.K nn Ps r f) (fun vs zs => permL is (vs ++ zs)) (WE Wx) ta tk) G G' r (bnd mA fun a => bnd mB fun b => lft (fm a b)) :=
  ⟨pe_kwS FO hr hg hm hk hb (fun σ => passAt tkx σ) h.pa h2.pk hall hks hdb (star1 hst) hpl, go_callK u hf h.go h2.go hn hn2 hl hp he (fun c d σ H z => by rw [hW] at z; exact z) hw⟩
theorem ex_callK0S {fm : B → SM Unit W} (u : B → U) (FO : FnOk X.prog X.w X.K X.mg X.base (L2.CX X.prog X.w) k fA fd ps (SpP X.K nn Ps r f)) (hr : Room k X.A) (hg : Gl X x) (hm : X.mg x = some (.ref fA)) (hk : PySem.W.keepIn X.K (.ref fA) = true) (hb : KBn X.K fd ps 0 ks g (fun vs zs => permL is (vs ++ zs))) (tkx : Takes X Wx) (hW : F.W = Wx)
    (h2 : EK X F kws tk G G' LB mB) (hn2 : ∀ b, (LB b).length = ks.length) (hl : ∀ u, (Ps u).length = nn) (hp : ∀ u, (is.filterMap ((Pe u)[·]?)) = Ps u)
    (he : (r.Clo ∧ ∀ b s, Ent (G' s) (LB b) (Pe (u b))) ∨ ∀ b s, EntS (G' s) (LB b) (Pe (u b))) (hw : ∀ s, Weak (G' s) (F.io s))
    (hf : ∀ b, fm b = f (u b) := by intros; rfl)
    (hall : (backToKw pos (keywordEach kws X.env)).all (·.1.isSome) = true := by rfl) (hks : (backToKw pos (keywordEach kws X.env)).filterMap (·.1) = ks := by rfl)
    (hpl : ((backTo pos (starEach [] X.env)).any (·.1) || (backToKw pos (keywordEach kws X.env)).any (·.1.isNone)) = false := by rfl) (hdb : (x == ("__debug__" : Str)) = false := by decide) :
    EX X F (.Call (.Name x p) [] kws pos) (tCallNS 0 ks.length (SpP X.K nn Ps r f) (fun vs zs => permL is (vs ++ zs)) (WE Wx) tNil tk) G G' r (bnd mB fun b => lft (fm b)) :=
  ⟨pe_kwS0 FO hr hg hm hk hb (fun σ => passAt tkx σ) h2.pk hall hks hdb hpl, go_callK (U := U) (LA := fun _ : Unit => []) (mA := ret ()) (fun _ b => u b) (fun _ b => hf b) ga_nil h2.go (fun _ => rfl) hn2 hl hp (he.imp (fun z => ⟨z.1, fun _ b s => z.2 b s⟩) fun z _ b s => z b s) (fun c d σ H z => by rw [hW] at z; exact z) hw⟩
end
/-! ### a list of two unlike things, one thing or another -/
def rL2 {T U : Type} (r : Rp T) (q : Rp U) : Rp (T × U) where
  rel := fun K M H v a B => ∃ p v1 v2 B1 B2, v = .ref p ∧ H p = some (.lst [v1, v2]) ∧ r.rel K M H v1 a.1 B1 ∧ q.rel K M H v2 a.2 B2 ∧ B = p :: (B1 ++ B2)
  keep := by
    rintro K M H H' v a B ⟨p, v1, v2, B1, B2, e, hT, h1, h2, eB⟩ k
    subst eB
    exact ⟨p, v1, v2, B1, B2, e, k p _ hT (.inr (.inl (List.mem_cons_self ..))), r.keep h1 (fun p o e h => k p o e (h.imp id (Or.imp (fun z => List.mem_cons_of_mem _ (List.mem_append_left _ z)) id))), q.keep h2 (fun p o e h => k p o e (h.imp id (Or.imp (fun z => List.mem_cons_of_mem _ (List.mem_append_right _ z)) id))), rfl⟩
  grow := by
    rintro K M M' H v a B ⟨p, v1, v2, B1, B2, e, hT, h1, h2, eB⟩ k
    exact ⟨p, v1, v2, B1, B2, e, hT, r.grow h1 k, q.grow h2 k, eB⟩
  trk := by
    rintro K M H v a B ⟨p, v1, v2, B1, B2, e, hT, h1, h2, eB⟩ x hx
    subst eB
    rcases List.mem_cons.mp hx with hx | hx
    · subst hx; exact ⟨_, hT, rfl⟩
    · rcases List.mem_append.mp hx with hx | hx
      · exact r.trk h1 x hx
      · exact q.trk h2 x hx
theorem clo_L2 {T U : Type} {r : Rp T} {q : Rp U} (c1 : r.Clo) (c2 : q.Clo) : (rL2 r q).Clo := by
  rintro K M M' H v a B ⟨p, v1, v2, B1, B2, e, hT, h1, h2, eB⟩
  exact ⟨p, v1, v2, B1, B2, e, hT, c1 h1, c2 h2, eB⟩
instance {A B : Type} [Inhabited A] : Inhabited (A ⊕ B) := ⟨.inl default⟩
def rSum {T U : Type} (r : Rp T) (q : Rp U) : Rp (T ⊕ U) where
  rel := fun K M H v a B => match a with
    | .inl a => r.rel K M H v a B
    | .inr b => q.rel K M H v b B
  keep := by
    intro K M H H' v a B h k
    cases a with
    | inl a => exact r.keep h k
    | inr b => exact q.keep h k
  grow := by
    intro K M M' H v a B h k
    cases a with
    | inl a => exact r.grow h k
    | inr b => exact q.grow h k
  trk := by
    intro K M H v a B h
    cases a with
    | inl a => exact r.trk h
    | inr b => exact q.trk h
theorem clo_sum {T U : Type} {r : Rp T} {q : Rp U} (c1 : r.Clo) (c2 : q.Clo) : (rSum r q).Clo := by
  intro K M M' H v a B h
  cases a with
  | inl a => exact c1 h
  | inr b => exact c2 h
def dPay : Pay → PyData
  | .non => .none
  | .int i => .int i
  | .pair a b => dP PyData.int PyData.int (a, b)
  | .lsI l => dL PyData.int l
  | .lsP l => dL (dP PyData.int PyData.int) l
  | .str x => .str x
theorem en_Pay : Enc rPay dPay := by
  intro K M H v a B k
  cases a with
  | non =>
    have e : v = .non := k.1
    rw [e]; exact .non
  | int i => exact enc_int (M := M) k
  | pair a b => exact en_P enc_int enc_int k
  | lsI l => exact en_L enc_int k
  | lsP l => exact en_L (en_P enc_int enc_int) k
  | str x => exact enc_str (M := M) k
section
variable {K : PySem.W.Frag} {S : Type} {F : FC K S} {T : List Slot} {t : List V} {G : List Slot} {σ : L2.St} {H : Hp}
theorem At.l2 {U W : Type} {r : Rp U} {q : Rp W} {a : U} {b : W} {v w : V} (h : At F (.is q b :: .is r a :: T) (w :: v :: t) G σ H) {p : Addr} (hp : H p = none) : At F (.is (rL2 r q) (a, b) :: T) (.ref p :: t) G σ (upd H p (.lst [v, w])) := by
  obtain ⟨A1, A2, h⟩ := h
  have nd := h.good.nd
  obtain ⟨B2, A', eA, ⟨w', ew, h2⟩, ht⟩ := AtS.cons_inv h.tmp
  obtain ⟨B1, A'', eA', ⟨v', ev, h1⟩, ht⟩ := AtS.cons_inv ht
  cases ew; cases ev
  subst eA; subst eA'
  have k : ∀ x o, H x = some o → upd H p (.lst [v, w]) x = some o := fun x o e => by rw [upd_ne (ne_of_none e hp)]; exact e
  have hg := h.good
  have tr := h.m_trk
  have dn : ∀ x, x ∈ B2 ++ (B1 ++ A'') ++ A2 ++ F.M0 → x ≠ p := fun x hx z => by
    obtain ⟨u, e, _⟩ := tr x hx
    rw [z, hp] at e; cases e
  have hM : ∀ x, x ∈ (p :: (B1 ++ B2) ++ A'') ++ A2 ++ F.M0 → x ∈ B2 ++ (B1 ++ A'') ++ A2 ++ F.M0 ∨ H x = none := fun x hx => by
    have hx' : x ∈ p :: ((B1 ++ B2) ++ A'' ++ A2 ++ F.M0) := hx
    rcases List.mem_cons.mp hx' with z | z
    · exact .inr (by rw [z]; exact hp)
    · exact .inl (by simp only [List.mem_append] at *; grind)
  obtain ⟨f1, f2, f3⟩ := hg.fresh hp
  refine ⟨p :: (B1 ++ B2) ++ A'', A2, .cons (B := p :: (B1 ++ B2)) ⟨_, rfl, p, v, w, B1, B2, rfl, upd_same, r.keep (r.grow h1 hM) (fun x u e _ => k x u e), q.keep (q.grow h2 hM) (fun x u e _ => k x u e), rfl⟩ ((ht.grow hM).keep fun x u e _ => k x u e), (h.loc.grow hM).keep fun x u e _ => k x u e, ⟨?_, fun x hx => ?_, fun x hx => ?_, fun x hx => ?_, fun x u e hI => k x u (hg.stay x u e hI), hg.m0⟩⟩
  · show (p :: (((B1 ++ B2) ++ A'') ++ A2)).Nodup
    refine List.nodup_cons.mpr ⟨fun z => dn p ?_ rfl, ?_⟩
    · simp only [List.mem_append] at *; grind
    · simp only [List.nodup_append, List.mem_append] at *; grind
  · rcases List.mem_cons.mp (show x ∈ p :: (((B1 ++ B2) ++ A'') ++ A2) from hx) with z | z
    · rw [z]; exact f2
    · exact hg.out x (by simp only [List.mem_append] at *; grind)
  · rcases List.mem_cons.mp (show x ∈ p :: (((B1 ++ B2) ++ A'') ++ A2) from hx) with z | z
    · rw [z]; exact .inl f1
    · exact hg.new x (by simp only [List.mem_append] at *; grind)
  · obtain ⟨u, e, z⟩ := hg.has x hx
    exact ⟨u, k x u e, z⟩
end
end Td

set_option Elab.async false
set_option linter.all false
set_option maxRecDepth 100000
set_option maxHeartbeats 4000000
namespace Td
open PySem PySem.Spec PyProof.Rows L2 He
section
variable {X : Cx} {S : Type} {F : FC X.K S} {U W Z A B : Type} {r r1 : Rp U} {r2 : Rp W} {q : Rp Z} {e a b : Expr} {te ta tb : TE} {G G1 G2 G' : S → List Slot} {m m1 : SM S U} {m2 : SM S W} {arg : U → Arg} {argW : W → Arg} {pos p0 p1 p2 : Pos}
/-- the answer read another way, where it can be -/
def asM {T : Type} : Option T → SM S T
  | some a => ret a
  | none => stk
theorem wp_asM {T : Type} {o : Option T} {s : S} {P : T → S → Prop} {E : Exn → S → Prop} (h : (asM o s).wp P E) : ∃ a, o = some a ∧ P a s := by
  cases o with
  | none => exact h.elim
  | some a => exact ⟨a, rfl, h⟩
theorem go_asM {f : U → Option W} (h : GE F te G G' r1 m1) (k : ∀ {K M H v a B b}, r1.rel K M H v a B → f a = some b → r2.rel K M H v b B) : GE F te G G' r2 (bnd m1 fun a => asM (f a)) := by
  intro T t σ s H Q h0 q
  refine h T t σ s H Q h0 (wp_mono (wp_bnd q) (fun a s1 q1 v H1 at1 => ?_) fun _ _ z => z)
  obtain ⟨b, e, q2⟩ := wp_asM q1
  exact q2 v H1 (at1.top2 fun M B hr => k hr e)
theorem ex_asM {f : U → Option W} (h : EX X F e te G G' r1 m1) (k : ∀ {K M H v a B b}, r1.rel K M H v a B → f a = some b → r2.rel K M H v b B) : EX X F e te G G' r2 (bnd m1 fun a => asM (f a)) := ⟨h.pe, go_asM h.go k⟩
def getL {A B : Type} : A ⊕ B → Option A
  | .inl a => some a
  | .inr _ => none
def getR {A B : Type} : A ⊕ B → Option B
  | .inl _ => none
  | .inr b => some b
theorem ex_asL {ms : SM S (U ⊕ Z)} (h : EX X F e te G G' (sh (rSum r q)) ms) : EX X F e te G G' (sh r) (bnd ms fun a => asM (getL a)) :=
  ex_asM h fun {K M H v a B b} ⟨eB, A, hr, hA⟩ e => by
    cases a with
    | inl x => cases e; exact ⟨eB, A, hr, hA⟩
    | inr y => cases e
theorem ex_asR {ms : SM S (U ⊕ Z)} (h : EX X F e te G G' (sh (rSum r q)) ms) : EX X F e te G G' (sh q) (bnd ms fun a => asM (getR a)) :=
  ex_asM h fun {K M H v a B b} ⟨eB, A, hr, hA⟩ e => by
    cases a with
    | inl x => cases e
    | inr y => cases e; exact ⟨eB, A, hr, hA⟩
theorem ex_inl (h : EX X F e te G G' r m) : EX X F e te G G' (rSum r q) (bnd m fun a => ret (Sum.inl a)) := ⟨h.pe, go_map h.go fun _ _ _ _ _ h => h⟩
theorem ex_inr {mq : SM S Z} (h : EX X F e te G G' q mq) : EX X F e te G G' (rSum r q) (bnd mq fun a => ret (Sum.inr a)) := ⟨h.pe, go_map h.go fun _ _ _ _ _ h => h⟩
/-- [a, b] of unlike things -/
theorem ex_l2 (h1 : EX X F a ta G G1 r1 m1) (h2 : EX X F b tb G1 G2 r2 m2) (hs2 : PySem.W.isStarred a = false := by rfl) (hs1 : PySem.W.isStarred b = false := by rfl) : EX X F (.List [a, b] pos) (tLst (tCons ta (tCons tb tNil))) G G2 (rL2 r1 r2) (bnd m1 fun a => bnd m2 fun b => ret (a, b)) :=
  ⟨pe_lst (pa_cons h1.pe (pa_cons h2.pe pa_nil (star1 hs1)) (star1 hs2)), fun T t σ s H Q h q => by
    refine h1.go T t σ s H _ h (wp_mono (wp_bnd q) (fun a s1 q1 v H1 at1 => ?_) fun _ _ z => z)
    refine h2.go _ _ σ s1 H1 _ at1 (wp_mono (wp_bnd q1) (fun b s2 q2 w H2 at2 => ?_) fun _ _ z => z)
    refine ⟨by show 2 ≤ sizeLine; decide, fun p hp => ?_⟩
    exact q2 _ _ (at2.l2 hp)⟩
theorem ex_l2_0 {R : Rp (W × Z)} {ax : U → W × Z} {j : Nat} (eR : R = rL2 r2 q) (h : EO X F a ta G G' arg m) (c : r2.Cp) (hx : ∀ a s, RdS (G' s) (arg a) R (ax a)) :
    EX X F (.Subscript a (.Constant (.int 0) j p1) pos) (tOp (rIxL X.K) ta (tC (.int 0))) G G' r2 (bnd m fun a => ret (ax a).1) :=
  ⟨pe_ix ix_list h.pe pe_int fun _ _ => rfl, fun T t σ s H Q h0 q => h.go T t σ s H _ h0 (wp_mono (wp_bnd q) (fun a s1 q1 ts v H1 at1 av => by
    subst eR
    obtain ⟨A1, A2, at1⟩ := at1
    obtain ⟨v', e1, _, C, ⟨p, v1, v2, B1, B2, ev, hp, h1, h2, eC⟩, hC⟩ := rdS (j := 0) at1 av rfl (hx a s1)
    cases e1
    have eB := c h1
    subst eB
    exact ⟨p, [v1, v2], 0, v1, ev, rfl, SqL.of hp, rfl, q1 v1 H1 (at1.fin av h1)⟩) fun _ _ z => z)⟩
theorem ex_l2_1 {R : Rp (W × Z)} {ax : U → W × Z} {j : Nat} (eR : R = rL2 r2 q) (h : EO X F a ta G G' arg m) (hx : ∀ a s, RdS (G' s) (arg a) R (ax a)) :
    EX X F (.Subscript a (.Constant (.int 1) j p1) pos) (tOp (rIxL X.K) ta (tC (.int 1))) G G' (sh q) (bnd m fun a => ret (ax a).2) :=
  ⟨pe_ix ix_list h.pe pe_int fun _ _ => rfl, fun T t σ s H Q h0 q => h.go T t σ s H _ h0 (wp_mono (wp_bnd q) (fun a s1 q1 ts v H1 at1 av => by
    subst eR
    obtain ⟨A1, A2, at1⟩ := at1
    obtain ⟨v', e1, _, C, ⟨p, v1, v2, B1, B2, ev, hp, h1, h2, eC⟩, hC⟩ := rdS (j := 0) at1 av rfl (hx a s1)
    cases e1
    exact ⟨p, [v1, v2], 1, v2, ev, rfl, SqL.of hp, rfl, q1 v2 H1 (at1.fin (r := sh _) av ⟨rfl, B2, h2, fun x hx => hC x (by rw [eC]; exact List.mem_cons_of_mem _ (List.mem_append_right _ hx))⟩)⟩) fun _ _ z => z)⟩
/-- e.value of a caught error -/
theorem ex_value {oe : U → Option Exn} {l : List Str} (xi : ∀ c, c ∈ l → XIs X.K c) (h : EO X F a ta G G' arg m) (hx : ∀ a s, RdS (G' s) (arg a) (rOpt rExc) (oe a)) (hba : attributeBase a "value" X.env (eval a X.env) = eval a X.env := by rfl) :
    EX X F (.Attribute a "value" pos) (fun σ H Q => ta σ H fun x H1 => ∃ (p d : Addr) (c : Str) (w : V), x = .ref p ∧ H1 p = some (ExK (.ref (ga X.K c)) (some d) p) ∧ XIs X.K c ∧ H1 d = some (.xd [("value", w)]) ∧ Q w H1) G G' (sh rPay) (bnd m fun a => bnd (asM (oe a)) fun e => bnd (grd (e.cls ∈ l)) fun _ => ret e.pay) :=
  ⟨⟨fun pins s σ H Q I h' => attr_of hba (thn (h.pe.run pins s σ H _ I h') fun u s1 ⟨x, H1, I1, rx, p, d, c, w, ex, hp, xi, hd, q⟩ => by
    subst ex
    obtain rfl : u = Value.ref p := rx
    obtain ⟨oe, vs, ho, hz, hv⟩ := exK_at I1.hok hp
    have hx : ObjOk X.prog X.w H1 s1.heap d (.xd [(("value" : Str), w)]) := I1.hok d _ hd
    obtain ⟨mA, hns, hr⟩ := hx
    obtain ⟨od, ho2, hl⟩ := lookIn_ns hns
    have l : List.lookup ("value" : Str) [(("value" : Str), w)] = some w := by simp [List.lookup]
    obtain ⟨u, hu, ru⟩ := RelO.some_of (v := w) (o := mA "value") (by rw [← l]; exact hr "value")
    have J : PySem.W.InstAt s1.heap p oe (ga X.K c) (some od) := ⟨ho, hz.1, by unfold PySem.W.notCls; rw [hv] <;> rfl, by rw [hz.2]; exact ho2⟩
    exact PySem.HandSPX.exc_get I1.kIn J xi.ga xi.gg xi.sb (PySem.W.findObj_own xi.hd xi.nv rfl (by rw [hl, hu])) (handed_of ru) ⟨w, H1, I1.tok _, ru, q⟩)⟩,
  fun T t σ s H Q h0 q => h.go T t σ s H _ h0 (wp_mono (wp_bnd q) (fun a s1 q1 ts v H1 at1 av => by
    obtain ⟨A1, A2, at1⟩ := at1
    obtain ⟨e, ee, q2⟩ := wp_asM (wp_bnd q1)
    obtain ⟨hc, q3⟩ := wp_grd (wp_bnd q2)
    obtain ⟨v', e1, _, C, hr, hC⟩ := rdS (j := 0) at1 av rfl (hx a s1)
    cases e1
    rw [ee] at hr
    obtain ⟨p, d, w, C', ev, hp, hd, hw, eC⟩ := hr
    exact ⟨p, d, e.cls, w, ev, hp, xi _ hc, hd, q3 w H1 (at1.fin (r := sh rPay) av ⟨rfl, C', hw, fun x hx => hC x (by rw [eC]; exact List.mem_cons_of_mem _ (List.mem_cons_of_mem _ hx))⟩)⟩) fun _ _ z => z)⟩
/-- isinstance(e, C) of what may be a caught error -/
def isXM (l : List (Str × Bool)) : Option Exn → SM S Bool
  | none => ret false
  | some e => asM (isTab l e.cls)
theorem wp_isXM {l : List (Str × Bool)} {o : Option Exn} {s : S} {P : Bool → S → Prop} {E : Exn → S → Prop} (h : (isXM l o s).wp P E) : ∃ b, P b s ∧ ((o = none ∧ b = false) ∨ ∃ e, o = some e ∧ isTab l e.cls = some b) := by
  cases o with
  | none => exact ⟨false, h, .inl ⟨rfl, rfl⟩⟩
  | some e =>
    obtain ⟨b, eb, q⟩ := wp_asM h
    exact ⟨b, q, .inr ⟨e, rfl, eb⟩⟩
theorem tab_mem {l : List (Str × Bool)} : ∀ {c : Str} {b : Bool}, isTab l c = some b → c ∈ l.map (·.1) := by
  induction l with
  | nil => intro c b h; cases h
  | cons p l ih =>
    intro c b h
    obtain ⟨d, b'⟩ := p
    unfold isTab at h
    rw [List.lookup_cons] at h
    by_cases q : c = d
    · rw [q]; exact List.mem_cons_self ..
    · rw [show (c == d) = false by simpa using q] at h
      exact List.mem_cons_of_mem _ (ih h)
theorem xt_of {K : PySem.W.Frag} {H : Hp} {M : List Addr} {v : V} {o : Option Exn} {B : List Addr} (h : (rOpt rExc).rel K M H v o B) (xi : ∀ e, o = some e → XIs K e.cls) : XT K H v (o.map (·.cls)) := by
  cases o with
  | none =>
    have e : v = .non := h.1
    rw [e]; exact .non
  | some e =>
    obtain ⟨a, d, w, C, ev, ha, hd, _⟩ := h
    rw [ev]
    exact .exc ha (fun x ex => ⟨_, by cases ex; exact hd⟩) (xi e rfl)
def kisV (K : PySem.W.Frag) (l : List (Str × Bool)) (u : Value) : Bool := (l.all fun p => decide (PySem.W.kitOne K (.ref (ga K p.1)) u = some p.2)) && decide (PySem.W.kitOne K (.type "NoneType") u = some false)
def kisTV (K : PySem.W.Frag) (l : List (Str × Bool)) (us : List Value) : Bool := (l.all fun p => decide (PySem.W.kitAny K (.ref (ga K p.1)) us = some p.2)) && decide (PySem.W.kitAny K (.type "NoneType") us = some false)
theorem ex_isX {oe : U → Option Exn} {l : List (Str × Bool)} {cv : V} {u : Value} (xi : ∀ c, c ∈ l.map (·.1) → XIs X.K c) (hk : kisV X.K l u = true) (hcv : ClsV cv u) (hcp : PE X b (tC cv)) (h : EO X F a ta G G' arg m) (hx : ∀ a s, Rdd (G' s) (arg a) (rOpt rExc) (oe a)) (hg : Gl X "isinstance") (hm : X.mg "isinstance" = none)
    (hs : PySem.W.isStarred a = false := by rfl) (hs2 : PySem.W.isStarred b = false := by rfl) (hpl : (backTo pos (starEach [b] X.env)).any (·.1) = false := by rfl) :
    EX X F (.Call (.Name "isinstance" p0) [a, b] [] pos) (tCB (fun xs H Q => ∃ (x cv : V) (u : Value) (c : Option Str) (b : Bool), xs = [x, cv] ∧ ClsV cv u ∧ XT X.K H x c ∧ PySem.W.kitOne X.K (xtO X.K c) u = some b ∧ Q (.bl b) H) (tCons ta (tCons (tC cv) tNil))) G G' rBool (bnd m fun a => isXM l (oe a)) :=
  ⟨pe_callB call_isX hg hm (by decide +kernel) (pa_cons h.pe (pa_cons hcp pa_nil (star1 hs2)) (star1 hs)) (he := star1 hs) (hpl := hpl), fun T t σ s H Q h0 q => h.go T t σ s H _ h0 (wp_mono (wp_bnd q) (fun a s1 q1 ts v H1 at1 av => by
    obtain ⟨A1, A2, at1⟩ := at1
    obtain ⟨v', B, e1, hr⟩ := rddM (j := 0) at1 av rfl (hx a s1)
    cases e1
    obtain ⟨bb, q2, hb⟩ := wp_isXM q1
    refine ⟨v, cv, u, (oe a).map (·.cls), bb, rfl, hcv, xt_of hr fun e ee => ?_, ?_, q2 _ H1 (at1.fin av ⟨rfl, rfl⟩)⟩
    · rcases hb with ⟨z, _⟩ | ⟨e', z, hb⟩
      · rw [ee] at z; cases z
      · rw [ee] at z; cases z
        exact xi _ (tab_mem hb)
    · obtain ⟨k1, k2⟩ := ba hk
      rcases hb with ⟨z, eb⟩ | ⟨e', z, hb⟩
      · rw [z, eb]; exact of_decide_eq_true k2
      · rw [z]
        exact isTab_of (α := Unit) (f := fun c => PySem.W.kitOne X.K (.ref (ga X.K c)) u) (fun p hp => of_decide_eq_true (List.all_eq_true.mp k1 p hp)) hb) fun _ _ z => z)⟩
/-- isinstance(e, (C, D, ..)) -/
theorem ex_isXT {oe : U → Option Exn} {l : List (Str × Bool)} {cvs : List V} {us : List Value} {tt : TE} (xi : ∀ c, c ∈ l.map (·.1) → XIs X.K c) (hk : kisTV X.K l us = true) (hcv : Paired ClsV cvs us) (hcp : PE X b tt) (ht : ∀ σ H Q, (∀ p, H p = none → Q (.ref p) (upd H p (.tup cvs))) → tt σ H Q) (h : EO X F a ta G G' arg m) (hx : ∀ a s, Rdd (G' s) (arg a) (rOpt rExc) (oe a)) (hg : Gl X "isinstance") (hm : X.mg "isinstance" = none)
    (hs : PySem.W.isStarred a = false := by rfl) (hs2 : PySem.W.isStarred b = false := by rfl) (hpl : (backTo pos (starEach [b] X.env)).any (·.1) = false := by rfl) :
    EX X F (.Call (.Name "isinstance" p0) [a, b] [] pos) (tCB (fun xs H Q => ∃ (x : V) (tp : Addr) (cs : List V) (us : List Value) (c : Option Str) (b : Bool), xs = [x, .ref tp] ∧ H tp = some (.tup cs) ∧ Paired ClsV cs us ∧ XT X.K H x c ∧ PySem.W.kitAny X.K (xtO X.K c) us = some b ∧ Q (.bl b) H) (tCons ta (tCons tt tNil))) G G' rBool (bnd m fun a => isXM l (oe a)) :=
  ⟨pe_callB call_isXT hg hm (by decide +kernel) (pa_cons h.pe (pa_cons hcp pa_nil (star1 hs2)) (star1 hs)) (he := star1 hs) (hpl := hpl), fun T t σ s H Q h0 q => h.go T t σ s H _ h0 (wp_mono (wp_bnd q) (fun a s1 q1 ts v H1 at1 av => by
    refine ht σ H1 _ fun p hp => ?_
    have at2 := at1.heap (H' := upd H1 p (.tup cvs)) fun x o e => by rw [upd_ne (ne_of_none e hp)]; exact e
    obtain ⟨A1, A2, at2⟩ := at2
    obtain ⟨v', B, e1, hr⟩ := rddM (j := 0) at2 av rfl (hx a s1)
    cases e1
    obtain ⟨bb, q2, hb⟩ := wp_isXM q1
    refine ⟨v, p, cvs, us, (oe a).map (·.cls), bb, rfl, upd_same, hcv, xt_of hr fun e ee => ?_, ?_, q2 _ _ (at2.fin av ⟨rfl, rfl⟩)⟩
    · rcases hb with ⟨z, _⟩ | ⟨e', z, hb⟩
      · rw [ee] at z; cases z
      · rw [ee] at z; cases z
        exact xi _ (tab_mem hb)
    · obtain ⟨k1, k2⟩ := ba hk
      rcases hb with ⟨z, eb⟩ | ⟨e', z, hb⟩
      · rw [z, eb]; exact of_decide_eq_true k2
      · rw [z]
        exact isTab_of (α := Unit) (f := fun c => PySem.W.kitAny X.K (.ref (ga X.K c)) us) (fun p hp => of_decide_eq_true (List.all_eq_true.mp k1 p hp)) hb) fun _ _ z => z)⟩
end
end Td

set_option Elab.async false
set_option linter.all false
set_option maxRecDepth 100000
set_option maxHeartbeats 4000000
namespace Td
open PySem PySem.Spec PyProof.Rows L2 He
section
variable {X : Cx} {S : Type} {F : FC X.K S} {U W Z A B : Type} {a b : Expr} {ta tb : TE} {G G1 G2 : S → List Slot} {m2 : SM S W} {argW : W → Arg} {pos : Pos}
theorem go_ninB {xs : W → List Bool} {mi : SM S Bool} (h1 : GE F ta G G1 rBool mi) (h2 : GO F tb G1 G2 argW m2) (hx : ∀ a s, Rdd (G2 s) (argW a) (rList rBool) (xs a)) :
    GE F (tOp (rIn X.K true) ta tb) G G2 rBool (bnd mi fun i => bnd m2 fun b => ret (!((xs b).any (· == i)))) :=
  go_op2 (fun T t σ s H Q h0 q => h1 T t σ s H Q h0 (wp_mono q (fun a s1 q1 v H1 at1 => q1 [v] v H1 (by simpa [tmps] using at1) (.t .nil)) fun _ _ z => z)) h2 (argU := fun a => .t (.is rBool a)) (fun _ _ => stl_ret _) fun i b s T t ts x y σ H Q A1 A2 at1 av q => by
    obtain ⟨v, B, e1, ei, _⟩ := rddM (j := 0) at1 av rfl .t
    obtain ⟨v2, B2, e2, p2, vs2, A', ev2, hp2, hA2, eB2⟩ := rddM (j := 1) at1 av rfl (hx b s)
    cases e1; cases e2
    have evs := all_pl hA2
    subst evs ei
    refine ⟨p2, _, ev2, .inl (SqL.of hp2), rfl, by simp [flatV], ?_⟩
    have e : inV (.bl i) ((xs b).map V.bl) = (xs b).any (· == i) := by
      unfold inV
      rw [List.any_map]
      rfl
    show Q (.bl (if true = true then _ else _)) H
    rw [if_pos rfl, e]
    exact q.2 _ H (at1.fin av ⟨rfl, rfl⟩)
theorem ex_ninB {xs : W → List Bool} {mi : SM S Bool} (h1 : EX X F a ta G G1 rBool mi) (h2 : EO X F b tb G1 G2 argW m2) (hx : ∀ a s, Rdd (G2 s) (argW a) (rList rBool) (xs a)) (hm : behindInMarks .NotIn b = false := by with_unfolding_all rfl) :
    EX X F (.Compare a [.NotIn] [b] pos) (tOp (rIn X.K true) ta tb) G G2 rBool (bnd mi fun i => bnd m2 fun b => ret (!((xs b).any (· == i)))) := ⟨pe_cmpR op_notIn_seq h1.pe h2.pe hm, go_ninB h1.go h2.go hx⟩
theorem et_ninB {xs : W → List Bool} {mi : SM S Bool} (h1 : EX X F a ta G G1 rBool mi) (h2 : EO X F b tb G1 G2 argW m2) (hx : ∀ a s, Rdd (G2 s) (argW a) (rList rBool) (xs a)) (hm : behindInMarks .NotIn b = false := by with_unfolding_all rfl) :
    ET X F (.Compare a [.NotIn] [b] pos) (tTest (tOp (rIn X.K true) ta tb)) G G2 (bnd mi fun i => bnd m2 fun b => ret (!((xs b).any (· == i)))) := ⟨pt_cmpR op_notIn_seq h1.pe h2.pe hm, go_test (go_ninB h1.go h2.go hx)⟩
end
section
variable {X : Cx} {S : Type} {F : FC X.K S} {U N L R : Type} {G G1 G2 : S → List Slot} {GN : N → S → List Slot} {GL : L → S → List Slot} {r : Rp R} {r1 : Rp U} {pos p0 p1 apos cpos : Pos} {rest : List Stmt} {tr : TS} {e e2 : Expr} {te te2 : TE}
def insM {T : Type} (xs : List T) (i : Int) (y : T) : SM S (List T) := bnd (grd (xs.length < sizeLine ∧ 0 ≤ i ∧ i < 2 ^ 63)) fun _ => ret (xs.take i.toNat ++ [y] ++ xs.drop i.toNat)
theorem all3_ins {T : Type} {R' : V → T → List Addr → Prop} {vs : List V} {as : List T} {v : V} {y : T} (h : All3 R' vs as []) (hy : R' v y []) (k : Nat) : All3 R' (vs.take k ++ [v] ++ vs.drop k) (as.take k ++ [y] ++ as.drop k) [] := by
  have key : ∀ {vs : List V} {as : List T} {B : List Addr}, All3 R' vs as B → B = [] → ∀ k, All3 R' (vs.take k ++ [v] ++ vs.drop k) (as.take k ++ [y] ++ as.drop k) [] := by
    intro vs as B h
    induction h with
    | nil =>
      intro _ k
      simp only [List.take_nil, List.drop_nil, List.nil_append, List.append_nil]
      exact .cons (B := []) hy .nil
    | @cons v1 a1 B1 vs as C h1 t ih =>
      intro eB k
      obtain ⟨e1, e2⟩ := List.append_eq_nil_iff.mp eB
      subst e1 e2
      cases k with
      | zero => exact .cons (B := []) hy (.cons (B := []) h1 t)
      | succ k => exact .cons (B := []) h1 (ih rfl k)
  exact key h rfl k
/-- x.insert(i, e) of an own list -/
theorem bx_ins {xs : List U} {mi : SM S Int} {me : SM S U} {out : List U → SM S (Fl N L R)} {x : Str} (i : Nat) (c : r1.Cp) (h : EX X F e te G G1 rInt mi) (h2 : EX X F e2 te2 G1 G2 r1 me) (hG0 : ∀ s, (G s)[i]? = some (.is (rList r1) xs)) (hG : ∀ s, (G2 s)[i]? = some (.is (rList r1) xs))
    (hb : ∀ ys, BX X F rest tr (fun s => (G2 s).set i (.is (rList r1) ys)) GN GL r (out ys))
    (hN : X.N[i]? = some x := by rfl) (hv : Vis X.env.scope x := by first | exact Or.inl rfl | exact Or.inr (Or.inl rfl) | exact Or.inr (Or.inr rfl)) (hd : (x == ("__debug__" : Str)) = false := by decide) (hcd : (x == ("__classdict__" : Str)) = false := by decide)
    (hs : PySem.W.isStarred e = false := by rfl) (hs2 : PySem.W.isStarred e2 = false := by rfl)
    (hfew : ((backTo cpos (starEach (e :: [e2]) X.env)).all (fun x => !x.1) && (backToKw cpos (keywordEach [] X.env)).all (fun x => x.1.isSome)
      && decide ((e :: [e2]).length + ([] : List Keyword).length + (if ([] : List Keyword).isEmpty then 0 else 1) < 30)) = true := by rfl) (hline : (apos.endLine == cpos.line) = true := by rfl)
    (hpl : (backTo cpos (starEach [e2] X.env)).any (·.1) = false := by rfl)
    (hsw : swapsWith (.Call (.Attribute (.Name x p0) "insert" apos) [e, e2] [] cpos) none pos.line X.env = pure false := by rfl)
    (hbase : attributeBase (.Name x p0) "insert" X.env (eval (.Name x p0) X.env) = eval (.Name x p0) X.env := by rfl) :
    BX X F (.Expr (.Call (.Attribute (.Name x p0) "insert" apos) [e, e2] [] cpos) pos :: rest) (tSeq (tDrop (tBM X.K "list" (fun x vs H Q => ∃ (l : Addr) (xs : List V) (i : Int) (y : V), x = .ref l ∧ vs = [.int i, y] ∧ H l = some (.lst xs) ∧ xs.length < sizeLine ∧ 0 ≤ i ∧ i < 2 ^ 63 ∧ Q .non (upd H l (.lst (xs.take i.toNat ++ [y] ++ xs.drop i.toNat)))) (tVar i) (tCons te (tCons te2 tNil)))) tr) G GN GL r (bnd mi fun k => bnd me fun y => bnd (insM xs k y) out) :=
  ⟨pss_cons (ps_expr (pe_bm PySem.F.plainAttrs_list PySem.F.slot_list_insert PySem.F.type_list_insert mt_insert (pe_var hN hv hd hcd) (pa_cons h.pe (pa_cons h2.pe pa_nil (star1 hs2)) (star1 hs)) hbase hfew hline (star1 hs) hpl) hsw) (hb []).ps, fun T t σ s H D h0 q => by
    obtain ⟨v0, M0, B0, ev0, hr0⟩ := h0.slot (hG0 s)
    obtain ⟨p0', vs0, A0, ep0, hp0, _⟩ := hr0
    subst ep0
    refine ⟨_, ev0, ty_lst hp0, ?_⟩
    refine h.go T t σ s H _ h0 (wp_mono (wp_bnd q) (fun k s1 q1 w H1 at1 => ?_) fun e s z => z σ)
    refine h2.go _ _ σ s1 H1 _ at1 (wp_mono (wp_bnd q1) (fun y s2 q2 v H2 at2 => ?_) fun e s z => z σ)
    obtain ⟨⟨hz, hi1, hi2⟩, q3⟩ := wp_grd (wp_bnd (wp_bnd q2))
    obtain ⟨_, _, ek, _⟩ := snd_rel at2
    subst ek
    obtain ⟨A1, A2, at4⟩ := at2
    obtain ⟨C, A', eA, ⟨v', ev, hry⟩, ht⟩ := AtS.cons_inv at4.tmp
    cases ev
    have eC := c hry
    subst eC
    obtain ⟨C2, A'', eA2, ⟨v2, ev2, hi0⟩, ht2⟩ := AtS.cons_inv ht
    cases ev2
    have eC2 := cp_int hi0
    subst eC2
    obtain ⟨D', vs, B, e1, hD, hA, hl, nd0, kk⟩ := at4.mutS (hG s2)
    rw [ev0] at e1
    cases e1
    have eB := cp_all c hA
    subst eB
    refine ⟨p0', vs, k, v, rfl, rfl, hD, by rw [hl]; exact hz, hi1, hi2, ?_⟩
    exact (hb _).go T t σ s2 _ D (kk _ _ [] T t A'' (all3_ins hA hry _) ht2 (by rw [eA, eA2] at nd0; exact nd0) fun p hp => by rw [eA, eA2]; exact hp) q3⟩
/-- x.pop() of an own list -/
def popE {T : Type} (xs : List T) : SM S (List T) := match xs[xs.length - 1]? with
  | some _ => ret xs.dropLast
  | none => stk
theorem wp_popE {T : Type} {xs : List T} {s : S} {P : List T → S → Prop} {E : Exn → S → Prop} (h : (popE xs s).wp P E) : (∃ y, xs[xs.length - 1]? = some y) ∧ P xs.dropLast s := by
  unfold popE at h
  cases e : xs[xs.length - 1]? with
  | none => rw [e] at h; exact h.elim
  | some y => rw [e] at h; exact ⟨⟨y, rfl⟩, h⟩
theorem all3_dropLast {T : Type} {R' : V → T → List Addr → Prop} {vs : List V} {as : List T} (h : All3 R' vs as []) : All3 R' vs.dropLast as.dropLast [] := by
  have e1 : vs.dropLast = vs.eraseIdx (vs.length - 1) := by rw [List.eraseIdx_length_sub_one]
  have e2 : as.dropLast = as.eraseIdx (as.length - 1) := by rw [List.eraseIdx_length_sub_one]
  rw [e1, e2, h.length]
  exact all3_erase _ h
theorem bx_pop0 {xs : List U} {out : List U → SM S (Fl N L R)} {x : Str} (i : Nat) (c : r1.Cp) (hG0 : ∀ s, (G s)[i]? = some (.is (rList r1) xs))
    (hb : ∀ ys, BX X F rest tr (fun s => (G s).set i (.is (rList r1) ys)) GN GL r (out ys))
    (hN : X.N[i]? = some x := by rfl) (hv : Vis X.env.scope x := by first | exact Or.inl rfl | exact Or.inr (Or.inl rfl) | exact Or.inr (Or.inr rfl)) (hd : (x == ("__debug__" : Str)) = false := by decide) (hcd : (x == ("__classdict__" : Str)) = false := by decide)
    (hline : (apos.endLine == cpos.line) = true := by rfl)
    (hsw : swapsWith (.Call (.Attribute (.Name x p0) "pop" apos) [] [] cpos) none pos.line X.env = pure false := by rfl)
    (hbase : attributeBase (.Name x p0) "pop" X.env (eval (.Name x p0) X.env) = eval (.Name x p0) X.env := by rfl) :
    BX X F (.Expr (.Call (.Attribute (.Name x p0) "pop" apos) [] [] cpos) pos :: rest) (tSeq (tDrop (tBM X.K "list" rPop (tVar i) tNil)) tr) G GN GL r (bnd (popE xs) out) :=
  ⟨pss_cons (ps_expr (pe_bm0 PySem.F.plainAttrs_list PySem.F.slot_list_pop PySem.F.type_list_pop mt_pop (pe_var hN hv hd hcd) hbase (hline := hline)) hsw) (hb []).ps, fun T t σ s H D h0 q => by
    obtain ⟨v0, M0, B0, ev0, hr0⟩ := h0.slot (hG0 s)
    obtain ⟨p0', vs0, A0, ep0, hp0, hA0, _⟩ := hr0
    subst ep0
    have eA := cp_all c hA0
    subst eA
    obtain ⟨⟨y, hy⟩, q2⟩ := wp_popE (wp_bnd q)
    refine ⟨_, ev0, ty_lst hp0, ?_⟩
    obtain ⟨D', vs, e1, hD, hl, k3⟩ := h0.putS (ys := xs.dropLast) c (hG0 s)
    rw [ev0] at e1
    cases e1
    rw [hD] at hp0
    cases hp0
    obtain ⟨u, eu, _⟩ := all3_at hA0 hy
    exact ⟨p0', _, u, rfl, rfl, hD, by rw [hl]; exact eu, (hb _).go T t σ s _ D (k3 _ fun M z => all3_dropLast z) q2⟩⟩
end
end Td
namespace Td
open PySem PySem.Spec PyProof.Rows L2 He
theorem nn_exc : rExc.Nn := fun ⟨_, _, _, _, e, _⟩ z => by rw [e] at z; cases z
def ctIn (l : List Str) (c : Str) : Bool := l.contains c
theorem ctIn_ok {K : PySem.W.Frag} {l : List Str} {t : Str} (h : (l.all fun c => exmB K c t) = true) : ∀ c, ctIn l c = true → PySem.W.exmOne K (.ref (ga K c)) (.ref (ga K t)) = some true := fun c hc =>
  of_decide_eq_true (List.all_eq_true.mp h c (by simpa [ctIn] using hc))
theorem xis_ok {K : PySem.W.Frag} {l : List Str} (h : l.all (xisB K) = true) : ∀ c, c ∈ l → XIs K c := fun c hc => xisB_ok (List.all_eq_true.mp h c hc)
end Td

set_option Elab.async false
set_option linter.all false
set_option maxRecDepth 100000
set_option maxHeartbeats 4000000
namespace L2
open PySem PySem.Spec PyProof.Rows SlX StX
section
variable {X : Cx} {pins : List (Addr × Obj)} {σ : L2.St} {H : Hp} {s : Shared} {k n : Nat} {g C : Addr} {sp : Sp} {E : L2.St → XK} {fd : FuncData} {ps ks : List Str} {gg : List Value → List Value → List Value} {gV : List V → List V → List V}
/-- a callee below the running body; what it raises is wished for at the slots -/
theorem at_slots {A : Around} {CX : CXT} {Q : VK} {us : List Value} {ws : List V} (F : FnR X.prog X.w X.K X.mg X.base CX k g sp) (hr : Room k A) (e0 : Env0 X.prog X.w X.K X.mg X.base A X.stack s H) (hx : PassesAt CX X σ (E σ)) (I : Inv X pins σ H s) (r : Vals ws us) (h : sp ws H Q (E σ)) :
    codeAny (model X.prog X.w) A (.call (.ref g) ⟨us, []⟩) (fun r s' => match r with | .ok (.ret v) => EP X pins σ Q v s' | .ok _ => False | .error e => X.xe e s') s :=
  codeAny_mono (F A X.stack s H us ws Q (E σ) hr e0 r h) fun z s' hq => match z, hq with
    | .error e, hq => hx pins H s e s' I hq
    | .ok (.ret u), hq => I.after hq
    | .ok .next, hq => hq.elim
    | .ok .brk, hq => hq.elim
    | .ok .cont, hq => hq.elim
/-- C(..): the new instance, then __init__ -/
theorem make_slots {CX : CXT} {Q : VK} {us : List Value} {vs : List V} (M : Mk X.K C g) (F : FnR X.prog X.w X.K X.mg X.base CX k g sp) (hr : Room (k + 1) X.A) (hx : PassesAt CX X σ (E σ)) (I : Inv X pins σ H s) (r : Vals vs us)
    (h : ∀ x dx, H x = Option.none → H dx = Option.none → dx ≠ x → sp (V.ref x :: vs) (upd (upd H dx (.own x)) x (.ins C dx [])) (fun v H2 => v = .non ∧ Q (.ref x) H2) (E σ)) :
    wpAny (model X.prog X.w) X.A (call (.ref C) us) (EP X pins σ Q) X.xe s := by
  have I2 := Inv.made (C := C) I
  have hq := h (s.heap.objs.size + 1) s.heap.objs.size (I.hok.fresh (Nat.le_succ _)) (I.hok.fresh (Nat.le_refl s.heap.objs.size)) (Nat.ne_of_lt (Nat.lt_succ_self _))
  refine wpAny_call (make_map (f := g) I.kIn M.makes M.init (beq_iff_eq.mp M.fn) (codeAny_mono (at_slots (us := Value.ref (s.heap.objs.size + 1) :: us) F (hr.make C us []) (I2.env0.make C us []) hx I2 (.cons (show RelV (V.ref (s.heap.objs.size + 1)) _ from rfl) r) hq) fun z s' hz => ?_))
  match z, hz with
  | .error e, hz => exact hz
  | .ok (.ret u), hz =>
    obtain ⟨v, H', I3, rv, ev, q3⟩ := hz
    subst ev
    exact ⟨rv, ⟨V.ref (s.heap.objs.size + 1), H', I3, rfl, q3⟩⟩
theorem make_slotsK {CX : CXT} {Q : VK} {us ws : List Value} {vs zs : List V} (M : Mk X.K C g) (F : FnOk X.prog X.w X.K X.mg X.base CX k g fd ps sp) (hr : Room (k + 1) X.A) (hb : KBn X.K fd ps (n + 1) ks gg gV) (hx : PassesAt CX X σ (E σ)) (I : Inv X pins σ H s) (r : Vals vs us) (rz : Vals zs ws) (l1 : vs.length = n) (l2 : zs.length = ks.length)
    (h : ∀ x dx, H x = Option.none → H dx = Option.none → dx ≠ x → sp (gV (V.ref x :: vs) zs) (upd (upd H dx (.own x)) x (.ins C dx [])) (fun v H2 => v = .non ∧ Q (.ref x) H2) (E σ)) :
    wpAny (model X.prog X.w) X.A (call (.ref C) us (ks.zip ws)) (EP X pins σ Q) X.xe s := by
  have I2 := Inv.made (C := C) I
  have hq := h (s.heap.objs.size + 1) s.heap.objs.size (I.hok.fresh (Nat.le_succ _)) (I.hok.fresh (Nat.le_refl s.heap.objs.size)) (Nat.ne_of_lt (Nat.lt_succ_self _))
  have n1 : (Value.ref (s.heap.objs.size + 1) :: us).length = n + 1 := congrArg (· + 1) (r.length.symm.trans l1)
  refine wpAny_call (make_map (f := g) I.kIn M.makes M.init (beq_iff_eq.mp M.fn) (codeAny_mono (F.run _ X.stack _ _ ⟨_ :: us, ks.zip ws⟩ _ _ _ (E σ) (hr.make C us (ks.zip ws)) (I2.env0.make C us (ks.zip ws)) (hb.to _ _ ws I2.kIn n1 (rz.length.symm.trans l2)) (hb.rel (.cons (show RelV (V.ref (s.heap.objs.size + 1)) _ from rfl) r) rz) hq) fun z s' hz => ?_))
  match z, hz with
  | .error e, hz => exact hx pins _ _ e s' I2 hz
  | .ok (.ret u), hz =>
    obtain ⟨v, H', I3, rv, ev, q3⟩ := I2.after hz
    subst ev
    exact ⟨rv, ⟨V.ref (s.heap.objs.size + 1), H', I3, rfl, q3⟩⟩
end
section
variable {X : Cx} {CX : CXT} {k n : Nat} {C g : Addr} {sp : Sp} {E : L2.St → XK} {fd : FuncData} {ps ks : List Str} {gg : List Value → List Value → List Value} {gV : List V → List V → List V} {x m : Str} {p pos apos : Pos} {e o : Expr} {es : List Expr} {kws : List Keyword} {ta : TE} {t tk : TA}
theorem pe_makeS (M : Mk X.K C g) (F : FnR X.prog X.w X.K X.mg X.base CX k g sp) (hr : Room (k + 1) X.A) (hg : Gl X x) (hm : X.mg x = some (.ref C)) (hx : ∀ σ, PassesAt CX X σ (E σ)) (ha : PA X (e :: es) t) (hdb : (x == ("__debug__" : Str)) = false := by decide)
    (he : starEach (e :: es) X.env = (false, eval e X.env) :: starEach es X.env := by rfl) (hpl : (backTo pos (starEach es X.env)).any (·.1) = false := by rfl) : PE X (.Call (.Name x p) (e :: es) [] pos) (fun σ H Q => tMakeR C sp (E σ) t σ H Q) :=
  ⟨fun pins s σ H Q I h => wpAny_Call_Name_kw (ld_glob I hg hm (PySem.W.callWith_K (h₀ := X.base) I.ok.mod.kin M.kp (thn (ha.run pos pins s σ H _ I h) fun _ _ ⟨_, _, I1, r, q⟩ => ⟨I1.kIn, make_slots M F hr (hx σ) I1 r q⟩) he hpl) hdb)⟩
theorem pe_makeKS (M : Mk X.K C g) (F : FnOk X.prog X.w X.K X.mg X.base CX k g fd ps sp) (hr : Room (k + 1) X.A) (hg : Gl X x) (hm : X.mg x = some (.ref C)) (hb : KBn X.K fd ps 1 ks gg gV) (hx : ∀ σ, PassesAt CX X σ (E σ)) (hkw : PK X kws tk)
    (hall : (backToKw pos (keywordEach kws X.env)).all (·.1.isSome) = true := by rfl) (hks : (backToKw pos (keywordEach kws X.env)).filterMap (·.1) = ks := by rfl) (hdb : (x == ("__debug__" : Str)) = false := by decide)
    (hpl : ((backTo pos (starEach [] X.env)).any (·.1) || (backToKw pos (keywordEach kws X.env)).any (·.1.isNone)) = false := by rfl) : PE X (.Call (.Name x p) [] kws pos) (fun σ H Q => tMakeK C 0 ks.length sp gV (E σ) tNil tk σ H Q) :=
  ⟨fun pins s σ H Q I h => wpAny_Call_Name_kw (ld_glob I hg hm (PySem.W.callWith_KW0 (h₀ := X.base) I.ok.mod.kin M.kp hall (thn (hkw.run pos pins s σ H _ I h) fun ws s2 ⟨zs, H2, I2, rz, l1, l2, q2⟩ => ⟨I2.kIn, by rw [hks]; exact make_slotsK (us := []) (vs := []) M F hr hb (hx σ) I2 .nil rz rfl l2 q2⟩) hpl) hdb)⟩
end
end L2
namespace Td
open PySem PySem.Spec PyProof.Rows L2 He SlX StX
section
variable {K : PySem.W.Frag} {S : Type} {F : FC K S} {T : List Slot} {t : List V} {G : S → List Slot} {σ : L2.St} {H : Hp}
theorem make_at {U : Type} {n : Nat} {Pr : U → List Slot} {f : U → SM TS0 Unit} {E : XK} {L : List Arg} {ts vs : List V} {u : U} {A1 A2 : List Addr} {Q : VK} {s : S} (at1 : AtP F ((tmps L).reverse ++ T) (ts.reverse ++ t) (G s) σ H A1 A2) (lts : ts.length = (tmps L).length) (hn : vs.length + 1 = n)
    (hent : AtS K (A1 ++ A2 ++ F.M0) H (Pr u) (vs.map some) []) (ht : t.length = T.length) (hW : ∀ c d H, F.W c d σ H → E c d H) (hw : Weak (G s) (F.io s))
    (q : (f u TS0.new).wp (fun _ s' => match s' with | .full a => ∀ v H', At F (.is rTape a :: T) (v :: t) (G s) σ H' → Q v H' | _ => False) (fun e _ => XP F σ e s)) {x dx : Addr} (hx : H x = none) (hd : H dx = none) (ne : dx ≠ x) :
    SpI K n rSelf Pr rNon f (.ref x :: vs) (upd (upd H dx (.own x)) x (.ins (tapeC K) dx [])) (fun v H2 => v = .non ∧ Q (.ref x) H2) E := by
  obtain ⟨at2, tail, rel, k, hM⟩ := at1.alloc hx hd ne
  refine run_ioS clo_self rel tail at2 lts hn ((hent.grow hM).keep fun p o e _ => k p o e) (wp_mono q (fun b s' q3 v H' hz => ?_) (fun e s' q3 d H' hz => ?_))
  · obtain ⟨_, _, hz0⟩ := id hz
    obtain ⟨_, _, _, _, ht0⟩ := AtS.cons_inv hz0.tmp
    obtain ⟨_, _, _, ⟨v', ev, eb, _⟩, _⟩ := AtS.cons_inv ht0
    cases ev
    subst eb
    refine ⟨rfl, ?_⟩
    cases s' with
    | new => exact q3.elim
    | half _ => exact q3.elim
    | full a =>
      have z1 : At F (.is rTape a :: .is rNon b :: T) (.ref x :: .non :: t) (G s) σ H' := by
        obtain ⟨C1, C2, hz⟩ := hz
        obtain ⟨B, A', eA, ⟨v', ev, hr⟩, ht⟩ := AtS.cons_inv hz.tmp
        subst eA
        exact ⟨_, C2, .cons ⟨v', ev, hr⟩ ht, hz.loc, hz.good⟩
      exact q3 _ H' (At.dropU (T1 := [_]) (t1 := [_]) rfl z1)
  · refine hW _ _ _ (q3 d H' ?_)
    have z2 := hz.weak hw
    exact At.dropM (T0 := [_]) (t0 := [.ref d]) (T := []) (t := []) rfl (T1 := T) (t1 := t) (by rw [ht]) (by simpa using z2)
end
section
variable {X : Cx} {S : Type} {F : FC X.K S} {U A B : Type} {n k : Nat} {is : List Nat} {Pr Pe : U → List Slot} {f : U → SM TS0 Unit} {ta tk : TA} {G G' : S → List Slot} {LA : A → List Arg} {mA : SM S A} {fA : Addr} {fd : FuncData} {ps ks : List Str} {x : Str} {p pos : Pos} {e : Expr} {es : List Expr} {kws : List Keyword} {gg : List Value → List Value → List Value} {Wx : WX}
theorem wp_tapeM {s : S} {s' : TS0} {P : TapeV → S → Prop} {E : Exn → S → Prop} (h : (tapeM s' s).wp P E) : match s' with | .full a => P a s | _ => False := by
  cases s' with
  | new => exact h.elim
  | half _ => exact h.elim
  | full a => exact h
/-- Tape(e, ..) in a try's body, a new one -/
theorem ex_makeS {fm : A → SM TS0 Unit} (u : A → U) (M : Mk X.K (tapeC X.K) fA) (FO : FnOk X.prog X.w X.K X.mg X.base (L2.CX X.prog X.w) k fA fd ps (SpI X.K n rSelf Pr rNon f)) (hr : Room (k + 1) X.A) (hg : Gl X x) (hm : X.mg x = some (.ref (tapeC X.K))) (hb : Binds X.K fd ps []) (tkx : Takes X Wx) (hW : F.W = Wx)
    (h : EA X F (e :: es) ta G G' LA mA) (hn : ∀ a, (LA a).length + 1 = n) (he : ∀ a s, EntS (G' s) (LA a) (Pr (u a))) (hw : ∀ s, Weak (G' s) (F.io s)) (hf : ∀ a, fm a = f (u a) := by intro _; rfl)
    (hst : PySem.W.isStarred e = false := by rfl) (hpl : (backTo pos (starEach es X.env)).any (·.1) = false := by rfl) (hdb : (x == ("__debug__" : Str)) = false := by decide) :
    EX X F (.Call (.Name x p) (e :: es) [] pos) (fun σ H Q => tMakeR (tapeC X.K) (SpI X.K n rSelf Pr rNon f) (WE Wx σ) ta σ H Q) G G' rTape (bnd mA fun a => bnd (subM (fm a) TS0.new) fun p => tapeM p.2) :=
  ⟨pe_makeS M ((FnOk.raw FO hb .nil).imp fun vs H Q E q => by rw [List.append_nil]; exact q) hr hg hm (fun σ => passAt tkx σ) h.pa (hdb := hdb) (he := star1 hst) (hpl := hpl), fun T t σ s H Q h0 q => by
    have hl := at_len h0
    refine h.go T t σ s H _ h0 (wp_mono (wp_bnd q) (fun a s1 q1 ts vs H1 at1 av => ?_) fun _ _ z => z)
    have q2 := wp_subM (wp_bnd q1)
    obtain ⟨A1, A2, at1⟩ := at1
    rw [hf a] at q2
    intro x dx hx hd ne
    exact make_at at1 (argV_len av).2 (by rw [(argV_len av).1, hn]) (entS_at at1 av (he a s1)) hl (fun c d H z => by rw [hW] at z; exact z) (hw s1) (wp_mono q2 (fun b s' q3 => by
      have := wp_tapeM q3
      cases s' with
      | new => exact this
      | half _ => exact this
      | full a => exact this) fun _ _ z => z) hx hd ne⟩
/-- Tape(k = v, ..) in a try's body -/
theorem ex_makeKS {fm : A → SM TS0 Unit} (u : A → U) (M : Mk X.K (tapeC X.K) fA) (FO : FnOk X.prog X.w X.K X.mg X.base (L2.CX X.prog X.w) k fA fd ps (SpI X.K n rSelf Pr rNon f)) (hr : Room (k + 1) X.A) (hg : Gl X x) (hm : X.mg x = some (.ref (tapeC X.K))) (hb : KBn X.K fd ps 1 ks gg (fun vs zs => permL (0 :: is.map (· + 1)) (vs ++ zs))) (tkx : Takes X Wx) (hW : F.W = Wx)
    (h : EK X F kws tk G G' LA mA) (hn : ∀ a, (LA a).length = ks.length) (hl : ∀ u, (Pr u).length + 1 = n) (hp : ∀ u, (is.filterMap ((Pe u)[·]?)) = Pr u) (he : ∀ a s, EntS (G' s) (LA a) (Pe (u a))) (hw : ∀ s, Weak (G' s) (F.io s)) (hf : ∀ a, fm a = f (u a) := by intro _; rfl)
    (hall : (backToKw pos (keywordEach kws X.env)).all (·.1.isSome) = true := by rfl) (hks : (backToKw pos (keywordEach kws X.env)).filterMap (·.1) = ks := by rfl) (hdb : (x == ("__debug__" : Str)) = false := by decide)
    (hpl : ((backTo pos (starEach [] X.env)).any (·.1) || (backToKw pos (keywordEach kws X.env)).any (·.1.isNone)) = false := by rfl) :
    EX X F (.Call (.Name x p) [] kws pos) (fun σ H Q => tMakeK (tapeC X.K) 0 ks.length (SpI X.K n rSelf Pr rNon f) (fun vs zs => permL (0 :: is.map (· + 1)) (vs ++ zs)) (WE Wx σ) tNil tk σ H Q) G G' rTape (bnd mA fun a => bnd (subM (fm a) TS0.new) fun p => tapeM p.2) :=
  ⟨pe_makeKS M FO hr hg hm hb (fun σ => passAt tkx σ) h.pk hall hks hdb hpl, fun T t σ s H Q h0 q => by
    have hlt := at_len h0
    refine h.go T t σ s H _ h0 (wp_mono (wp_bnd q) (fun a s1 q1 ts vs H1 at1 av => ?_) fun _ _ z => z)
    have q2 := wp_subM (wp_bnd q1)
    obtain ⟨A1, A2, at1⟩ := at1
    rw [hf a] at q2
    refine ⟨rfl, by rw [(argV_len av).1, hn], fun x dx hx hd ne => ?_⟩
    have hent := atS_perm (entS_at at1 av (he a s1)) is
    rw [hp, permL_map] at hent
    have ev : permL (0 :: is.map (· + 1)) ([V.ref x] ++ vs) = V.ref x :: permL is vs := by
      rw [permL_cons]
      show V.ref x :: permL (is.map (· + 1)) (V.ref x :: vs) = _
      congr 1
      unfold permL
      rw [List.filterMap_map]
      rfl
    show SpI X.K n rSelf Pr rNon f (permL (0 :: is.map (· + 1)) ([V.ref x] ++ vs)) _ _ _
    rw [ev]
    exact make_at at1 (argV_len av).2 (by
      have := hent.length
      rw [List.length_map] at this
      rw [this, hl]) hent hlt (fun c d H z => by rw [hW] at z; exact z) (hw s1) (wp_mono q2 (fun b s' q3 => by
      have := wp_tapeM q3
      cases s' with
      | new => exact this
      | half _ => exact this
      | full a => exact this) fun _ _ z => z) hx hd ne⟩
end
end Td

set_option Elab.async false
set_option linter.all false
set_option maxRecDepth 100000
set_option maxHeartbeats 4000000
namespace L2
open PySem PySem.Spec PyProof.Rows
/-- o[a:c] = value, lists -/
def gSlc (to : TE) (tl th : TO) : TG := fun v σ H Q => to σ H fun o H1 => tl σ H1 fun a H2 => th σ H2 fun c H3 => ∃ (l b : Addr) (xs ys : List V) (i j : Int), o = .ref l ∧ v = .ref b ∧ a = some i ∧ c = some j ∧ H3 l = some (.lst xs) ∧ H3 b = some (.lst ys) ∧ l ≠ b ∧ 0 ≤ i ∧ i ≤ j ∧ j ≤ xs.length ∧
  xs.length + ys.length ≤ sizeLine ∧ Q σ (upd H3 l (.lst (xs.take i.toNat ++ ys ++ xs.drop j.toNat)))
theorem pg_slc {X : Cx} {o : Expr} {lo hi : Option Expr} {to : TE} {tl th : TO} {pos p2 : Pos} (ho : PE X o to) (hl : PO X lo tl) (hu : PO X hi th) : PG X (.Subscript o (.Slice lo hi none p2) pos) (gSlc to tl th) := by
  refine ⟨fun pins s σ H v u Q I r h => ?_⟩
  rw [PySem.arm_assign_Subscript]
  refine wpAny_bind (wpAny_holding (thn (ho.run pins s σ H _ I h) fun ov s1 ⟨x, H1, I1, r1, q1⟩ => ?_))
  refine wpAny_bind (wpAny_holding (wpAny_Slice (thn (hl.run pins s1 σ H1 _ I1 q1) fun vl s2 ⟨a, H2, I2, pl, q2⟩ => thn (hu.run pins s2 σ H2 _ I2 q2) fun vu s3 ⟨c, H3, I3, pu, q3⟩ => ?_)))
  rw [evalPart_none]
  refine wpAny_pure ?_
  have I4 : Inv X pins σ H3 { s3 with heap := s3.heap.push { cls := .type "slice", data := .fields #[vl, vu, .none] } } := I3.kept (t' := s3.toks) fun b ob q => Heap.get?_push_of_some _ q
  obtain ⟨l, b, xs, ys, i, j, ex, ev, ea, ec, hL, hB, ne, h0, h1, h2, hz, q⟩ := q3
  subst ex ev ea ec
  obtain rfl : ov = Value.ref l := r1
  obtain rfl : u = Value.ref b := r
  have rl : RelV (.int i) vl := by
    cases pl with
    | int _ t => exact ⟨t, rfl⟩
  have ru : RelV (.int j) vu := by
    cases pu with
    | int _ t => exact ⟨t, rfl⟩
  refine wpAny_bind (wpAny_standAt (wpAny_bind (wpAny_holding (set_slice I4 hL hB ne (Heap.IsSliceOf.new ..) rl ru h0 h1 h2 hz fun s' I5 => ?_))))
  exact wpAny_release ⟨σ, _, I5, q⟩
end L2
namespace Td
open PySem PySem.Spec PyProof.Rows L2 He
section
variable {X : Cx} {S : Type} {F : FC X.K S} {U N L R : Type} {G G1 G2 G3 : S → List Slot} {GN : N → S → List Slot} {GL : L → S → List Slot} {r : Rp R} {r1 : Rp U} {pos p0 p1 p2 : Pos} {rest : List Stmt} {tr : TS} {e e1 e2 : Expr} {te t1 t2 : TE}
def slcM {T : Type} (xs : List T) (a b : Int) (ys : List T) : SM S (List T) := bnd (grd (0 ≤ a ∧ a ≤ b ∧ b ≤ xs.length ∧ xs.length + ys.length ≤ sizeLine)) fun _ => ret (xs.take a.toNat ++ ys ++ xs.drop b.toNat)
theorem all3_tk {T : Type} {R' : V → T → List Addr → Prop} {vs : List V} {as : List T} (h : All3 R' vs as []) (k : Nat) : All3 R' (vs.take k) (as.take k) [] ∧ All3 R' (vs.drop k) (as.drop k) [] := by
  have key : ∀ {vs : List V} {as : List T} {B : List Addr}, All3 R' vs as B → B = [] → ∀ k, All3 R' (vs.take k) (as.take k) [] ∧ All3 R' (vs.drop k) (as.drop k) [] := by
    intro vs as B h
    induction h with
    | nil => intro _ k; simp only [List.take_nil, List.drop_nil]; exact ⟨.nil, .nil⟩
    | @cons v1 a1 B1 vs as C h1 t ih =>
      intro eB k
      obtain ⟨q1, q2⟩ := List.append_eq_nil_iff.mp eB
      subst q1 q2
      cases k with
      | zero => exact ⟨.nil, .cons (B := []) h1 t⟩
      | succ k => exact ⟨.cons (B := []) h1 (ih rfl k).1, (ih rfl k).2⟩
  exact key h rfl k
/-- x[a:b] = e, x an own list -/
theorem bx_slc {xs : List U} {me : SM S (List U)} {m1 m2 : SM S Int} {out : List U → SM S (Fl N L R)} {x : Str} (i : Nat) (c : r1.Cp) (h : EX X F e te G G1 (rList r1) me) (h1 : EX X F e1 t1 G1 G2 rInt m1) (h2 : EX X F e2 t2 G2 G3 rInt m2) (hG1 : ∀ s, (G1 s)[i]? = some (.is (rList r1) xs)) (hG : ∀ s, (G3 s)[i]? = some (.is (rList r1) xs)) (hb : ∀ ys, BX X F rest tr (fun s => (G3 s).set i (.is (rList r1) ys)) GN GL r (out ys))
    (hN : X.N[i]? = some x := by rfl) (hv : Vis X.env.scope x := by first | exact Or.inl rfl | exact Or.inr (Or.inl rfl) | exact Or.inr (Or.inr rfl)) (hd : (x == ("__debug__" : Str)) = false := by decide) (hcd : (x == ("__classdict__" : Str)) = false := by decide)
    (hs : swapsWithSole [(.Subscript (.Name x p0) (.Slice (some e1) (some e2) none p2) p1)] e pos.line X.env = pure false := by rfl) (hw : swappedStores [(.Subscript (.Name x p0) (.Slice (some e1) (some e2) none p2) p1)] e X.env = pure none := by rfl) (hh : (assignEach [(.Subscript (.Name x p0) (.Slice (some e1) (some e2) none p2) p1)] X.env).map (·.2) = [assign (.Subscript (.Name x p0) (.Slice (some e1) (some e2) none p2) p1) X.env] := by rfl) :
    BX X F (.Assign [.Subscript (.Name x p0) (.Slice (some e1) (some e2) none p2) p1] e pos :: rest) (tSeq (tAsg te (gSlc (tVar i) (tPart t1) (tPart t2))) tr) G GN GL r (bnd me fun ys => bnd m1 fun a => bnd m2 fun b => bnd (slcM xs a b ys) out) :=
  ⟨pss_cons (ps_asg h.pe (pg_slc (pe_var hN hv hd hcd) (po_some h1.pe) (po_some h2.pe)) hs hw hh) (hb []).ps, fun T t σ s H D h0 q => by
    refine h.go T t σ s H _ h0 (wp_mono (wp_bnd q) (fun ys s1 q1 v H1 at1 => ?_) fun e s z => z σ)
    obtain ⟨v0, M0, B0, ev0, _⟩ := at1.slot (hG1 s1)
    refine ⟨v0, ev0, ?_⟩
    refine h1.go _ _ σ s1 H1 _ at1 (wp_mono (wp_bnd q1) (fun a s2 q2 w H2 at2 => ?_) fun e s z => z σ)
    obtain ⟨_, _, ea, _⟩ := top_rel at2
    subst ea
    refine ⟨a, rfl, ?_⟩
    refine h2.go _ _ σ s2 H2 _ at2.pop (wp_mono (wp_bnd q2) (fun b s3 q3 w H3 at3 => ?_) fun e s z => z σ)
    obtain ⟨_, _, eb, _⟩ := top_rel at3
    subst eb
    refine ⟨b, rfl, ?_⟩
    obtain ⟨⟨g0, g1, g2, g3⟩, q4⟩ := wp_grd (wp_bnd (wp_bnd q3))
    obtain ⟨A1, A2, at4⟩ := at3.pop
    obtain ⟨C, A', eA, ⟨v', ev, p', vs', C', ep', hp', hA', eC'⟩, ht⟩ := AtS.cons_inv at4.tmp
    cases ev
    subst ep'
    have e3 := cp_all c hA'
    subst e3 eC'
    obtain ⟨D', vs, B, e1, hD, hA, hl, nd0, kk⟩ := at4.mutS (hG s3)
    rw [ev0] at e1
    cases e1
    have eB := cp_all c hA
    subst eB
    have hl' := hA'.length
    have nd := at4.good.nd
    have ne : D' ≠ p' := fun z => by
      obtain ⟨x2, C2, P1, P2, ex, hC, eA2, _⟩ := at4.loc.at_ (hG s3)
      rw [ev0] at ex
      cases ex
      obtain ⟨v3, ev3, D3, vs3, C3, eD3, _, _, eC3⟩ := hC
      cases ev3
      cases eD3
      rw [eA, eA2, eC3, z] at nd
      simp only [List.nodup_append, List.mem_append, List.mem_cons] at nd
      grind
    refine ⟨D', p', vs, vs', a, b, rfl, rfl, rfl, rfl, hD, hp', ne, g0, g1, by rw [hl]; exact g2, by rw [hl, hl']; exact g3, ?_⟩
    have all := ((all3_tk hA a.toNat).1.append hA').append (all3_tk hA b.toNat).2
    exact (hb _).go T t σ s3 _ D (kk _ _ [] T t A' all ht (by rw [eA] at nd0; simp only [List.nil_append, List.nodup_append] at nd0 ⊢; exact nd0.2.1) fun p hp => by rw [eA]; simp only [List.nil_append, List.mem_append] at *; exact .inr hp) q4⟩
end
end Td

set_option Elab.async false
set_option linter.all false
set_option maxRecDepth 100000
set_option maxHeartbeats 4000000
namespace Td
open PySem PySem.Spec PyProof.Rows L2 He
section
variable {X : Cx} {A : Type} {F : FC X.K Unit} {N L R : Type} {G : Unit → List Slot} {GN : N → Unit → List Slot} {GL : L → Unit → List Slot} {GN' : N → List A → List Slot} {GL' : L → List A → List Slot} {r : Rp R} {ra : Rp A} {sts : List Stmt} {ts : TS}
/-- the list in slot i is the state of what follows -/
theorem bx_st {xs : List A} {out : SM (List A) (Fl N L R)} (i : Nat) (h0 : ∀ s, (G s)[i]? = some (.is (rList ra) xs)) (hn : ∀ n s', Weak (GN' n s') (GN n ())) (hl : ∀ l s', Weak (GL' l s') (GL l ()))
    (h : ∀ (w : V) (F' : FC X.K (List A)), F'.io = (fun _ => F.io ()) → F'.W = F.W → BX X F' sts ts (fun s' => (G ()).set i (.pn w (rList ra) s')) GN' GL' r out) :
    BX X F sts ts G GN GL r (bnd (subM out xs) fun p => ret p.1) :=
  ⟨(h .non ⟨F.H0, F.I, F.M0, fun _ => F.io (), F.W⟩ rfl rfl).ps, fun T t σ s H D at0 q => by
    obtain ⟨w, at1⟩ := at0.pin (h0 s)
    obtain ⟨F', eF⟩ : ∃ F' : FC X.K (List A), F' = ⟨F.H0, F.I, F.M0, fun _ => F.io (), F.W⟩ := ⟨_, rfl⟩
    have e1 : F'.H0 = F.H0 := by rw [eF]
    have e2 : F'.I = F.I := by rw [eF]
    have e3 : F'.M0 = F.M0 := by rw [eF]
    have e4 : F'.io = fun _ => F.io () := by rw [eF]
    have e5 : F'.W = F.W := by rw [eF]
    refine (h w F' e4 e5).go T t σ xs H D (at1.re e1 e2 e3) (wp_mono (wp_subM (wp_bnd q)) (fun fl s' q1 => ?_) fun e s' q1 σ' d H' z => ?_)
    · have q2 : FlP F T t GN GL r D fl s := q1
      cases fl with
      | nx n => exact fun σ' H' z => q2 σ' H' ((z.weak (hn n s')).re e1.symm e2.symm e3.symm)
      | bk l => exact fun σ' H' z => q2 σ' H' ((z.weak (hl l s')).re e1.symm e2.symm e3.symm)
      | ct l => exact fun σ' H' z => q2 σ' H' ((z.weak (hl l s')).re e1.symm e2.symm e3.symm)
      | rt b => exact fun v σ' H' z => q2 v σ' H' (by
          rw [e4] at z
          exact z.re e1.symm e2.symm e3.symm)
    · rw [e4] at z
      rw [e5]
      exact q1 σ' d H' (z.re e1.symm e2.symm e3.symm)⟩
end
end Td

set_option Elab.async false
set_option linter.all false
set_option maxRecDepth 100000
set_option maxHeartbeats 4000000
namespace Td
open PySem PySem.Spec PyProof.Rows L2 He
/-! ### data with what it owns -/
instance : Inhabited PyData := ⟨.none⟩
mutual
inductive OwnD (K : PySem.W.Frag) (H : Hp) : V → PyData → List Addr → Prop
  | non : OwnD K H .non .none []
  | bl (b : Bool) : OwnD K H (.bl b) (.bool b) []
  | int (i : Int) : OwnD K H (.int i) (.int i) []
  | str (x : Str) : OwnD K H (.str x) (.str x) []
  | lst {a : Addr} {xs : List V} {ds : List PyData} {A : List Addr} : H a = some (.lst xs) → OwnDs K H xs ds A → OwnD K H (.ref a) (.list ds) (a :: A)
  | tup {a : Addr} {xs : List V} {ds : List PyData} {A : List Addr} : SqT K H a xs → OwnDs K H xs ds A → OwnD K H (.ref a) (.tuple ds) A
inductive OwnDs (K : PySem.W.Frag) (H : Hp) : List V → List PyData → List Addr → Prop
  | nil : OwnDs K H [] [] []
  | cons {v : V} {vs : List V} {d : PyData} {ds : List PyData} {B A : List Addr} : OwnD K H v d B → OwnDs K H vs ds A → OwnDs K H (v :: vs) (d :: ds) (B ++ A)
end
section
variable {K : PySem.W.Frag} {H H' : Hp}
mutual
theorem ownD_keep {M : List Addr} : ∀ {d : PyData} {v : V} {B : List Addr}, OwnD K H v d B → (∀ p o, H p = some o → (p ∉ M ∨ p ∈ B ∨ isTup o = true) → H' p = some o) → OwnD K H' v d B
  | .none, _, _, h, k => by cases h; exact .non
  | .bool b, _, _, h, k => by cases h; exact .bl b
  | .int i, _, _, h, k => by cases h; exact .int i
  | .str x, _, _, h, k => by cases h; exact .str x
  | .list ds, _, _, h, k => by
    cases h with
    | lst hp hs => exact .lst (k _ _ hp (.inr (.inl (List.mem_cons_self ..)))) (ownDs_keep hs fun p o e z => k p o e (z.imp id (Or.imp (fun y => List.mem_cons_of_mem _ y) id)))
  | .tuple ds, _, _, h, k => by
    cases h with
    | tup hp hs => exact .tup (sqT_keep hp k) (ownDs_keep hs k)
  | .dict _, _, _, h, k => by cases h
theorem ownDs_keep {M : List Addr} : ∀ {ds : List PyData} {vs : List V} {B : List Addr}, OwnDs K H vs ds B → (∀ p o, H p = some o → (p ∉ M ∨ p ∈ B ∨ isTup o = true) → H' p = some o) → OwnDs K H' vs ds B
  | [], _, _, h, k => by cases h; exact .nil
  | d :: ds, _, _, h, k => by
    cases h with
    | cons h t => exact .cons (ownD_keep h fun p o e z => k p o e (z.imp id (Or.imp (fun y => List.mem_append_left _ y) id))) (ownDs_keep t fun p o e z => k p o e (z.imp id (Or.imp (fun y => List.mem_append_right _ y) id)))
end
mutual
theorem ownD_trk : ∀ {d : PyData} {v : V} {B : List Addr}, OwnD K H v d B → ∀ p, p ∈ B → ∃ o, H p = some o ∧ isTup o = false
  | .none, _, _, h, p, hp => by cases h; cases hp
  | .bool b, _, _, h, p, hp => by cases h; cases hp
  | .int i, _, _, h, p, hp => by cases h; cases hp
  | .str x, _, _, h, p, hp => by cases h; cases hp
  | .list ds, _, _, h, p, hp => by
    cases h with
    | lst e hs =>
      rcases List.mem_cons.mp hp with z | z
      · subst z; exact ⟨_, e, rfl⟩
      · exact ownDs_trk hs p z
  | .tuple ds, _, _, h, p, hp => by
    cases h with
    | tup e hs => exact ownDs_trk hs p hp
  | .dict _, _, _, h, p, hp => by cases h
theorem ownDs_trk : ∀ {ds : List PyData} {vs : List V} {B : List Addr}, OwnDs K H vs ds B → ∀ p, p ∈ B → ∃ o, H p = some o ∧ isTup o = false
  | [], _, _, h, p, hp => by cases h; cases hp
  | d :: ds, _, _, h, p, hp => by
    cases h with
    | cons h t =>
      rcases List.mem_append.mp hp with z | z
      · exact ownD_trk h p z
      · exact ownDs_trk t p z
end
mutual
theorem ownD_dp : ∀ {d : PyData} {v : V} {B : List Addr}, OwnD K H v d B → Dp K H v d
  | .none, _, _, h => by cases h; exact .non
  | .bool b, _, _, h => by cases h; exact .bl b
  | .int i, _, _, h => by cases h; exact .int i
  | .str x, _, _, h => by cases h; exact .str x
  | .list ds, _, _, h => by
    cases h with
    | lst e hs => exact .lst (SqL.of e) (ownDs_dp hs)
  | .tuple ds, _, _, h => by
    cases h with
    | tup e hs => exact .tup e (ownDs_dp hs)
  | .dict _, _, _, h => by cases h
theorem ownDs_dp : ∀ {ds : List PyData} {vs : List V} {B : List Addr}, OwnDs K H vs ds B → DpAll K H vs ds
  | [], _, _, h => by cases h; exact .nil
  | d :: ds, _, _, h => by
    cases h with
    | cons h t => exact .cons (ownD_dp h) (ownDs_dp t)
end
theorem ownDs_all {vs : List V} {ds : List PyData} {A : List Addr} : OwnDs K H vs ds A ↔ All3 (fun v d B => OwnD K H v d B) vs ds A := by
  constructor
  · intro h
    induction ds generalizing vs A with
    | nil => cases h; exact .nil
    | cons d ds ih =>
      cases h with
      | cons h t => exact .cons h (ih t)
  · intro h
    induction h with
    | nil => exact .nil
    | cons h t ih => exact .cons h ih
end
/-- data, all its lists owned -/
def rD : Rp PyData where
  rel := fun K M H v d B => OwnD K H v d B
  keep := fun h k => ownD_keep h k
  grow := fun h _ => h
  trk := fun h => ownD_trk h
abbrev dD (d : PyData) : PyData := d
theorem en_D : Enc rD dD := fun h => ownD_dp h
theorem clo_D : rD.Clo := fun h => h
theorem nn_all3 {K : PySem.W.Frag} {M : List Addr} {H : Hp} {vs : List V} {ds : List PyData} {A : List Addr} : All3 (rD.rel K M H) vs ds A ↔ OwnDs K H vs ds A := ownDs_all.symm
theorem rD_list {K : PySem.W.Frag} {M : List Addr} {H : Hp} {v : V} {ds : List PyData} {B : List Addr} : (rList rD).rel K M H v ds B ↔ rD.rel K M H v (.list ds) B := by
  constructor
  · rintro ⟨p, vs, A, e, hp, hA, eB⟩
    subst e eB
    exact OwnD.lst hp (nn_all3.mp hA)
  · intro h
    cases h with
    | lst hp hs => exact ⟨_, _, _, rfl, hp, nn_all3.mpr hs, rfl⟩
/-! ### typed things as data -/
/-- what is owned stays owned -/
def Emb {T : Type} (r : Rp T) (f : T → PyData) : Prop := ∀ {K M H v a B}, r.rel K M H v a B → OwnD K H v (f a) B
/-- what is shared may stand within -/
def EmbS {T : Type} (r : Rp T) (f : T → PyData) : Prop := ∀ {K M H v a B}, r.rel K M H v a B → ∃ A, OwnD K H v (f a) A ∧ ∀ p, p ∈ A → p ∈ B ∨ p ∉ M
theorem Emb.S {T : Type} {r : Rp T} {f : T → PyData} (h : Emb r f) : EmbS r f := fun k => ⟨_, h k, fun p hp => .inl hp⟩
theorem emb_int : Emb rInt .int := fun h => by obtain ⟨e, eB⟩ := h; subst e eB; exact .int _
theorem emb_bool : Emb rBool .bool := fun h => by obtain ⟨e, eB⟩ := h; subst e eB; exact .bl _
theorem emb_str : Emb rStr .str := fun h => by obtain ⟨e, eB⟩ := h; subst e eB; exact .str _
theorem emb_non : Emb rNon dN := fun h => by obtain ⟨e, eB⟩ := h; subst e eB; exact .non
theorem emb_D : Emb rD dD := fun h => h
section
variable {T U W : Type} {r : Rp T} {q : Rp U} {l : Rp W} {f : T → PyData} {g : U → PyData} {k : W → PyData}
theorem emb_P (h1 : Emb r f) (h2 : Emb q g) : Emb (rPair r q) (dP f g) := by
  rintro K M H v a B ⟨p, v1, v2, B1, B2, e, hT, k1, k2, eB⟩
  subst e eB
  have z : OwnDs K H [v1, v2] [f a.1, g a.2] (B1 ++ (B2 ++ [])) := .cons (h1 k1) (.cons (h2 k2) .nil)
  rw [List.append_nil] at z
  exact .tup hT z
theorem emb_T3 (h1 : Emb r f) (h2 : Emb q g) (h3 : Emb l k) : Emb (rTup3 r q l) (dT3 f g k) := by
  rintro K M H v a B ⟨p, v1, v2, v3, B1, B2, B3, e, hT, k1, k2, k3, eB⟩
  subst e eB
  have z : OwnDs K H [v1, v2, v3] [f a.1, g a.2.1, k a.2.2] (B1 ++ (B2 ++ (B3 ++ []))) := .cons (h1 k1) (.cons (h2 k2) (.cons (h3 k3) .nil))
  rw [List.append_nil] at z
  exact .tup hT z
theorem emb_O (h1 : Emb r f) : Emb (rOpt r) (dO f) := by
  intro K M H v a B h
  cases a with
  | none => obtain ⟨e, eB⟩ := h; subst e eB; exact .non
  | some a => exact h1 h
theorem emb_all {K : PySem.W.Frag} {M : List Addr} {H : Hp} (h1 : Emb r f) {vs : List V} {as : List T} {A : List Addr} (h : All3 (r.rel K M H) vs as A) : OwnDs K H vs (as.map f) A := by
  induction h with
  | nil => exact .nil
  | cons h t ih => exact .cons (h1 h) ih
theorem emb_L (h1 : Emb r f) : Emb (rList r) (dL f) := by
  rintro K M H v a B ⟨p, vs, A, e, hp, hA, eB⟩
  subst e eB
  exact .lst hp (emb_all h1 hA)
theorem emb_TL (h1 : Emb r f) : Emb (rTupL r) (dTL f) := by
  rintro K M H v a B ⟨p, vs, e, hp, hA⟩
  subst e
  exact .tup hp (emb_all h1 hA)
/-- the same of shared things -/
theorem embS_sh (h : EmbS r f) : EmbS (sh r) f := by
  rintro K M H v a B ⟨eB, A, hr, hA⟩
  obtain ⟨A', h1, h2⟩ := h hr
  exact ⟨A', h1, fun p hp => .inr ((h2 p hp).elim (hA p) id)⟩
theorem embS_P (h1 : EmbS r f) (h2 : EmbS q g) : EmbS (rPair r q) (dP f g) := by
  rintro K M H v a B ⟨p, v1, v2, B1, B2, e, hT, k1, k2, eB⟩
  subst e eB
  obtain ⟨A1, a1, b1⟩ := h1 k1
  obtain ⟨A2, a2, b2⟩ := h2 k2
  have z : OwnDs K H [v1, v2] [f a.1, g a.2] (A1 ++ (A2 ++ [])) := .cons a1 (.cons a2 .nil)
  rw [List.append_nil] at z
  refine ⟨_, .tup hT z, fun p hp => ?_⟩
  rcases List.mem_append.mp hp with y | y
  · exact (b1 p y).imp (fun x => List.mem_append_left _ x) id
  · exact (b2 p y).imp (fun x => List.mem_append_right _ x) id
theorem embS_O (h1 : EmbS r f) : EmbS (rOpt r) (dO f) := by
  intro K M H v a B h
  cases a with
  | none => obtain ⟨e, eB⟩ := h; subst e eB; exact ⟨[], .non, fun _ z => by cases z⟩
  | some a => exact h1 h
theorem embS_all {K : PySem.W.Frag} {M : List Addr} {H : Hp} (h1 : EmbS r f) {vs : List V} {as : List T} {A : List Addr} (h : All3 (r.rel K M H) vs as A) : ∃ A', OwnDs K H vs (as.map f) A' ∧ ∀ p, p ∈ A' → p ∈ A ∨ p ∉ M := by
  induction h with
  | nil => exact ⟨[], .nil, fun _ z => by cases z⟩
  | cons h t ih =>
    obtain ⟨A1, a1, b1⟩ := h1 h
    obtain ⟨A2, a2, b2⟩ := ih
    refine ⟨_, .cons a1 a2, fun p hp => ?_⟩
    rcases List.mem_append.mp hp with y | y
    · exact (b1 p y).imp (fun x => List.mem_append_left _ x) id
    · exact (b2 p y).imp (fun x => List.mem_append_right _ x) id
theorem embS_L (h1 : EmbS r f) : EmbS (rList r) (dL f) := by
  rintro K M H v a B ⟨p, vs, A, e, hp, hA, eB⟩
  subst e eB
  obtain ⟨A', a1, b1⟩ := embS_all h1 hA
  refine ⟨_, .lst hp a1, fun x hx => ?_⟩
  rcases List.mem_cons.mp hx with y | y
  · subst y; exact .inl (List.mem_cons_self ..)
  · exact (b1 x y).imp (fun z => List.mem_cons_of_mem _ z) id
theorem embS_TL (h1 : EmbS r f) : EmbS (rTupL r) (dTL f) := by
  rintro K M H v a B ⟨p, vs, e, hp, hA⟩
  subst e
  obtain ⟨A', a1, b1⟩ := embS_all h1 hA
  exact ⟨_, .tup hp a1, b1⟩
end
section
variable {X : Cx} {S : Type} {F : FC X.K S} {U W Z A : Type} {r r1 : Rp U} {r2 : Rp W} {q : Rp Z} {e a b : Expr} {te ta tb : TE} {G G1 G2 G' : S → List Slot} {m m1 : SM S U} {m2 : SM S W} {arg : U → Arg} {pos p0 p1 p2 : Pos} {f : U → PyData}
theorem ex_toD (h : EX X F e te G G' r m) (k : Emb r f) : EX X F e te G G' rD (bnd m fun a => ret (f a)) := ⟨h.pe, go_map h.go fun _ _ _ _ _ h => k h⟩
theorem ex_toDS (h : EX X F e te G G' (sh r) m) (k : EmbS r f) : EX X F e te G G' (sh rD) (bnd m fun a => ret (f a)) :=
  ⟨h.pe, go_map h.go fun _ _ _ _ _ h => by
    obtain ⟨eB, A, hr, hA⟩ := h
    obtain ⟨A', h1, h2⟩ := k hr
    exact ⟨eB, A', h1, fun p hp => (h2 p hp).elim (hA p) id⟩⟩
/-- .. of what owns nothing -/
theorem ex_toDC (h : EX X F e te G G' r m) (c : r.Cp) (k : EmbS r f) : EX X F e te G G' (sh rD) (bnd m fun a => ret (f a)) := ex_toDS (ex_freeze h) k
def lstD : PyData → Option (List PyData)
  | .list ds => some ds
  | _ => none
def tupD : PyData → Option (List PyData)
  | .tuple ds => some ds
  | _ => none
def leafD : PyData → Option PyData
  | .list _ => none
  | .tuple _ => none
  | d => some d
def isL : PyData → Bool
  | .list _ => true
  | _ => false
def isT : PyData → Bool
  | .tuple _ => true
  | _ => false
variable {md : SM S PyData}
theorem ex_lstD (h : EX X F e te G G' (sh rD) md) : EX X F e te G G' (sh (rList rD)) (bnd md fun d => asM (lstD d)) :=
  ex_asM h fun {K M H v d B ds} ⟨eB, A, hr, hA⟩ e => by
    cases d <;> cases e
    exact ⟨eB, A, rD_list.mpr hr, hA⟩
theorem ex_tupD (h : EX X F e te G G' (sh rD) md) : EX X F e te G G' (rTupL (sh rD)) (bnd md fun d => asM (tupD d)) :=
  ex_asM h fun {K M H v d B ds} ⟨eB, A, hr, hA⟩ e => by
    cases d <;> cases e
    cases hr with
    | @tup a xs _ _ hT hs =>
      subst eB
      refine ⟨a, xs, rfl, hT, ?_⟩
      have key : ∀ {xs : List V} {ds : List PyData} {A : List Addr}, OwnDs K H xs ds A → (∀ p, p ∈ A → p ∉ M) → All3 ((sh rD).rel K M H) xs ds [] := by
        intro xs ds A h
        induction ds generalizing xs A with
        | nil => intro _; cases h; exact .nil
        | cons d ds ih =>
          intro hA
          cases h with
          | cons h t => exact .cons (B := []) ⟨rfl, _, h, fun p hp => hA p (List.mem_append_left _ hp)⟩ (ih t fun p hp => hA p (List.mem_append_right _ hp))
      exact key hs hA
theorem ex_leafD (h : EX X F e te G G' (sh rD) md) : EX X F e te G G' rD (bnd md fun d => asM (leafD d)) :=
  ex_asM h fun {K M H v d B b} ⟨eB, A, hr, hA⟩ e => by
    subst eB
    cases d with
    | none => cases e; cases hr; exact .non
    | bool b => cases e; cases hr; exact .bl b
    | int b => cases e; cases hr; exact .int b
    | str b => cases e; cases hr; exact .str b
    | list b => cases e
    | tuple b => cases e
    | dict b => cases hr
theorem ex_ofL {ms : SM S (List PyData)} (h : EX X F e te G G' (rList rD) ms) : EX X F e te G G' rD (bnd ms fun ds => ret (.list ds)) := ⟨h.pe, go_map h.go fun _ _ _ _ _ h => rD_list.mp h⟩
/-! #### isinstance of data -/
def tnD : PyData → String
  | .none => "NoneType"
  | .bool _ => "bool"
  | .int _ => "int"
  | .str _ => "str"
  | .list _ => "list"
  | .tuple _ => "tuple"
  | .dict _ => "dict"
theorem tyD {K : PySem.W.Frag} {H : Hp} {v : V} {d : PyData} {B : List Addr} (h : OwnD K H v d B) : TyX K H v (.type (tnD d)) := by
  cases h with
  | non => exact .base .non
  | bl b => exact .base (.bl b)
  | int i => exact .base (.int i)
  | str x => exact .base (.str x)
  | lst hp hs => exact .base (.lst hp)
  | tup hT hs =>
    rcases hT with (e | ⟨o, e⟩) | ⟨o, its, n, e, hc, _⟩
    · exact .base (.tup e)
    · exact .fTuple e
    · exact .kTuple e hc
def kitsB (a : String) : List String → Option Bool
  | [] => some false
  | b :: bs => match kitB a b with
    | some true => some true
    | some false => kitsB a bs
    | none => none
theorem kits_ty {K : PySem.W.Frag} {a : String} : ∀ {bs : List String} {r : Bool}, kitsB a bs = some r → PySem.W.kitAny K (.type a) (bs.map Value.type) = some r
  | [], r, h => by cases h; rfl
  | b :: bs, r, h => by
    unfold kitsB at h
    split at h
    · rename_i e
      cases h
      exact kitAny_cons (kit_ty e) (fun z => by cases z) fun _ => rfl
    · rename_i e
      exact kitAny_cons (kit_ty e) (fun _ => kits_ty h) fun z => by cases z
    · cases h
def isDB (bs : List String) (d : PyData) : Bool := (kitsB (tnD d) bs).getD false
/-- all types that data have are known to isinstance with these -/
def kitOk (bs : List String) : Bool := ["NoneType", "bool", "int", "str", "list", "tuple", "dict"].all fun a => (kitsB a bs).isSome
theorem tn_in (d : PyData) : tnD d ∈ ["NoneType", "bool", "int", "str", "list", "tuple", "dict"] := by cases d <;> simp [tnD]
theorem kitOk_of {bs : List String} (h : kitOk bs = true) (d : PyData) : kitsB (tnD d) bs = some (isDB bs d) := by
  have z := List.all_eq_true.mp h _ (tn_in d)
  unfold isDB
  obtain ⟨b, e⟩ := Option.isSome_iff_exists.mp z
  rw [e]
  rfl
/-- isinstance(x, list) of data -/
theorem ex_isD1 {dx : U → PyData} {c : String} (hk : kitOk [c] = true) (h : EO X F a ta G G' arg m) (hx : ∀ a s, Rdd (G' s) (arg a) rD (dx a)) (hcp : PE X b (tC (.ty c))) (hg : Gl X "isinstance") (hm : X.mg "isinstance" = none)
    (hs : PySem.W.isStarred a = false := by rfl) (hs2 : PySem.W.isStarred b = false := by rfl) (hpl : (backTo pos (starEach [b] X.env)).any (·.1) = false := by rfl) :
    EX X F (.Call (.Name "isinstance" p0) [a, b] [] pos) (tCB (rIsi X.K) (tCons ta (tCons (tC (.ty c)) tNil))) G G' rBool (bnd m fun a => ret (isDB [c] (dx a))) :=
  ⟨pe_callB call_isi hg hm (by decide +kernel) (pa_cons h.pe (pa_cons hcp pa_nil (star1 hs2)) (star1 hs)) (he := star1 hs) (hpl := hpl), fun T t σ s H Q h0 q => h.go T t σ s H _ h0 (wp_mono (wp_bnd q) (fun a s1 q1 ts v H1 at1 av => by
    obtain ⟨A1, A2, at1⟩ := at1
    obtain ⟨v', B, e1, hr⟩ := rddM (j := 0) at1 av rfl (hx a s1)
    cases e1
    have k := kitOk_of hk (dx a)
    refine ⟨v, .ty c, .type (tnD (dx a)), .type c, isDB [c] (dx a), rfl, .ty c, tyD hr, ?_, q1 _ H1 (at1.fin av ⟨rfl, rfl⟩)⟩
    apply kit_ty
    unfold kitsB at k
    revert k
    generalize kitB (tnD (dx a)) c = o
    intro k
    match o, k with
    | some true, k => exact k
    | some false, k => exact k) fun _ _ z => z)⟩
theorem paired_ty : ∀ bs : List String, Paired ClsV (bs.map V.ty) (bs.map Value.type)
  | [] => .nil
  | b :: bs => .cons (.ty b) (paired_ty bs)
/-- isinstance(x, (list, tuple)) of data -/
theorem ex_isDT {dx : U → PyData} {bs : List String} {tt : TE} (hk : kitOk bs = true) (hcp : PE X b tt) (ht : ∀ σ H Q, (∀ p, H p = none → Q (.ref p) (upd H p (.tup (bs.map V.ty)))) → tt σ H Q) (h : EO X F a ta G G' arg m) (hx : ∀ a s, Rdd (G' s) (arg a) rD (dx a)) (hg : Gl X "isinstance") (hm : X.mg "isinstance" = none)
    (hs : PySem.W.isStarred a = false := by rfl) (hs2 : PySem.W.isStarred b = false := by rfl) (hpl : (backTo pos (starEach [b] X.env)).any (·.1) = false := by rfl) :
    EX X F (.Call (.Name "isinstance" p0) [a, b] [] pos) (tCB (rIsiT X.K) (tCons ta (tCons tt tNil))) G G' rBool (bnd m fun a => ret (isDB bs (dx a))) :=
  ⟨pe_callB call_isiT hg hm (by decide +kernel) (pa_cons h.pe (pa_cons hcp pa_nil (star1 hs2)) (star1 hs)) (he := star1 hs) (hpl := hpl), fun T t σ s H Q h0 q => h.go T t σ s H _ h0 (wp_mono (wp_bnd q) (fun a s1 q1 ts v H1 at1 av => by
    refine ht σ H1 _ fun p hp => ?_
    have at2 := at1.heap (H' := upd H1 p (.tup (bs.map V.ty))) fun x o e => by rw [upd_ne (ne_of_none e hp)]; exact e
    obtain ⟨A1, A2, at2⟩ := at2
    obtain ⟨v', B, e1, hr⟩ := rddM (j := 0) at2 av rfl (hx a s1)
    cases e1
    exact ⟨v, p, bs.map V.ty, .type (tnD (dx a)), bs.map Value.type, isDB bs (dx a), rfl, upd_same, paired_ty bs, tyD hr, kits_ty (kitOk_of hk (dx a)), q1 _ _ (at2.fin av ⟨rfl, rfl⟩)⟩) fun _ _ z => z)⟩
/-- the top temp owns less -/
theorem At.topLe {K : PySem.W.Frag} {S : Type} {F : FC K S} {T : List Slot} {t : List V} {G : List Slot} {σ : L2.St} {H : Hp} {r : Rp U} {q : Rp W} {a : U} {b : W} {v w : V} (h : At F (.is r a :: T) (v :: t) G σ H) (k : ∀ M B, r.rel K M H v a B → ∃ B', q.rel K M H w b B' ∧ B'.Sublist B) : At F (.is q b :: T) (w :: t) G σ H := by
  obtain ⟨A1, A2, h⟩ := h
  obtain ⟨B, A', eA, ⟨v', ev, hr⟩, ht⟩ := AtS.cons_inv h.tmp
  subst eA
  cases ev
  obtain ⟨B', hq, hs⟩ := k _ _ hr
  have sub : (B' ++ A' ++ A2).Sublist (B ++ A' ++ A2) := (hs.append_right A').append_right A2
  have hM : ∀ p, p ∈ B' ++ A' ++ A2 ++ F.M0 → p ∈ B ++ A' ++ A2 ++ F.M0 ∨ H p = none := fun p hp => .inl ((sub.append_right F.M0).subset hp)
  exact ⟨B' ++ A', A2, .cons ⟨w, rfl, q.grow hq hM⟩ (ht.grow hM), h.loc.grow hM, h.good.sub (h.good.nd.sublist sub) fun p hp => sub.subset hp⟩
/-- tuple(xs) of a list of data that is a temp -/
theorem ex_tupMv {ms : SM S (List PyData)} (h : EX X F e te G G' (rList rD) ms) (hg : Gl X "tuple") (hm : X.mg "tuple" = none) (hs : PySem.W.isStarred e = false := by rfl) :
    EX X F (.Call (.Name "tuple" p0) [e] [] pos) (tCB (fun xs H Q => ∃ p ys, xs = [.ref p] ∧ ((SqL X.K H p ys ∧ ∀ l, H l = none → Q (.ref l) (upd H l (.tup ys))) ∨ (SqT X.K H p ys ∧ Q (.ref p) H))) (tCons te tNil)) G G' rD (bnd ms fun ds => ret (.tuple ds)) :=
  ⟨pe_callTy call_tuple_of hg hm (by decide) (pa_cons h.pe pa_nil (star1 hs)) (he := star1 hs), fun T t σ s H Q h0 q => h.go T t σ s H _ h0 (wp_mono (wp_bnd q) (fun ds s1 q1 v H1 at1 => by
    obtain ⟨M, B, p, vs, A, ev, hp, hA, eB⟩ := top_rel at1
    subst ev
    refine ⟨p, vs, rfl, .inl ⟨SqL.of hp, fun l hl => q1 _ _ ?_⟩⟩
    have at2 := at1.heap (H' := upd H1 l (.tup vs)) fun x o e => by rw [upd_ne (ne_of_none e hl)]; exact e
    refine at2.topLe fun M B hr => ?_
    obtain ⟨p', vs', A', ev', hp', hA', eB'⟩ := hr
    cases ev'
    have hne : p ≠ l := fun z => by subst z; rw [hp] at hl; cases hl
    rw [upd_ne hne, hp] at hp'
    cases hp'
    subst eB'
    exact ⟨A', OwnD.tup (SqT.of upd_same) (nn_all3.mp hA'), List.sublist_cons_self ..⟩) fun _ _ z => z)⟩
end
end Td

set_option Elab.async false
set_option linter.all false
set_option maxRecDepth 100000
set_option maxHeartbeats 4000000
namespace Td
open PySem PySem.Spec PyProof.Rows L2 He
/-! ### calls whose arguments move in -/
section
variable {K : PySem.W.Frag} {S : Type} {F : FC K S} {T : List Slot} {t : List V} {G : List Slot} {σ : L2.St} {H H' : Hp}
theorem AtS.rev {M : List Addr} : ∀ {L : List Slot} {vs : List (Option V)} {C : List Addr}, vs.length = L.length → AtS K M H L.reverse vs.reverse C → ∃ C', AtS K M H L vs C' ∧ C'.Perm C
  | [], [], C, _, h => by cases h; exact ⟨[], .nil, .refl _⟩
  | g :: L, v :: vs, C, e, h => by
    rw [List.reverse_cons, List.reverse_cons] at h
    obtain ⟨C1, C2, eC, h1, h2⟩ := AtS.split (by simpa using e) h
    obtain ⟨B, A, eA, hg, h3⟩ := AtS.cons_inv h2
    cases h3
    obtain ⟨C1', h4, p⟩ := AtS.rev (L := L) (vs := vs) (by simpa using e) h1
    refine ⟨B ++ C1', .cons hg h4, ?_⟩
    subst eC eA
    rw [List.append_nil]
    exact (List.perm_append_comm).trans (p.append_right B)
  | [], _ :: _, _, e, _ => by simp at e
  | _ :: _, [], _, e, _ => by simp at e
/-- what comes back from a callee that took temps in -/
theorem At.backMv {S' : Type} {TC T' : List Slot} {tc t' : List V} {A2 C A1 M0' : List Addr} (hC : AtS K ((C ++ A1) ++ A2 ++ F.M0) H TC (tc.map some) C) (hT : AtS K ((C ++ A1) ++ A2 ++ F.M0) H T (t.map some) A1) (hG : AtS K ((C ++ A1) ++ A2 ++ F.M0) H G σ A2) (good : Good F H ((C ++ A1) ++ A2))
    {C' : List Addr} (hp : C'.Perm C) (hx : At (FC.c (K := K) (S := S') H C' M0') T' t' [] [] H') (hM : ∀ p, p ∈ A1 ++ A2 ++ F.M0 → p ∈ M0') : At F (T' ++ T) (t' ++ t) G σ H' := by
  obtain ⟨X1, X2, hx⟩ := hx
  have e2 : X2 = [] := by
    have := hx.loc
    cases this; rfl
  subst e2
  have gx := hx.good
  have mC : ∀ p, p ∈ C' ↔ p ∈ C := fun p => hp.mem_iff
  have nX : ∀ p, p ∈ X1 → H p = none ∨ p ∈ C := fun p hp => (gx.new p (by simpa using hp)).imp id (mC p).mp
  have st : ∀ p o, H p = some o → p ∉ C → H' p = some o := fun p o e hp => gx.stay p o e fun z => hp ((mC p).mp z)
  have nd := good.nd
  have tC := hC.trk
  have tT := hT.trk
  have tG := hG.trk
  have ndX : X1.Nodup := by simpa using gx.nd
  have dis : ∀ p, p ∈ C → p ∉ A1 ∧ p ∉ A2 ∧ p ∉ F.M0 := fun p hp => by
    have out := good.out p
    simp only [List.nodup_append, List.mem_append] at nd out
    grind
  have trM : ∀ p, p ∈ F.M0 → ∃ o, H p = some o ∧ isTup o = false := fun p hp => by
    obtain ⟨⟨o, z, zt⟩, hI⟩ := good.m0 p hp
    exact ⟨o, good.stay p o z hI, zt⟩
  have disX : ∀ p, p ∈ X1 → p ∉ A1 ∧ p ∉ A2 ∧ p ∉ F.M0 := fun p hp => by
    rcases nX p hp with z | z
    · refine ⟨fun y => ?_, fun y => ?_, fun y => ?_⟩
      · obtain ⟨o, e, _⟩ := tT p y; rw [z] at e; cases e
      · obtain ⟨o, e, _⟩ := tG p y; rw [z] at e; cases e
      · obtain ⟨o, e, _⟩ := trM p y; rw [z] at e; cases e
    · exact dis p z
  have kp : ∀ {B : List Addr}, (∀ p, p ∈ B → p ∈ A1 ∨ p ∈ A2) → ∀ p o, H p = some o → (p ∉ (C ++ A1) ++ A2 ++ F.M0 ∨ p ∈ B ∨ isTup o = true) → H' p = some o := by
    intro B hB p o e h
    by_cases hc : p ∈ C
    · exfalso
      obtain ⟨o', z, zt⟩ := tC p hc
      rw [e] at z
      cases z
      rcases h with q | q | q
      · exact q (by simp only [List.mem_append]; grind)
      · have := hB p q
        have := dis p hc
        grind
      · rw [zt] at q; cases q
    · exact st p o e hc
  have hM1 : ∀ p, p ∈ (X1 ++ A1) ++ A2 ++ F.M0 → p ∈ X1 ++ [] ++ M0' ∨ H' p = none := fun p hp => .inl (by
    have := hM p
    simp only [List.mem_append] at *
    grind)
  -- what stood here grows by what is new
  have hM2 : ∀ p, p ∈ ((C ++ A1) ++ A2 ++ F.M0) ++ X1 → p ∈ (C ++ A1) ++ A2 ++ F.M0 ∨ H p = none := fun p hp => by
    rcases List.mem_append.mp hp with z | z
    · exact .inl z
    · rcases nX p z with y | y
      · exact .inr y
      · left; simp only [List.mem_append]; grind
  have kp2 : ∀ {B : List Addr}, (∀ p, p ∈ B → p ∈ A1 ∨ p ∈ A2) → ∀ p o, H p = some o → (p ∉ ((C ++ A1) ++ A2 ++ F.M0) ++ X1 ∨ p ∈ B ∨ isTup o = true) → H' p = some o := fun hB p o e h => kp hB p o e (h.imp (fun z y => z (List.mem_append_left _ y)) id)
  have hM3 : ∀ p, p ∈ (X1 ++ A1) ++ A2 ++ F.M0 → p ∈ ((C ++ A1) ++ A2 ++ F.M0) ++ X1 ∨ H' p = none := fun p hp => .inl (by
    simp only [List.mem_append] at *
    grind)
  refine ⟨X1 ++ A1, A2, ?_, ((hG.grow hM2).keep (kp2 fun p hp => .inr hp)).grow hM3, ?_⟩
  · rw [List.map_append]
    exact (hx.tmp.grow hM1).append (((hT.grow hM2).keep (kp2 fun p hp => .inl hp)).grow hM3)
  · refine ⟨?_, fun p hp => ?_, fun p hp => ?_, fun p hp => ?_, fun p o e hI => ?_, good.m0⟩
    · have d := disX
      simp only [List.nodup_append, List.mem_append] at *
      grind
    · have o := good.out p
      have d := disX p
      simp only [List.mem_append] at *
      grind
    · by_cases hX : p ∈ X1
      · rcases nX p hX with z | z
        · exact .inl (good.fresh z).1
        · exact good.new p (by simp only [List.mem_append]; grind)
      · exact good.new p (by simp only [List.mem_append] at *; grind)
    · obtain ⟨o, e, z⟩ := good.has p hp
      by_cases hc : p ∈ C
      · exact gx.has p ((mC p).mpr hc)
      · exact ⟨o, st p o e hc, z⟩
    · by_cases hc : p ∈ C
      · rcases good.new p (by simp only [List.mem_append]; grind) with z | z
        · rw [z] at e; cases e
        · exact absurd z hI
      · exact st p o (good.stay p o e hI) hc
theorem run_mv {S' U W : Type} {n : Nat} {Ps : U → S' → List V → List Slot} {ioT : S' → List Slot} {iov : List V → List V} {r : Rp W} {f : U → SM S' W} {E : XK} {Q : VK} {L : List Slot} {vs : List V} {u : U} {s0 : S'} {A1 A2 : List Addr}
    (h : AtP F (L.reverse ++ T) (vs.reverse ++ t) G σ H A1 A2) (hl : vs.length = L.length) (hn : vs.length = n) (ent : ∀ M C, AtS K M H L (vs.map some) C → AtS K M H (Ps u s0 vs) (vs.map some) C)
    (q : (f u s0).wp (fun b s' => ∀ v H', At F ((.is r b :: ioT s') ++ T) ((v :: iov vs) ++ t) G σ H' → Q v H') (fun e s' => ∀ d H', At F ((.is rXd e.pay :: ioT s') ++ T) ((.ref d :: iov vs) ++ t) G σ H' → E (.ref (He.ga K e.cls)) (some d) H')) : SpG K n Ps ioT iov r f vs H Q E := by
  have ht := h.tmp
  rw [List.map_append] at ht
  obtain ⟨C, A1', eA, hC, hT⟩ := AtS.split (by simp [hl]) ht
  subst eA
  obtain ⟨C', hC', hp⟩ := AtS.rev (L := L) (vs := vs.map some) (by simpa using hl) (by rw [← List.map_reverse]; exact hC)
  have mC : ∀ p, p ∈ C' ↔ p ∈ C := fun p => hp.mem_iff
  have good := h.good
  have nd := good.nd
  have dis : ∀ p, p ∈ C → p ∉ A1' ++ A2 ++ F.M0 := fun p hp z => by
    have out := good.out p
    simp only [List.nodup_append, List.mem_append] at nd out z
    grind
  have tr := h.m_trk
  have ndC : C'.Nodup := hp.nodup_iff.mpr (by
    simp only [List.nodup_append] at nd
    exact nd.1.1)
  have hM : ∀ p, p ∈ A1' ++ A2 ++ F.M0 → p ∈ A1' ++ A2 ++ F.M0 := fun _ z => z
  have back : ∀ {T' : List Slot} {t' : List V} {H' : Hp}, At (FC.c (K := K) (S := S') H C' (A1' ++ A2 ++ F.M0)) T' t' [] [] H' → At F (T' ++ T) (t' ++ t) G σ H' := fun hx => At.backMv hC hT h.loc good hp hx hM
  refine ⟨u, s0, C', A1' ++ A2 ++ F.M0, hn, ⟨[], C', .nil, ent _ _ (hC'.grow fun p hp => .inl ?_), ⟨by simpa using ndC, fun p hp => dis p ((mC p).mp (by simpa using hp)), fun p hp => .inr (show p ∈ C' by simpa using hp), fun p hp => hC.trk p ((mC p).mp hp), fun _ _ e _ => e, fun p hp => ⟨tr p ?_, fun z => dis p ((mC p).mp z) hp⟩⟩⟩, wp_mono q (fun b s' q2 v H' hx => q2 v H' (back hx)) fun e s' q2 d H' hx => q2 d H' (back hx)⟩
  · have hp' : p ∈ [] ++ C' ++ (A1' ++ A2 ++ F.M0) := hp
    have := mC p
    simp only [List.mem_append, List.nil_append] at *
    grind
  · have hp' : p ∈ A1' ++ A2 ++ F.M0 := hp
    simp only [List.mem_append] at *
    grind
end
end Td

set_option Elab.async false
set_option linter.all false
set_option maxRecDepth 100000
set_option maxHeartbeats 4000000
namespace Td
open PySem PySem.Spec PyProof.Rows L2 He
section
variable {K : PySem.W.Frag} {S : Type} {F : FC K S} {T : List Slot} {t : List V} {G : List Slot} {σ : L2.St} {H H' : Hp} {U W Z : Type} {r : Rp U} {q : Rp W} {l : Rp Z} {a : U} {b : W} {c : Z} {v w u : V}
theorem perm_all {A B : List Addr} (h : A.Perm B) : (∀ p, p ∈ A → p ∈ B) ∧ (B.Nodup → A.Nodup) := ⟨fun p => h.mem_iff.mp, h.nodup_iff.mpr⟩
/-- one temp becomes two -/
theorem At.topSplit (h : At F (.is r a :: T) (v :: t) G σ H) (k : ∀ M B, r.rel K M H v a B → ∃ B1 B2, q.rel K M H w b B1 ∧ l.rel K M H u c B2 ∧ (B1 ++ B2).Perm B) : At F (.is q b :: .is l c :: T) (w :: u :: t) G σ H := by
  obtain ⟨A1, A2, h⟩ := h
  obtain ⟨B, A', eA, ⟨v', ev, hr⟩, ht⟩ := AtS.cons_inv h.tmp
  subst eA
  cases ev
  obtain ⟨B1, B2, h1, h2, hp⟩ := k _ _ hr
  have sub : (B1 ++ (B2 ++ A') ++ A2).Perm (B ++ A' ++ A2) := by
    rw [← List.append_assoc]
    exact (hp.append_right A').append_right A2
  have hM : ∀ p, p ∈ B1 ++ (B2 ++ A') ++ A2 ++ F.M0 → p ∈ B ++ A' ++ A2 ++ F.M0 ∨ H p = none := fun p hp => .inl ((sub.append_right F.M0).mem_iff.mp hp)
  exact ⟨B1 ++ (B2 ++ A'), A2, .cons ⟨w, rfl, q.grow h1 hM⟩ (.cons ⟨u, rfl, l.grow h2 hM⟩ (ht.grow hM)), h.loc.grow hM, h.good.sub (sub.nodup_iff.mpr h.good.nd) fun p hp => sub.mem_iff.mp hp⟩
/-- two temps become one -/
theorem At.topJoin (h : At F (.is q b :: .is l c :: T) (w :: u :: t) G σ H) (k : ∀ M B1 B2, q.rel K M H w b B1 → l.rel K M H u c B2 → ∃ B, r.rel K M H v a B ∧ (B1 ++ B2).Perm B) : At F (.is r a :: T) (v :: t) G σ H := by
  obtain ⟨A1, A2, h⟩ := h
  obtain ⟨B1, A', eA, ⟨v', ev, h1⟩, ht⟩ := AtS.cons_inv h.tmp
  obtain ⟨B2, A'', eA2, ⟨v'', ev', h2⟩, ht2⟩ := AtS.cons_inv ht
  subst eA eA2
  cases ev
  cases ev'
  obtain ⟨B, hr, hp⟩ := k _ _ _ h1 h2
  have sub : (B1 ++ (B2 ++ A'') ++ A2).Perm (B ++ A'' ++ A2) := by
    rw [← List.append_assoc]
    exact (hp.append_right A'').append_right A2
  have hM : ∀ p, p ∈ B ++ A'' ++ A2 ++ F.M0 → p ∈ B1 ++ (B2 ++ A'') ++ A2 ++ F.M0 ∨ H p = none := fun p hp => .inl ((sub.append_right F.M0).mem_iff.mpr hp)
  exact ⟨B ++ A'', A2, .cons ⟨v, rfl, r.grow hr hM⟩ (ht2.grow hM), h.loc.grow hM, h.good.sub (sub.nodup_iff.mp h.good.nd) fun p hp => sub.mem_iff.mpr hp⟩
end
/-! ### one thing taken out of data -/
def Shl (K : PySem.W.Frag) (H : Hp) : Bool → Addr → List V → Prop
  | true, a, vs => H a = some (.lst vs)
  | false, a, vs => SqT K H a vs
def shB : Bool → Addr → List Addr
  | true, a => [a]
  | false, _ => []
def ofK : Bool → List PyData → PyData
  | true, ds => .list ds
  | false, ds => .tuple ds
theorem own_ofK {K : PySem.W.Frag} {H : Hp} {k : Bool} {v : V} {ds : List PyData} {B : List Addr} : OwnD K H v (ofK k ds) B ↔ ∃ a vs A, v = .ref a ∧ Shl K H k a vs ∧ OwnDs K H vs ds A ∧ B = shB k a ++ A := by
  cases k with
  | true =>
    constructor
    · intro h
      cases h with
      | lst e hs => exact ⟨_, _, _, rfl, e, hs, rfl⟩
    · rintro ⟨a, vs, A, e, h1, h2, eB⟩
      subst e eB
      exact .lst h1 h2
  | false =>
    constructor
    · intro h
      cases h with
      | tup e hs => exact ⟨_, _, _, rfl, e, hs, rfl⟩
    · rintro ⟨a, vs, A, e, h1, h2, eB⟩
      subst e eB
      exact .tup h1 h2
theorem shl_keep {K : PySem.W.Frag} {M B : List Addr} {H H' : Hp} {k : Bool} {a : Addr} {vs : List V} (h : Shl K H k a vs) (kp : ∀ p o, H p = some o → (p ∉ M ∨ p ∈ shB k a ++ B ∨ isTup o = true) → H' p = some o) : Shl K H' k a vs := by
  cases k with
  | true => exact kp _ _ h (.inr (.inl (List.mem_append_left _ (List.mem_singleton.mpr rfl))))
  | false => exact sqT_keep h kp
theorem ownDs_app {K : PySem.W.Frag} {H : Hp} {vs ws : List V} {ds es : List PyData} {A B : List Addr} (h : OwnDs K H vs ds A) (h2 : OwnDs K H ws es B) : OwnDs K H (vs ++ ws) (ds ++ es) (A ++ B) := ownDs_all.mpr ((ownDs_all.mp h).append (ownDs_all.mp h2))
theorem ownDs_len {K : PySem.W.Frag} {H : Hp} {vs : List V} {ds : List PyData} {A : List Addr} (h : OwnDs K H vs ds A) : vs.length = ds.length := (ownDs_all.mp h).length
theorem ownDs_split {K : PySem.W.Frag} {H : Hp} : ∀ {i : Nat} {vs : List V} {ds : List PyData} {A : List Addr} {d : PyData}, OwnDs K H vs ds A → ds[i]? = some d → ∃ vs1 x vs2 A1 B A2, vs = vs1 ++ x :: vs2 ∧ vs1.length = i ∧ A = A1 ++ (B ++ A2) ∧ OwnDs K H vs1 (ds.take i) A1 ∧ OwnD K H x d B ∧ OwnDs K H vs2 (ds.drop (i + 1)) A2
  | _, _, [], _, _, h, e => by simp at e
  | 0, _, d0 :: ds, _, d, h, e => by
    cases h with
    | @cons v vs _ _ B A h t =>
      have e' : d0 = d := Option.some.inj e
      subst e'
      exact ⟨[], v, vs, [], B, A, rfl, rfl, rfl, .nil, h, t⟩
  | i + 1, _, d0 :: ds, _, d, h, e => by
    cases h with
    | @cons v vs _ _ B A h t =>
      obtain ⟨vs1, x, vs2, A1, B', A2, e1, e2, e3, h1, h2, h3⟩ := ownDs_split (i := i) t (by simpa using e)
      subst e1 e3
      refine ⟨v :: vs1, x, vs2, B ++ A1, B', A2, rfl, by simp [e2], by simp, .cons h h1, h2, h3⟩
/-- data without its thing at place i, which stands as x -/
def rKids (k : Bool) (x : V) (i : Nat) : Rp (List PyData) where
  rel := fun K M H v ds B => ∃ a vs1 vs2 A1 A2, v = .ref a ∧ Shl K H k a (vs1 ++ x :: vs2) ∧ vs1.length = i ∧ i < ds.length ∧ OwnDs K H vs1 (ds.take i) A1 ∧ OwnDs K H vs2 (ds.drop (i + 1)) A2 ∧ B = shB k a ++ (A1 ++ A2)
  keep := by
    rintro K M H H' v ds B ⟨a, vs1, vs2, A1, A2, e, h1, hl, hi, h2, h3, eB⟩ kp
    subst eB
    exact ⟨a, vs1, vs2, A1, A2, e, shl_keep h1 kp, hl, hi, ownDs_keep h2 fun p o e z => kp p o e (z.imp id (Or.imp (fun y => List.mem_append_right _ (List.mem_append_left _ y)) id)), ownDs_keep h3 fun p o e z => kp p o e (z.imp id (Or.imp (fun y => List.mem_append_right _ (List.mem_append_right _ y)) id)), rfl⟩
  grow := fun h _ => h
  trk := by
    rintro K M H v ds B ⟨a, vs1, vs2, A1, A2, e, h1, hl, hi, h2, h3, eB⟩ p hp
    subst eB
    rcases List.mem_append.mp hp with z | z
    · cases k with
      | true =>
        have e := List.mem_singleton.mp z
        subst e
        exact ⟨_, h1, rfl⟩
      | false => cases z
    · rcases List.mem_append.mp z with z | z
      · exact ownDs_trk h2 p z
      · exact ownDs_trk h3 p z
section
variable {K : PySem.W.Frag} {S : Type} {F : FC K S} {T : List Slot} {t : List V} {G : List Slot} {σ : L2.St} {H H' : Hp} {k : Bool} {v x : V} {ds : List PyData} {d : PyData} {i : Nat}
theorem At.kidOut (h : At F (.is rD (ofK k ds) :: T) (v :: t) G σ H) (e : ds[i]? = some d) : ∃ x a vs, v = .ref a ∧ Shl K H k a vs ∧ vs.length = ds.length ∧ vs[i]? = some x ∧ At F (.is rD d :: .is (rKids k x i) ds :: T) (x :: v :: t) G σ H := by
  obtain ⟨A1, A2, h⟩ := h
  obtain ⟨B, A', eA, ⟨v', ev, hr⟩, ht⟩ := AtS.cons_inv h.tmp
  subst eA
  cases ev
  obtain ⟨a, vs, A, ev, h1, h2, eB⟩ := own_ofK.mp hr
  obtain ⟨vs1, x, vs2, C1, B', C2, e1, e2, e3, k1, k2, k3⟩ := ownDs_split h2 e
  have hi : i < ds.length := (List.getElem?_eq_some_iff.mp e).1
  subst eB e3
  have hp : (B' ++ (shB k a ++ (C1 ++ C2))).Perm (shB k a ++ (C1 ++ (B' ++ C2))) := by
    refine (List.perm_append_comm_assoc ..).trans (List.Perm.append_left _ ?_)
    exact List.perm_append_comm_assoc ..
  have sub : (B' ++ ((shB k a ++ (C1 ++ C2)) ++ A') ++ A2).Perm (shB k a ++ (C1 ++ (B' ++ C2)) ++ A' ++ A2) := by
    rw [← List.append_assoc B']
    exact (hp.append_right A').append_right A2
  have hM : ∀ p, p ∈ B' ++ ((shB k a ++ (C1 ++ C2)) ++ A') ++ A2 ++ F.M0 → p ∈ shB k a ++ (C1 ++ (B' ++ C2)) ++ A' ++ A2 ++ F.M0 ∨ H p = none := fun p hp => .inl ((sub.append_right F.M0).mem_iff.mp hp)
  refine ⟨x, a, vs, ev, h1, ownDs_len h2, by rw [e1, ← e2]; simp, B' ++ ((shB k a ++ (C1 ++ C2)) ++ A'), A2, .cons ⟨x, rfl, k2⟩ (.cons ⟨v, rfl, ?_⟩ (ht.grow hM)), h.loc.grow hM, h.good.sub (sub.nodup_iff.mpr h.good.nd) fun p hp => sub.mem_iff.mp hp⟩
  exact ⟨a, vs1, vs2, C1, C2, ev, by rw [← e1]; exact h1, e2, hi, k1, k3, rfl⟩
theorem At.kidIn {d' : PyData} (h : At F (.is rD d' :: .is (rKids k x i) ds :: T) (x :: v :: t) G σ H) : At F (.is rD (ofK k (ds.set i d')) :: T) (v :: t) G σ H := by
  refine h.topJoin fun M B1 B2 h1 h2 => ?_
  obtain ⟨a, vs1, vs2, C1, C2, ev, k1, k2, hi, k3, k4, eB⟩ := h2
  subst eB
  refine ⟨shB k a ++ (C1 ++ (B1 ++ C2)), own_ofK.mpr ⟨a, vs1 ++ x :: vs2, C1 ++ (B1 ++ C2), ev, k1, ?_, rfl⟩, ?_⟩
  · rw [List.set_eq_take_append_cons_drop, if_pos hi]
    exact ownDs_app k3 (.cons h1 k4)
  · refine (List.perm_append_comm_assoc ..).trans (List.Perm.append_left _ ?_)
    exact List.perm_append_comm_assoc ..
end
/-! ### a def that changes two things in place -/
abbrev PD := PyData × List Int
abbrev SpRk (K : PySem.W.Frag) (f : PD → SM Unit PD) : Sp := SpG K (S := PD) (U := Unit) (W := Unit) 2 (fun _ s vs => [.pn (vs.headD .non) rD s.1, .pn (vs.tail.headD .non) (rList rInt) s.2]) (fun s => [.is (rList rInt) s.2, .is rD s.1]) (fun vs => [vs.tail.headD .non, vs.headD .non]) rNon
  (fun _ s => match f s () with | .ok p _ => .ok () p | .exc e _ => .exc e s | .stuck => .stuck)
theorem wp_rk {f : PD → SM Unit PD} {s : PD} {P : Unit → PD → Prop} {E : Exn → PD → Prop} (h : (f s ()).wp (fun p _ => P () p) (fun _ _ => False)) : ((match f s () with | .ok p _ => .ok () p | .exc e _ => .exc e s | .stuck => .stuck : Rs PD Unit)).wp P E := by
  cases e : f s () with
  | ok p u => rw [e] at h; exact h
  | exc e' u => rw [e] at h; exact h.elim
  | stuck => rw [e] at h; exact h.elim
section
variable {X : Cx} {N L R : Type} {GN : N → Unit → List Slot} {GL : L → Unit → List Slot} {r : Rp R} {rest : List Stmt} {tr : TS}
def kidsM (f : PD → SM Unit PD) : Nat → Nat → List PyData × List Int → SM Unit (List PyData × List Int)
  | 0, _, p => ret p
  | k + 1, i, p => bnd (f (p.1.getD i .none, p.2)) fun q => kidsM f k (i + 1) (p.1.set i q.1, q.2)
def kidsD (f : PD → SM Unit PD) (d : PyData) (l : List Int) : SM Unit PD := match d with
  | .list ds => bnd (kidsM f ds.length 0 (ds, l)) fun p => ret (.list p.1, p.2)
  | .tuple ds => bnd (kidsM f ds.length 0 (ds, l)) fun p => ret (.tuple p.1, p.2)
  | _ => stk
def NoX (f : PD → SM Unit PD) : Prop := ∀ u P E, (f u ()).wp P E → (f u ()).wp P (fun _ _ => False)
theorem bndA {S T U V : Type} (m : SM S T) (f : T → SM S U) (g : U → SM S V) : bnd (bnd m f) g = bnd m fun a => bnd (f a) g := by
  funext s
  unfold bnd
  cases m s <;> rfl
theorem PI.or {tg e : Expr} {w1 w2 : TI} (h1 : PI X tg e w1) (h2 : PI X tg e w2) : PI X tg e (fun σ H R => w1 σ H R ∨ w2 σ H R) := ⟨fun pins s σ H R I h => h.elim (h1.run pins s σ H R I) (h2.run pins s σ H R I)⟩
/-- a turn: the thing at place i and the list of ranks go in and come back -/
theorem rk_turn {K : PySem.W.Frag} {F : FC K Unit} {f : PD → SM Unit PD} {E : XK} {T : List Slot} {t : List V} {σ : L2.St} {H : Hp} {k : Bool} {ds : List PyData} {l : List Int} {v0 v1 : V} {i : Nat} {Q : VK} {d : PyData} (hE : ∀ e, ds[i]? = some e → e = d) (hi : i < ds.length)
    (h : At F T t [.pn v0 rD (ofK k ds), .pn v1 (rList rInt) l, .un] σ H) (q : (f (d, l) ()).wp (fun p _ => ∀ v H', At F T t [.pn v0 rD (ofK k (ds.set i p.1)), .pn v1 (rList rInt) p.2, .un] σ H' → Q v H') (fun _ _ => False)) :
    ∃ a vs x, v0 = .ref a ∧ Shl K H k a vs ∧ vs.length = ds.length ∧ vs[i]? = some x ∧ SpRk K f [x, v1] H Q E := by
  obtain ⟨e0, h⟩ := h.unpin (i := 0) rfl
  obtain ⟨e1, h⟩ := h.unpin (i := 1) rfl
  obtain ⟨w0, ew0, h⟩ := h.move (i := 0) rfl
  rw [e0] at ew0
  cases ew0
  obtain ⟨d', ed⟩ : ∃ d', ds[i]? = some d' := ⟨_, List.getElem?_eq_getElem hi⟩
  have := hE _ ed
  subst this
  obtain ⟨x, a, vs, ev, hs, hl, hx, h⟩ := h.kidOut ed
  obtain ⟨w1, ew1, h⟩ := h.move (i := 1) rfl
  rw [e1] at ew1
  cases ew1
  refine ⟨a, vs, x, ev, hs, hl, hx, ?_⟩
  obtain ⟨A1, A2, h⟩ := h
  refine run_mv (S' := PD) (L := [.is rD d', .is (rList rInt) l]) (vs := [x, v1]) (T := .is (rKids k x i) ds :: T) (t := v0 :: t) (u := ()) (s0 := (d', l)) h rfl rfl ?_ (wp_rk ?_)
  · intro M C hc
    obtain ⟨B, A', eA, ⟨y, ey, h1⟩, h2⟩ := AtS.cons_inv hc
    obtain ⟨B2, A'', eA2, ⟨z, ez, h3⟩, h4⟩ := AtS.cons_inv h2
    cases ey
    cases ez
    cases h4
    subst eA eA2
    exact .cons ⟨rfl, h1⟩ (.cons ⟨rfl, h3⟩ .nil)
  · refine wp_mono q (fun p _ q2 v H' hh => q2 v H' ?_) fun _ _ z => z.elim
    have h1 : At F (.is (rList rInt) p.2 :: .is rD p.1 :: .is (rKids k x i) ds :: T) (v1 :: x :: v0 :: t) [.un, .un, .un] σ H' := At.pop hh
    have h2 : At F (.is rD p.1 :: .is (rKids k x i) ds :: T) (x :: v0 :: t) [.un, .is (rList rInt) p.2, .un] (σ.set 1 (some v1)) H' := At.store (g' := .un) h1 1 rfl
    rw [set_self e1] at h2
    have h3 := At.kidIn h2
    have h4 : At F T t [.is rD (ofK k (ds.set i p.1)), .is (rList rInt) p.2, .un] (σ.set 0 (some v0)) H' := At.store (g' := .un) h3 0 rfl
    rw [set_self e0] at h4
    have h5 := At.repin h4 (i := 0) rfl e0
    exact At.repin h5 (i := 1) rfl e1
theorem bx_kids {F : FC X.K Unit} {f : PD → SM Unit PD} {E : XK} {k : Nat} {fA : Addr} {fd : FuncData} {ps : List Str} {CX : CXT} {v0 v1 : V} {d : PyData} {l : List Int} {out : PD → SM Unit (Fl N L R)} {x y z c : Str} {p1 p2 p3 p4 p5 p6 p7 pos : Pos} {G : Unit → List Slot}
    (FO : FnOk X.prog X.w X.K X.mg X.base CX k fA fd ps (SpRk X.K f)) (hr : Room k X.A) (hg : Gl X c) (hm : X.mg c = some (.ref fA)) (hk : PySem.W.keepIn X.K (.ref fA) = true) (hb : Binds X.K fd ps []) (hx : Passes CX X E)
    (hf : NoX f) (hp : PassesOwn (model X.prog X.w) X.A X.env X.xe) (hc : X.calm = true) (hNd : X.N.Nodup) (hG : ∀ s, G s = [.pn v0 rD d, .pn v1 (rList rInt) l, .un])
    (hrest : ∀ p : PD, BX X F rest tr (fun _ => [.pn v0 rD p.1, .pn v1 (rList rInt) p.2, .un]) GN GL r (out p))
    (hN0 : X.N[0]? = some x := by rfl) (hN1 : X.N[1]? = some y := by rfl) (hN2 : X.N[2]? = some z := by rfl)
    (hv0 : Vis X.env.scope x := by first | exact Or.inl rfl | exact Or.inr (Or.inl rfl) | exact Or.inr (Or.inr rfl)) (hv1 : Vis X.env.scope y := by first | exact Or.inl rfl | exact Or.inr (Or.inl rfl) | exact Or.inr (Or.inr rfl)) (hv2 : Vis X.env.scope z := by first | exact Or.inl rfl | exact Or.inr (Or.inl rfl) | exact Or.inr (Or.inr rfl))
    (hl2 : Loc X.env.scope z := by first | exact Or.inl rfl | exact Or.inr rfl) (hf2 : X.fn z = true ∨ X.env.scope.names.lookup z = some .local := by first | exact .inl rfl | exact .inr rfl)
    (hd0 : (x == ("__debug__" : Str)) = false := by decide) (hd1 : (y == ("__debug__" : Str)) = false := by decide) (hd2 : (z == ("__debug__" : Str)) = false := by decide) (hdc : (c == ("__debug__" : Str)) = false := by decide)
    (hc0 : (x == ("__classdict__" : Str)) = false := by decide) (hc1 : (y == ("__classdict__" : Str)) = false := by decide) (hc2 : (z == ("__classdict__" : Str)) = false := by decide)
    (hs : ∀ v, foldedSetIterable (.Name x p2) X.env v = pure v := by intro _; rfl) (hsw : swapsWith (.Call (.Name c p3) [.Name z p4, .Name y p5] [] p6) none p7.line X.env = pure false := by rfl)
    (hpl : (backTo p6 (starEach [.Name y p5] X.env)).any (·.1) = false := by rfl) :
    BX X F (.For (.Name z p1) (.Name x p2) [.Expr (.Call (.Name c p3) [.Name z p4, .Name y p5] [] p6) p7] [] pos :: rest)
      (tSeq (tFor (fun σ H R => iList X.K (tVar 0) σ H R ∨ iTup X.K (tVar 0) σ H R) (gName 2) (tSeq (tDrop (tCall (SpRk X.K f) [] E (tCons (tVar 2) (tCons (tVar 1) tNil)))) tNext)) tr) G GN GL r (bnd (kidsD f d l) out) :=
  ⟨pss_cons (ps_for hp hc (PI.or (pi_list (pe_var hN0 hv0 hd0 hc0)) (pi_tup (pe_var hN0 hv0 hd0 hc0))) (pg_name hNd hN2 hl2 hf2)
      (pss_cons (ps_expr (pe_call FO hr hg hm hk hb .nil hx (pa_cons (pe_var hN2 hv2 hd2 hc2) (pa_cons (pe_var hN1 hv1 hd1 hc1) pa_nil (star1 rfl)) (star1 rfl)) (hdb := hdc) (he := star1 rfl) (hpl := hpl)) hsw) pss_nil) hs) (hrest (d, l)).ps, fun T t σ s H D h0 q => by
    rw [hG] at h0
    have e0 : σ[0]? = some (some v0) := (h0.unpin (i := 0) rfl).1
    have main : ∀ (kk : Bool) (ds : List PyData), At F T t [.pn v0 rD (ofK kk ds), .pn v1 (rList rInt) l, .un] σ H → ((bnd (kidsM f ds.length 0 (ds, l)) fun p => out (ofK kk p.1, p.2)) ()).wp (FlP F T t GN GL r D) (XA F) →
        ∃ a vs, v0 = .ref a ∧ Shl X.K H kk a vs ∧ ∃ W : Nat → Nat → L2.St → Hp → Prop, (∃ m, W 0 m σ H) ∧ ∀ i m σ H, W i m σ H →
          ((∃ vs, Shl X.K H kk a vs ∧ vs.length ≤ i) ∧ tr D σ H) ∨ ((∃ vs x, Shl X.K H kk a vs ∧ vs[i]? = some x) ∧ ∃ NN : L2.St → Hp → Prop, (∀ σ' H', NN σ' H' → ∃ m', m' < m ∧ W (i + 1) m' σ' H') ∧
            ∀ x H', (H' = H ∧ ∀ vs, Shl X.K H kk a vs → vs[i]? = some x) → gName 2 x σ H' fun σ2 H2 => (tSeq (tDrop (tCall (SpRk X.K f) [] E (tCons (tVar 2) (tCons (tVar 1) tNil)))) tNext) { D with nx := NN, ct := NN, bk := tr D } σ2 H2) := by
      intro kk ds h0 q
      have raw : ∀ {ds' : List PyData} {l' : List Int} {σ' : L2.St} {H' : Hp}, At F T t [.pn v0 rD (ofK kk ds'), .pn v1 (rList rInt) l', .un] σ' H' → ∃ a vs, v0 = .ref a ∧ Shl X.K H' kk a vs ∧ vs.length = ds'.length := fun h => by
        obtain ⟨A1, A2, h⟩ := h
        have hl := h.loc
        cases hl with
        | cons hg ht =>
          obtain ⟨_, hr⟩ := hg
          obtain ⟨a, vs, A, e1, e2, e3, _⟩ := own_ofK.mp hr
          exact ⟨a, vs, e1, e2, ownDs_len e3⟩
      obtain ⟨a, vs, ea, hs0, hl0⟩ := raw h0
      refine ⟨a, vs, ea, hs0, fun i m σ H => m = ds.length - i ∧ i ≤ ds.length ∧ σ[0]? = some (some v0) ∧ σ[1]? = some (some v1) ∧ ∃ ds' l', ds'.length = ds.length ∧ At F T t [.pn v0 rD (ofK kk ds'), .pn v1 (rList rInt) l', .un] σ H ∧ ((bnd (kidsM f (ds.length - i) i (ds', l')) fun p => out (ofK kk p.1, p.2)) ()).wp (FlP F T t GN GL r D) (XA F),
        ⟨ds.length, by simp, Nat.zero_le _, e0, (h0.unpin (i := 1) rfl).1, ds, l, rfl, h0, by simpa using q⟩, ?_⟩
      rintro i m σ H ⟨rfl, hi, e0, e1, ds', l', hl, h1, q1⟩
      obtain ⟨a', vs', ea', hs', hl'⟩ := raw h1
      rw [ea] at ea'
      cases ea'
      by_cases hlt : i < ds.length
      · refine .inr ⟨⟨vs', vs'[i]'(by omega), hs', List.getElem?_eq_getElem _⟩, fun σ' H' => ∃ ds2 l2, ds2.length = ds.length ∧ σ'[0]? = some (some v0) ∧ σ'[1]? = some (some v1) ∧ At F T t [.pn v0 rD (ofK kk ds2), .pn v1 (rList rInt) l2, .un] σ' H' ∧ ((bnd (kidsM f (ds.length - (i + 1)) (i + 1) (ds2, l2)) fun p => out (ofK kk p.1, p.2)) ()).wp (FlP F T t GN GL r D) (XA F),
          fun σ' H' ⟨ds2, l2, hl2, f0, f1, at2, q2⟩ => ⟨ds.length - (i + 1), by omega, rfl, hlt, f0, f1, ds2, l2, hl2, at2, q2⟩, fun x H' hy => ?_⟩
        obtain ⟨eH, hy⟩ := hy
        subst eH
        have ed : ds.length - i = (ds.length - (i + 1)) + 1 := by omega
        rw [ed] at q1
        have q2 := wp_bnd (wp_bnd q1)
        have h2 := h1.setUn (i := 2) rfl (some x)
        have f0 : (σ.set 2 (some x))[0]? = some (some v0) := by rw [List.getElem?_set_ne (by decide)]; exact e0
        have f1 : (σ.set 2 (some x))[1]? = some (some v1) := by rw [List.getElem?_set_ne (by decide)]; exact e1
        have f2 : (σ.set 2 (some x))[2]? = some (some x) := by
          have hlen : 2 < σ.length := by
            obtain ⟨A1, A2, h⟩ := h1
            have := h.loc.length
            simp at this
            omega
          rw [List.getElem?_set_self hlen]
        have tn := rk_turn (E := E) (d := ds'.getD i .none) (Q := fun _ H1 => ∃ ds2 l2, ds2.length = ds.length ∧ (σ.set 2 (some x))[0]? = some (some v0) ∧ (σ.set 2 (some x))[1]? = some (some v1) ∧ At F T t [.pn v0 rD (ofK kk ds2), .pn v1 (rList rInt) l2, .un] (σ.set 2 (some x)) H1 ∧ ((bnd (kidsM f (ds.length - (i + 1)) (i + 1) (ds2, l2)) fun p => out (ofK kk p.1, p.2)) ()).wp (FlP F T t GN GL r D) (XA F)) (f := f)
          (fun e he => by rw [List.getD_eq_getElem?_getD, he]; rfl) (by omega) h2 ?_
        · obtain ⟨a2, vs2, x2, ea2, hs2, hl2, hx2, sp⟩ := tn
          rw [ea] at ea2
          cases ea2
          have := hy vs2 hs2
          rw [hx2] at this
          cases this
          show (tCall (SpRk X.K f) [] E (tCons (tVar 2) (tCons (tVar 1) tNil))) (σ.set 2 (some x)) H' _
          exact ⟨x, f2, v1, f1, sp⟩
        · exact hf _ _ _ (wp_mono q2 (fun p _ q3 v H' hh => ⟨ds'.set i p.1, p.2, by rw [List.length_set]; exact hl, f0, f1, hh, bnd_wp q3⟩) fun _ _ z => z)
      · have e : i = ds.length := by omega
        subst e
        refine .inl ⟨⟨vs', hs', by omega⟩, ?_⟩
        rw [Nat.sub_self] at q1
        exact (hrest _).go T t σ () H D h1 (wp_bnd q1)
    cases d with
    | list ds =>
      obtain ⟨a, vs, ea, hsh, W, w0, ww⟩ := main true ds h0 (by
        unfold kidsD at q
        rw [bndA] at q
        exact q)
      subst ea
      refine .inl ⟨.ref a, e0, a, rfl, ⟨vs, SqL.of hsh⟩, W, w0, fun i m σ H hw => ?_⟩
      rcases ww i m σ H hw with ⟨⟨vs, h1, h2⟩, h3⟩ | ⟨⟨vs, x, h1, h2⟩, NN, h3, h4⟩
      · exact .inl ⟨⟨vs, SqL.of h1, h2⟩, h3⟩
      · exact .inr ⟨⟨vs, x, SqL.of h1, h2⟩, NN, h3, fun x H' hy => h4 x H' ⟨hy.1, fun vs hv => hy.2 vs (SqL.of hv)⟩⟩
    | tuple ds =>
      obtain ⟨a, vs, ea, hsh, W, w0, ww⟩ := main false ds h0 (by
        unfold kidsD at q
        rw [bndA] at q
        exact q)
      subst ea
      refine .inr ⟨.ref a, e0, a, rfl, ⟨vs, hsh⟩, W, w0, fun i m σ H hw => ?_⟩
      rcases ww i m σ H hw with ⟨⟨vs, h1, h2⟩, h3⟩ | ⟨⟨vs, x, h1, h2⟩, NN, h3, h4⟩
      · exact .inl ⟨⟨vs, h1, h2⟩, h3⟩
      · exact .inr ⟨⟨vs, x, h1, h2⟩, NN, h3, fun x H' hy => h4 x H' ⟨hy.1, fun vs hv => hy.2 vs hv⟩⟩
    | none => exact (wp_bnd q).elim
    | bool _ => exact (wp_bnd q).elim
    | int _ => exact (wp_bnd q).elim
    | str _ => exact (wp_bnd q).elim
    | dict _ => exact (wp_bnd q).elim⟩
end
end Td

set_option Elab.async false
set_option linter.all false
set_option maxRecDepth 100000
set_option maxHeartbeats 4000000
namespace Td
open PySem PySem.Spec PyProof.Rows L2 He
section
variable {X : Cx} {S : Type} {F : FC X.K S} {N L R U : Type} {GN : N → S → List Slot} {GL : L → S → List Slot} {r : Rp R} {r1 : Rp U} {rest : List Stmt} {tr : TS} {G G1 G2 : S → List Slot} {e e2 : Expr} {te te2 : TE} {w : V} {pos p0 p1 apos cpos : Pos}
/-- x.append(e), x data known to be a list, its value pinned -/
theorem bx_appD {d : PyData} {me : SM S PyData} {out : List PyData → SM S (Fl N L R)} {x : Str} (i : Nat) (h : EX X F e te G G1 rD me) (hG0 : ∀ s, (G s)[i]? = some (.pn w rD d)) (hG : ∀ s, (G1 s)[i]? = some (.pn w rD d)) (hb : ∀ ys, BX X F rest tr (fun s => (G1 s).set i (.pn w rD (.list ys))) GN GL r (out ys))
    (hN : X.N[i]? = some x := by rfl) (hv : Vis X.env.scope x := by first | exact Or.inl rfl | exact Or.inr (Or.inl rfl) | exact Or.inr (Or.inr rfl)) (hd : (x == ("__debug__" : Str)) = false := by decide) (hcd : (x == ("__classdict__" : Str)) = false := by decide)
    (hs : PySem.W.isStarred e = false := by rfl)
    (hfew : ((backTo cpos (starEach (e :: []) X.env)).all (fun x => !x.1) && (backToKw cpos (keywordEach [] X.env)).all (fun x => x.1.isSome)
      && decide ((e :: []).length + ([] : List Keyword).length + (if ([] : List Keyword).isEmpty then 0 else 1) < 30)) = true := by rfl) (hline : (apos.endLine == cpos.line) = true := by rfl) (hsw : swapsWith (.Call (.Attribute (.Name x p0) "append" apos) [e] [] cpos) none pos.line X.env = pure false := by rfl)
    (hbase : attributeBase (.Name x p0) "append" X.env (eval (.Name x p0) X.env) = eval (.Name x p0) X.env := by rfl) :
    BX X F (.Expr (.Call (.Attribute (.Name x p0) "append" apos) [e] [] cpos) pos :: rest) (tSeq (tDrop (tBM X.K "list" rAppend (tVar i) (tCons te tNil))) tr) G GN GL r (bnd (asM (lstD d)) fun ds => bnd me fun y => bnd (pushM ds y) out) :=
  ⟨pss_cons (ps_expr (pe_bm PySem.F.plainAttrs_list PySem.F.slot_list_append PySem.F.type_list_append mt_append (pe_var hN hv hd hcd) (pa_cons h.pe pa_nil (star1 hs)) hbase hfew hline (star1 hs) (by rfl)) hsw) (hb []).ps, fun T t σ s H D h0 q => by
    have e0 := h0
    obtain ⟨ev0, e0⟩ := e0.unpin (hG0 s)
    refine ⟨_, ev0, ?_⟩
    obtain ⟨ds, eds, q⟩ := wp_asM (wp_bnd q)
    have ed : d = .list ds := by cases d <;> cases eds; rfl
    subst ed
    obtain ⟨A1, A2, e1⟩ := e0
    obtain ⟨x', B, ex', hk, _⟩ := e1.loc.mem (i := i) (g := .is rD (.list ds)) (by rw [List.getElem?_set_self (by have := (List.getElem?_eq_some_iff.mp (hG0 s)).1; exact this)])
    obtain ⟨v', ev', hr⟩ := hk
    rw [ev0] at ex'
    cases ex'
    cases ev'
    cases hr with
    | @lst a vs0 _ A0 hp0 _ =>
    refine ⟨ty_lst hp0, ?_⟩
    refine h.go T t σ s H _ h0 (wp_mono (wp_bnd q) (fun y s1 q1 v H1 at1 => ?_) fun e s z => z σ)
    obtain ⟨hz, q2⟩ := wp_grd (wp_bnd (wp_bnd q1))
    obtain ⟨ev1, at1⟩ := at1.unpin (hG s1)
    have hi : i < (G1 s1).length := (List.getElem?_eq_some_iff.mp (hG s1)).1
    have at2 := at1.conv (i := i) (g := .is rD (.list ds)) (g' := .is (rList rD) ds) (by rw [List.getElem?_set_self hi]) fun M H x B _ ⟨v, e, hr⟩ => ⟨v, e, rD_list.mpr hr⟩
    rw [List.set_set] at at2
    obtain ⟨D', vs, e1, hD, hl, at3⟩ := at2.appendS (i := i) (by rw [List.getElem?_set_self hi])
    rw [ev1] at e1
    cases e1
    rw [List.set_set] at at3
    have at4 := at3.conv (i := i) (g := .is (rList rD) (ds ++ [y])) (g' := .is rD (.list (ds ++ [y]))) (by rw [List.getElem?_set_self hi]) fun M H x B _ ⟨v, e, hr⟩ => ⟨v, e, rD_list.mp hr⟩
    rw [List.set_set] at at4
    have at5 := at4.repin (i := i) (by rw [List.getElem?_set_self hi]) ev1
    rw [List.set_set] at at5
    exact ⟨_, vs, v, rfl, rfl, hD, by rw [hl]; exact hz, (hb _).go T t σ s1 _ D at5 q2⟩⟩
/-- x[k] = e, x a list whose value is pinned -/
theorem bx_setP {xs : List U} {me : SM S U} {mi : SM S Int} {out : List U → SM S (Fl N L R)} {x : Str} (i : Nat) (c : r1.Cp) (h : EX X F e te G G1 r1 me) (h2 : EX X F e2 te2 G1 G2 rInt mi) (hG1 : ∀ s, (G1 s)[i]? = some (.pn w (rList r1) xs)) (hG : ∀ s, (G2 s)[i]? = some (.pn w (rList r1) xs)) (hb : ∀ ys, BX X F rest tr (fun s => (G2 s).set i (.pn w (rList r1) ys)) GN GL r (out ys))
    (hN : X.N[i]? = some x := by rfl) (hv : Vis X.env.scope x := by first | exact Or.inl rfl | exact Or.inr (Or.inl rfl) | exact Or.inr (Or.inr rfl)) (hd : (x == ("__debug__" : Str)) = false := by decide) (hcd : (x == ("__classdict__" : Str)) = false := by decide)
    (ha : ∀ v, assign (.Subscript (.Name x p0) e2 p1) X.env v = (do
      let ov ← holding [v] (eval (.Name x p0) X.env)
      let iv ← holding [v, ov] (eval e2 X.env)
      standAt p1
      holding [v, ov, iv] (setItem ov iv v)
      release [v, ov, iv] []) := by intro _; rfl)
    (hs : swapsWithSole [(.Subscript (.Name x p0) e2 p1)] e pos.line X.env = pure false := by rfl) (hw : swappedStores [(.Subscript (.Name x p0) e2 p1)] e X.env = pure none := by rfl) (h1 : (assignEach [(.Subscript (.Name x p0) e2 p1)] X.env).map (·.2) = [assign (.Subscript (.Name x p0) e2 p1) X.env] := by rfl) :
    BX X F (.Assign [.Subscript (.Name x p0) e2 p1] e pos :: rest) (tSeq (tAsg te (gSub (tVar i) te2 rSetL)) tr) G GN GL r (bnd me fun v => bnd mi fun k => bnd (setM xs k v) out) :=
  ⟨pss_cons (ps_asg h.pe (pg_sub (pe_var hN hv hd hcd) h2.pe set_list ha) hs hw h1) (hb []).ps, fun T t σ s H D h0 q => by
    refine h.go T t σ s H _ h0 (wp_mono (wp_bnd q) (fun y s1 q1 v H1 at1 => ?_) fun e s z => z σ)
    obtain ⟨ev0, _⟩ := at1.unpin (hG1 s1)
    refine ⟨_, ev0, ?_⟩
    refine h2.go _ _ σ s1 H1 _ at1 (wp_mono (wp_bnd q1) (fun k s2 q2 v2 H2 at2 => ?_) fun e s z => z σ)
    obtain ⟨_, _, ek, _⟩ := top_rel at2
    subst ek
    obtain ⟨j, hj, q3⟩ := wp_setM (wp_bnd q2)
    obtain ⟨_, at3⟩ := at2.pop.unpin (hG s2)
    have hi : i < (G2 s2).length := (List.getElem?_eq_some_iff.mp (hG s2)).1
    obtain ⟨A1, A2, at4⟩ := at3
    obtain ⟨C, A', eA, ⟨v', ev, hry⟩, ht⟩ := AtS.cons_inv at4.tmp
    cases ev
    have eC := c hry
    subst eC
    obtain ⟨D', vs, B, e1, hD, hA, hl, nd0, kk⟩ := at4.mutS (i := i) (by rw [List.getElem?_set_self hi])
    rw [ev0] at e1
    cases e1
    have eB := cp_all c hA
    subst eB
    refine ⟨D', vs, k, j, rfl, rfl, hD, by rw [hl]; exact hj, ?_⟩
    have z := kk (vs.set j v) (xs.set j y) [] T t A' (all3_set hA hry j) ht (by rw [eA] at nd0; exact nd0) fun p hp => by rw [eA]; exact hp
    rw [List.set_set] at z
    have z2 := At.repin z (i := i) (by rw [List.getElem?_set_self hi]) ev0
    rw [List.set_set] at z2
    exact (hb _).go T t σ s2 _ D z2 q3⟩
end
/-- no promise is needed where nothing is computed -/
theorem fn_stkRk {P : Program} {w : World} {K : PySem.W.Frag} {mg : Str → Option Value} {base : Heap} {CX : CXT} {k : Nat} {f : Addr} {fd : FuncData} {ps : List Str} : FnOk P w K mg base CX k f fd ps (SpRk K fun _ => stk) :=
  ⟨fun vs H Q E h => by
    obtain ⟨_, _, _, _, _, _, h⟩ := h
    exact h.elim, fun A outer s H args us vs Q E hr he hb hv h => by
    obtain ⟨_, _, _, _, _, _, h⟩ := h
    exact h.elim⟩
theorem fn_stkP {P : Program} {w : World} {K : PySem.W.Frag} {mg : Str → Option Value} {base : Heap} {CX : CXT} {k : Nat} {f : Addr} {fd : FuncData} {ps : List Str} {U W : Type} {n : Nat} {Ps : U → List Slot} {r : Rp W} : FnOk P w K mg base CX k f fd ps (SpP K n Ps r fun _ => stk) :=
  ⟨fun vs H Q E h => by
    obtain ⟨_, _, _, _, _, _, h⟩ := h
    exact h.elim, fun A outer s H args us vs Q E hr he hb hv h => by
    obtain ⟨_, _, _, _, _, _, h⟩ := h
    exact h.elim⟩
/-! #### the body of such a def -/
section
variable {P : Program} {w : World} {K : PySem.W.Frag} {mg : Str → Option Value} {base : Heap} {x qual : Str} {params : Arguments} {body : List Stmt} {scope : Scope} {f : Addr} {fd : FuncData} {N : List Str} {k : Nat}
theorem at_exitRk {F : FC K Unit} {T : List Slot} {t : List V} {v0 v1 : V} {p : PD} {σ : L2.St} {H : Hp} (h : At F T t [.pn v0 rD p.1, .pn v1 (rList rInt) p.2, .un] σ H) : At F (.is (rList rInt) p.2 :: .is rD p.1 :: T) (v1 :: v0 :: t) [] [] H := by
  obtain ⟨e0, h⟩ := h.unpin (i := 0) rfl
  obtain ⟨e1, h⟩ := h.unpin (i := 1) rfl
  obtain ⟨w0, ew0, h⟩ := h.move (i := 0) rfl
  rw [e0] at ew0
  cases ew0
  obtain ⟨w1, ew1, h⟩ := h.move (i := 1) rfl
  rw [e1] at ew1
  cases ew1
  exact at_exit (n := 3) h
theorem fn_rk {fm : PD → SM Unit PD} {a b c : Str} (FD : FunD K x qual params body scope [] [] f fd) (Sc : FnScope [a, b, c] [a, b] scope) (out : PD → SM Unit (Fl PD Empty Unit)) (hfm : ∀ u, fm u = bnd (out u) fun fl => match fl with | .nx p => ret p | _ => stk) (hx : NoX fm)
    (hbody : ∀ (u : PD) (v0 v1 : V) (cdv : Value) (A : Around) (outer : List Env) (s : Shared) (H : Hp) (E : XK), Room k (A.deeper (envOfC qual scope s.heap.objs.size f cdv)) →
      ∀ F : FC K Unit, F.io = (fun _ => uns 3) → F.W = (fun c d _ H' => E c d H') → ∃ t, BX (cxOf (L2.CX P w) P w K mg base [a, b, c] qual scope f cdv A outer s H E) F body t (fun _ => [.pn v0 rD u.1, .pn v1 (rList rInt) u.2, .un]) (fun (p : PD) _ => [.pn v0 rD p.1, .pn v1 (rList rInt) p.2, .un]) (fun (e : Empty) _ => e.elim) rNon (out u)) :
    FnOk P w K mg base (L2.CX P w) (k + 1) f fd [a, b] (SpRk K fm) := by
  refine FD.ok Sc (fun vs H Q E h => ?_) (fun cdv A outer s H vs Q E hr h => ?_)
  · obtain ⟨u, _, _, _, h, _⟩ := h
    exact h
  · obtain ⟨u, s0, I, M0, hl, at0, q⟩ := h
    match vs, hl, at0, q with
    | [v0, v1], hl, at0, q =>
      obtain ⟨t, hB⟩ := hbody s0 v0 v1 cdv A outer s H E hr ⟨H, I, M0, fun _ => uns 3, fun c d _ H' => E c d H'⟩ rfl rfl
      refine ⟨t, hB.ps, hB.go [] [] (start [a, b, c] [v0, v1]) () H _ ?_ ?_⟩
      · have z := at_start (N := [a, b, c]) at0
        exact z.re rfl rfl rfl
      · have q2 : (fm s0 ()).wp (fun p _ => ∀ v H', At (FC.c (K := K) (S := PD) H I M0) [.is rNon (), .is (rList rInt) p.2, .is rD p.1] [v, v1, v0] [] [] H' → Q v H') (fun _ _ => False) := by
          refine hx _ _ (fun _ _ => False) ?_
          cases e : fm s0 () with
          | ok p u =>
            have q' := q
            simp only [e] at q'
            exact q'
          | exc e' u =>
            exfalso
            have := hx s0 (fun _ _ => True) (fun _ _ => True) (by rw [e]; trivial)
            rw [e] at this
            exact this
          | stuck =>
            have q' := q
            simp only [e] at q'
            exact q'
        rw [hfm s0] at q2
        refine wp_mono (wp_bnd q2) (fun fl s1 q1 => ?_) (fun e s1 q1 => q1.elim)
        cases fl with
        | nx p => exact fun σ' H' h1 => q1 .non H' ((At.push (r := rNon) (a := ()) (v := V.non) (at_exitRk h1) fun _ => ⟨rfl, rfl⟩).re rfl rfl rfl)
        | bk n => exact n.elim
        | ct n => exact n.elim
        | rt b => exact q1.elim
end
end Td

set_option Elab.async false
set_option linter.all false
set_option maxRecDepth 100000
set_option maxHeartbeats 4000000
namespace Td
open PySem PySem.Spec PyProof.Rows L2 He
section
variable {K : PySem.W.Frag} {S : Type} {F : FC K S} {T : List Slot} {t : List V} {G : List Slot} {σ : L2.St} {H : Hp}
theorem At.swap {g1 g2 : Slot} {v1 v2 : V} (h : At F (g1 :: g2 :: T) (v1 :: v2 :: t) G σ H) : At F (g2 :: g1 :: T) (v2 :: v1 :: t) G σ H := by
  obtain ⟨A1, A2, h⟩ := h
  obtain ⟨B1, A', eA, h1, ht⟩ := AtS.cons_inv h.tmp
  obtain ⟨B2, A'', eA2, h2, ht2⟩ := AtS.cons_inv ht
  subst eA eA2
  have sub : (B2 ++ (B1 ++ A'') ++ A2).Perm (B1 ++ (B2 ++ A'') ++ A2) := (List.perm_append_comm_assoc ..).append_right A2
  have hM : ∀ p, p ∈ B2 ++ (B1 ++ A'') ++ A2 ++ F.M0 → p ∈ B1 ++ (B2 ++ A'') ++ A2 ++ F.M0 ∨ H p = none := fun p hp => .inl ((sub.append_right F.M0).mem_iff.mp hp)
  exact ⟨B2 ++ (B1 ++ A''), A2, .cons (Slot.ok_grow h2 hM) (.cons (Slot.ok_grow h1 hM) (ht2.grow hM)), h.loc.grow hM, h.good.sub (sub.nodup_iff.mpr h.good.nd) fun p hp => sub.mem_iff.mp hp⟩
theorem argV_allT {σ : L2.St} : ∀ {L : List Slot} {ts vs : List V}, ArgV σ (L.map Arg.t) ts vs → ts = vs ∧ tmps (L.map Arg.t) = L ∧ vs.length = L.length
  | [], _, _, h => by cases h; exact ⟨rfl, rfl, rfl⟩
  | g :: L, _, _, h => by
    cases h with
    | t h =>
      obtain ⟨e1, e2, e3⟩ := argV_allT h
      subst e1
      exact ⟨rfl, by rw [List.map_cons]; show g :: tmps (L.map Arg.t) = g :: L; rw [e2], by simp [e3]⟩
/-- a call whose arguments are temps that move in -/
theorem go_callMv {U W A : Type} {n : Nat} {Ps : U → List Slot} {r : Rp W} {f : U → SM Unit W} {fa : A → SM Unit W} {E : XK} {ta : TA} {G G' : S → List Slot} {LA : A → List Arg} {mA : SM S A} (u : A → U) (hf : ∀ a, fa a = f (u a)) (h : GA F ta G G' LA mA) (hL : ∀ a, LA a = (Ps (u a)).map Arg.t) (hn : ∀ a, (Ps (u a)).length = n)
    (hW : ∀ c d σ H, F.W c d σ H → E c d H) (hw : ∀ s, Weak (G' s) (F.io s)) :
    GE F (tCall (SpP K n Ps r f) [] E ta) G G' r (bnd mA fun a => lft (fa a)) := by
  intro T t σ s H Q h0 q
  have ef : fa = fun a => f (u a) := funext hf
  subst ef
  refine h T t σ s H _ h0 (wp_mono (wp_bnd q) (fun a s1 q1 ts vs H1 at1 av => ?_) fun _ _ z => z)
  have q2 := wp_lft q1
  rw [hL a] at at1 av
  obtain ⟨e1, e2, e3⟩ := argV_allT av
  subst e1
  rw [e2] at at1
  obtain ⟨A1, A2, at1⟩ := at1
  show SpP K n Ps r f (ts ++ []) H1 Q E
  rw [List.append_nil]
  refine run_mv (S' := Unit) (L := Ps (u a)) at1 e3 (by rw [e3, hn]) (fun _ _ h => h) (wp_mono q2 (fun b _ q3 v H' hx => q3 v H' hx) fun e _ q3 d H' hx => ?_)
  refine hW _ _ σ _ (q3 d H' ?_)
  have z2 := At.weak hx (hw s1)
  exact At.dropM (T0 := [_]) (t0 := [.ref d]) (T := []) (t := []) rfl (T1 := T) (t1 := t) (by obtain ⟨B1, B2, hz⟩ := h0; have := hz.tmp.length; simpa using this) (by simpa using z2)
end
section
variable {X : Cx} {S : Type} {F : FC X.K S} {U W A : Type} {n k : Nat} {Ps : U → List Slot} {r : Rp W} {f : U → SM Unit W} {E : XK} {ta : TA} {G G' : S → List Slot} {LA : A → List Arg} {mA : SM S A} {CX : CXT} {fA : Addr} {fd : FuncData} {ps : List Str} {x : Str} {p pos : Pos} {e : Expr} {es : List Expr}
theorem ex_callMv {fm : A → SM Unit W} (u : A → U) (FO : FnOk X.prog X.w X.K X.mg X.base CX k fA fd ps (SpP X.K n Ps r f)) (hr : Room k X.A) (hg : Gl X x) (hm : X.mg x = some (.ref fA)) (hk : PySem.W.keepIn X.K (.ref fA) = true) (hb : Binds X.K fd ps []) (hx : Passes CX X E)
    (h : EA X F (e :: es) ta G G' LA mA) (hL : ∀ a, LA a = (Ps (u a)).map Arg.t) (hn : ∀ a, (Ps (u a)).length = n) (hW : ∀ c d σ H, F.W c d σ H → E c d H) (hw : ∀ s, Weak (G' s) (F.io s))
    (hf : ∀ a, fm a = f (u a) := by intro _; rfl)
    (hst : PySem.W.isStarred e = false := by rfl) (hpl : (backTo pos (starEach es X.env)).any (·.1) = false := by rfl) (hdb : (x == ("__debug__" : Str)) = false := by decide) :
    EX X F (.Call (.Name x p) (e :: es) [] pos) (tCall (SpP X.K n Ps r f) [] E ta) G G' r (bnd mA fun a => lft (fm a)) :=
  ⟨pe_call FO hr hg hm hk hb .nil hx h.pa (hdb := hdb) (he := star1 hst) (hpl := hpl), go_callMv u hf h.go hL hn hW hw⟩
/-- ranks(x, [0]): x is changed in place -/
theorem bx_rk {N L R : Type} {GN : N → S → List Slot} {GL : L → S → List Slot} {r : Rp R} {rest : List Stmt} {tr : TS} {f : PD → SM Unit PD} {G1 : S → List Slot} {te : TE} {m : SM S (List Int)} {d : PyData} {fm : List Int → SM Unit PD} {out : PD → SM S (Fl N L R)} {c z : Str} {p1 p2 p3 pos : Pos} (j : Nat)
    (FO : FnOk X.prog X.w X.K X.mg X.base CX k fA fd ps (SpRk X.K f)) (hr : Room k X.A) (hg : Gl X c) (hm : X.mg c = some (.ref fA)) (hk : PySem.W.keepIn X.K (.ref fA) = true) (hb : Binds X.K fd ps []) (hx : Passes CX X E) (hf : NoX f)
    (hG : ∀ s, (G s)[j]? = some (.is rD d)) (h : EX X F e te G G1 (rList rInt) m) (hG1 : ∀ s, (G1 s)[j]? = some (.is rD d)) (hrest : ∀ p, BX X F rest tr (fun s => (G1 s).set j (.is rD p.1)) GN GL r (out p)) (hfm : ∀ l, fm l = f (d, l) := by intro _; rfl)
    (hN : X.N[j]? = some z := by rfl) (hv : Vis X.env.scope z := by first | exact Or.inl rfl | exact Or.inr (Or.inl rfl) | exact Or.inr (Or.inr rfl)) (hd : (z == ("__debug__" : Str)) = false := by decide) (hcd : (z == ("__classdict__" : Str)) = false := by decide)
    (hdb : (c == ("__debug__" : Str)) = false := by decide) (hst : PySem.W.isStarred e = false := by rfl) (hpl : (backTo p3 (starEach [e] X.env)).any (·.1) = false := by rfl)
    (hsw : swapsWith (.Call (.Name c p1) [.Name z p2, e] [] p3) none pos.line X.env = pure false := by rfl) :
    BX X F (.Expr (.Call (.Name c p1) [.Name z p2, e] [] p3) pos :: rest) (tSeq (tDrop (tCall (SpRk X.K f) [] E (tCons (tVar j) (tCons te tNil)))) tr) G GN GL r (bnd m fun l => bnd (lft (fm l)) out) :=
  ⟨pss_cons (ps_expr (pe_call FO hr hg hm hk hb .nil hx (pa_cons (pe_var hN hv hd hcd) (pa_cons h.pe pa_nil (star1 hst)) (star1 rfl)) (hdb := hdb) (he := star1 rfl) (hpl := hpl)) hsw) (hrest (d, [])).ps, fun T t σ s H D h0 q => by
    have ef : fm = fun l => f (d, l) := funext hfm
    subst ef
    obtain ⟨v0, M0, B0, ev0, _⟩ := h0.slot (hG s)
    refine ⟨v0, ev0, ?_⟩
    refine h.go T t σ s H _ h0 (wp_mono (wp_bnd q) (fun l s1 q1 w H1 at1 => ?_) fun e s z => z σ)
    have q2 := wp_lft (wp_bnd q1)
    obtain ⟨v', ev', at2⟩ := at1.move (hG1 s1)
    rw [ev0] at ev'
    cases ev'
    obtain ⟨A1, A2, at3⟩ := at2.swap
    have hi : j < (G1 s1).length := (List.getElem?_eq_some_iff.mp (hG1 s1)).1
    show SpRk X.K f [v0, w] H1 _ E
    refine run_mv (S' := PD) (L := [.is rD d, .is (rList rInt) l]) (vs := [v0, w]) (T := T) (t := t) (u := ()) (s0 := (d, l)) at3 rfl rfl ?_ (wp_rk (hf _ _ _ (wp_mono q2 (fun p _ q3 v H' hh => ?_) fun _ _ z => z)))
    · intro M C hc
      obtain ⟨B, A', eA, ⟨y, ey, h1⟩, h2⟩ := AtS.cons_inv hc
      obtain ⟨B2, A'', eA2, ⟨z, ez, h3⟩, h4⟩ := AtS.cons_inv h2
      cases ey
      cases ez
      cases h4
      subst eA eA2
      exact .cons ⟨rfl, h1⟩ (.cons ⟨rfl, h3⟩ .nil)
    · have hh' : At F (.is rNon () :: .is (rList rInt) p.2 :: .is rD p.1 :: T) (v :: w :: v0 :: t) ((G1 s1).set j .un) σ H' := hh
      have z := At.store (g' := .un) hh'.pop.pop j (by rw [List.getElem?_set_self hi])
      rw [set_self ev0, List.set_set] at z
      exact (hrest _).go T t σ s1 H' D z q3⟩
end
/-! #### the mirror of _law_td_ranks -/
def kidsIf (f : PD → SM Unit PD) (u : PD) : SM Unit PD := if isDB ["list", "tuple"] u.1 = true then kidsD f u.1 u.2 else ret u
def rkEnd (u : PD) : SM Unit PD := if isDB ["list"] u.1 = true then bnd (asM (lstD u.1)) fun ds => bnd (ixM u.2 0) fun n => bnd (pushM ds (.tuple [.str "rank", .int n])) fun ys => bnd (ixM u.2 0) fun n2 => bnd (setM u.2 0 (n2 + 1)) fun l => ret (.list ys, l) else ret u
theorem nox_bnd {T : Type} {m : SM Unit T} {f : T → SM Unit PD} (hm : ∀ P E, (m ()).wp P E → (m ()).wp P (fun _ _ => False)) (hf : ∀ a, ∀ P E, (f a ()).wp P E → (f a ()).wp P (fun _ _ => False)) : ∀ P E, ((bnd m f) ()).wp P E → ((bnd m f) ()).wp P (fun _ _ => False) :=
  fun P E h => bnd_wp (hm _ _ (wp_mono (wp_bnd h) (fun a s q => hf a _ _ q) fun _ _ z => z))
theorem nx_stl {T : Type} {m : SM Unit T} (h : Stl m) : ∀ P E, (m ()).wp P E → (m ()).wp P (fun _ _ => False) := fun P E q => wp_mono (h.wp (E' := fun _ _ => False) q) (fun _ _ z => z.2) fun _ _ z => z
theorem stl_asM {T : Type} (o : Option T) : Stl (asM o : SM Unit T) := by cases o; exact stl_stk; exact stl_ret _
theorem nox_kidsM {f : PD → SM Unit PD} (hf : NoX f) : ∀ k i p P E, (kidsM f k i p ()).wp P E → (kidsM f k i p ()).wp P (fun _ _ => False)
  | 0, i, p, P, E, h => h
  | k + 1, i, p, P, E, h => bnd_wp (hf _ _ _ (wp_mono (wp_bnd h) (fun a s q => nox_kidsM hf k (i + 1) _ _ _ q) fun _ _ z => z))
theorem nox_kidsD {f : PD → SM Unit PD} (hf : NoX f) (u : PD) : ∀ P E, (kidsD f u.1 u.2 ()).wp P E → (kidsD f u.1 u.2 ()).wp P (fun _ _ => False) := by
  unfold kidsD
  cases u.1 with
  | list ds => exact nox_bnd (nox_kidsM hf _ _ _) fun p => nx_stl (stl_ret _)
  | tuple ds => exact nox_bnd (nox_kidsM hf _ _ _) fun p => nx_stl (stl_ret _)
  | _ => exact fun P E h => h
theorem nox_rkEnd : NoX rkEnd := by
  intro u
  unfold rkEnd
  split
  · exact nox_bnd (nx_stl (stl_asM _)) fun ds => nox_bnd (nx_stl (stl_ixM _ _)) fun n => nox_bnd (nx_stl (by unfold pushM; exact stl_bnd stl_grd fun _ => stl_ret _)) fun ys => nox_bnd (nx_stl (stl_ixM _ _)) fun n2 => nox_bnd (nx_stl (by unfold setM; split; exact stl_ret _; exact stl_stk)) fun l => nx_stl (stl_ret _)
  · exact nx_stl (stl_ret _)
/-- as the body's rules tell it -/
def oRk (f : PD → SM Unit PD) (u : PD) : SM Unit (Fl PD Empty Unit) :=
  bnd (bnd (ret ()) fun (_ : Unit) => ret (isDB ["list", "tuple"] u.1)) fun k => thn_ (if k then bnd (kidsD f u.1 u.2) fun p => ret (.nx p) else ret (.nx u)) fun (p : PD) =>
    bnd (bnd (ret ()) fun (_ : Unit) => ret (isDB ["list"] p.1)) fun k => thn_ (if k then bnd (asM (lstD p.1)) fun ds => bnd (bnd (bnd (ret ("rank" : Str)) fun a => bnd (bnd (ret ()) fun (_ : Unit) => bnd (ret 0) fun i => ixM p.2 i) fun b => ret (a, b)) fun c => ret (dP PyData.str PyData.int c)) fun y => bnd (pushM ds y) fun ys =>
      bnd (bnd (bnd (ret ()) fun (_ : Unit) => bnd (ret 0) fun i => ixM p.2 i) fun a => bnd (ret 1) fun b => ret (a + b)) fun v => bnd (ret 0) fun i => bnd (setM p.2 i v) fun l => ret (.nx (.list ys, l)) else ret (.nx p)) fun (p : PD) => ret (.nx p)
def mRk : Nat → PD → SM Unit PD
  | 0, _ => stk
  | n + 1, u => bnd (oRk (mRk n) u) fun fl => match fl with | .nx p => ret p | _ => stk
theorem bndR {S T U : Type} (a : T) (f : T → SM S U) : bnd (ret a) f = f a := rfl
theorem mRk_eq (n : Nat) (u : PD) : mRk (n + 1) u = bnd (kidsIf (mRk n) u) rkEnd := by
  have tail : ∀ p : PD, (bnd (bnd (bnd (ret ()) fun (_ : Unit) => ret (isDB ["list"] p.1)) fun k => thn_ (if k then bnd (asM (lstD p.1)) fun ds => bnd (bnd (bnd (ret ("rank" : Str)) fun a => bnd (bnd (ret ()) fun (_ : Unit) => bnd (ret 0) fun i => ixM p.2 i) fun b => ret (a, b)) fun c => ret (dP PyData.str PyData.int c)) fun y => bnd (pushM ds y) fun ys =>
      bnd (bnd (bnd (ret ()) fun (_ : Unit) => bnd (ret 0) fun i => ixM p.2 i) fun a => bnd (ret 1) fun b => ret (a + b)) fun v => bnd (ret 0) fun i => bnd (setM p.2 i v) fun l => ret (.nx (.list ys, l)) else ret (.nx p)) fun (p : PD) => (ret (.nx p) : SM Unit (Fl PD Empty Unit))) fun fl => match fl with | .nx p => ret p | _ => stk) = rkEnd p := by
    intro p
    unfold rkEnd thn_
    simp only [bndA, bndR]
    by_cases h : isDB ["list"] p.1 = true
    · rw [h]
      simp only [if_true, bndA, bndR]
      rfl
    · rw [if_neg h, if_neg h]
      rfl
  show bnd (oRk (mRk n) u) _ = _
  unfold oRk kidsIf
  simp only [bndA, bndR]
  by_cases h : isDB ["list", "tuple"] u.1 = true
  · rw [h]
    simp only [if_true, thn_, bndA, bndR]
    congr 1
    funext p
    have := tail p
    simp only [bndA, bndR, thn_] at this
    exact this
  · rw [if_neg h, if_neg h]
    have := tail u
    simp only [bndA, bndR, thn_] at this ⊢
    exact this
theorem nox_mRk : ∀ n, NoX (mRk n)
  | 0 => fun _ _ _ h => h
  | n + 1 => fun u => by
    rw [mRk_eq]
    refine nox_bnd ?_ nox_rkEnd
    unfold kidsIf
    split
    · exact nox_kidsD (nox_mRk n) u
    · exact nx_stl (stl_ret _)
end Td

set_option Elab.async false
set_option linter.all false
set_option maxRecDepth 100000
set_option maxHeartbeats 4000000
namespace Td
open PySem PySem.Spec PyProof.Rows L2 He
section
variable {X : Cx} {S : Type} {F : FC X.K S} {U W : Type} {r r1 : Rp U} {r2 : Rp W} {a b e : Expr} {ta tb te : TE} {G G1 G2 G' : S → List Slot} {m : SM S U} {pos p0 p1 p2 : Pos}
/-- tests of which the later one takes things out of names -/
theorem ew_andW {rest : List Expr} {mc md : SM S Bool} {tc td : TT} (h : ET X F a tc G G1 mc) (h2 : EW X F (.BoolOp .And (b :: rest) pos) td G1 G2 md) (hw : ∀ s, Weak (G1 s) (G2 s)) : EW X F (.BoolOp .And (a :: b :: rest) pos) (tAnd tc td) G G2 (bnd mc fun k => if k then md else ret false) :=
  ⟨pw_and h.pt h2.pw, fun T t σ s H Q h0 q => by
    refine h.go T t σ s H _ h0 (wp_mono (wp_bnd q) (fun k s1 q1 H1 at1 => ?_) fun _ _ z => z)
    cases k with
    | true => exact h2.go T t σ s1 H1 Q at1 q1
    | false => exact q1 H1 (at1.weak (hw s1))⟩
theorem ew_orW {rest : List Expr} {mc md : SM S Bool} {tc td : TT} (h : ET X F a tc G G1 mc) (h2 : EW X F (.BoolOp .Or (b :: rest) pos) td G1 G2 md) (hw : ∀ s, Weak (G1 s) (G2 s)) : EW X F (.BoolOp .Or (a :: b :: rest) pos) (tOr tc td) G G2 (bnd mc fun k => if k then ret true else md) :=
  ⟨pw_or h.pt h2.pw, fun T t σ s H Q h0 q => by
    refine h.go T t σ s H _ h0 (wp_mono (wp_bnd q) (fun k s1 q1 H1 at1 => ?_) fun _ _ z => z)
    cases k with
    | true => exact q1 H1 (at1.weak (hw s1))
    | false => exact h2.go T t σ s1 H1 Q at1 q1⟩
theorem ex_andW {rest : List Expr} {mc md : SM S Bool} (h : EX X F a ta G G1 rBool mc) (h2 : EX X F (.BoolOp .And (b :: rest) pos) tb G1 G2 rBool md) (hw : ∀ s, Weak (G1 s) (G2 s)) : EX X F (.BoolOp .And (a :: b :: rest) pos) (tAndV ta tb) G G2 rBool (bnd mc fun k => if k then md else ret false) :=
  ⟨pe_and h.pe h2.pe, fun T t σ s H Q h0 q => h.go T t σ s H _ h0 (wp_mono (wp_bnd q) (fun k s1 q1 v H1 at1 => by
    obtain ⟨M, B, e, _⟩ := top_rel at1
    refine ⟨k, e, ?_⟩
    cases k with
    | true => exact h2.go T t σ s1 H1 Q at1.pop q1
    | false => exact q1 _ H1 ((at1.pop.weak (hw s1)).push fun _ => ⟨rfl, rfl⟩)) fun _ _ z => z)⟩
theorem ex_orW {rest : List Expr} {mc md : SM S Bool} (h : EX X F a ta G G1 rBool mc) (h2 : EX X F (.BoolOp .Or (b :: rest) pos) tb G1 G2 rBool md) (hw : ∀ s, Weak (G1 s) (G2 s)) : EX X F (.BoolOp .Or (a :: b :: rest) pos) (tOrV ta tb) G G2 rBool (bnd mc fun k => if k then ret true else md) :=
  ⟨pe_or h.pe h2.pe, fun T t σ s H Q h0 q => h.go T t σ s H _ h0 (wp_mono (wp_bnd q) (fun k s1 q1 v H1 at1 => by
    obtain ⟨M, B, e, _⟩ := top_rel at1
    refine ⟨k, e, ?_⟩
    cases k with
    | true => exact q1 _ H1 ((at1.pop.weak (hw s1)).push fun _ => ⟨rfl, rfl⟩)
    | false => exact h2.go T t σ s1 H1 Q at1.pop q1) fun _ _ z => z)⟩
/-- less is known behind an expression -/
theorem ex_weak (h : EX X F e te G G1 r m) (hw : ∀ s, Weak (G1 s) (G2 s)) : EX X F e te G G2 r m := ⟨h.pe, fun T t σ s H Q h0 q => h.go T t σ s H Q h0 (wp_mono q (fun a s1 q1 v H1 at1 => q1 v H1 (at1.weak (hw s1))) fun _ _ z => z)⟩
theorem et_weak {tc : TT} {mc : SM S Bool} (h : ET X F e tc G G1 mc) (hw : ∀ s, Weak (G1 s) (G2 s)) : ET X F e tc G G2 mc := ⟨h.pt, fun T t σ s H Q h0 q => h.go T t σ s H Q h0 (wp_mono q (fun a s1 q1 H1 at1 => q1 H1 (at1.weak (hw s1))) fun _ _ z => z)⟩
section
variable {argW : W → Arg} {m2 : SM S W}
theorem go_ninL {xs : W → List Int} {mi : SM S Int} (h1 : GE F ta G G1 rInt mi) (h2 : GO F tb G1 G2 argW m2) (hx : ∀ a s, Rdd (G2 s) (argW a) (rList rInt) (xs a)) :
    GE F (tOp (rIn X.K true) ta tb) G G2 rBool (bnd mi fun i => bnd m2 fun b => ret (!((xs b).any (· == i)))) :=
  go_op2 (fun T t σ s H Q h0 q => h1 T t σ s H Q h0 (wp_mono q (fun a s1 q1 v H1 at1 => q1 [v] v H1 (by simpa [tmps] using at1) (.t .nil)) fun _ _ z => z)) h2 (argU := fun a => .t (.is rInt a)) (fun _ _ => stl_ret _) fun i b s T t ts x y σ H Q A1 A2 at1 av q => by
    obtain ⟨v, B, e1, ei, _⟩ := rddM (j := 0) at1 av rfl .t
    obtain ⟨v2, B2, e2, p2, vs2, A', ev2, hp2, hA2, eB2⟩ := rddM (j := 1) at1 av rfl (hx b s)
    cases e1; cases e2
    have evs := all_pl hA2
    subst evs ei
    refine ⟨p2, _, ev2, .inl (SqL.of hp2), rfl, by simp [flatV], ?_⟩
    have e : inV (.int i) ((xs b).map V.int) = (xs b).any (· == i) := by
      unfold inV
      rw [List.any_map]
      rfl
    show Q (.bl (if true = true then _ else _)) H
    rw [if_pos rfl, e]
    exact q.2 _ H (at1.fin av ⟨rfl, rfl⟩)
theorem ex_ninL {xs : W → List Int} {mi : SM S Int} (h1 : EX X F a ta G G1 rInt mi) (h2 : EO X F b tb G1 G2 argW m2) (hx : ∀ a s, Rdd (G2 s) (argW a) (rList rInt) (xs a)) (hm : behindInMarks .NotIn b = false := by with_unfolding_all rfl) :
    EX X F (.Compare a [.NotIn] [b] pos) (tOp (rIn X.K true) ta tb) G G2 rBool (bnd mi fun i => bnd m2 fun b => ret (!((xs b).any (· == i)))) := ⟨pe_cmpR op_notIn_seq h1.pe h2.pe hm, go_ninL h1.go h2.go hx⟩
theorem et_ninL {xs : W → List Int} {mi : SM S Int} (h1 : EX X F a ta G G1 rInt mi) (h2 : EO X F b tb G1 G2 argW m2) (hx : ∀ a s, Rdd (G2 s) (argW a) (rList rInt) (xs a)) (hm : behindInMarks .NotIn b = false := by with_unfolding_all rfl) :
    ET X F (.Compare a [.NotIn] [b] pos) (tTest (tOp (rIn X.K true) ta tb)) G G2 (bnd mi fun i => bnd m2 fun b => ret (!((xs b).any (· == i)))) := ⟨pt_cmpR op_notIn_seq h1.pe h2.pe hm, go_test (go_ninL h1.go h2.go hx)⟩
end
/-- a is True -/
theorem vo_isB {K : PySem.W.Frag} {S : Type} : VO2 K S rBool rBool rBool (fun x y H Q => ∃ a b, x = .bl a ∧ y = .bl b ∧ Q (.bl (decide (a = b))) H) (fun a b => ret (decide (a = b))) :=
  fun a b v w M B M' B' H Q s k k' q => ⟨a, b, by rw [k.1], by rw [k'.1], q rfl _ fun _ => ⟨rfl, rfl⟩⟩
theorem vo_isnB {K : PySem.W.Frag} {S : Type} : VO2 K S rBool rBool rBool (fun x y H Q => ∃ a b, x = .bl a ∧ y = .bl b ∧ Q (.bl (!decide (a = b))) H) (fun a b => ret (!decide (a = b))) :=
  fun a b v w M B M' B' H Q s k k' q => ⟨a, b, by rw [k.1], by rw [k'.1], q rfl _ fun _ => ⟨rfl, rfl⟩⟩
end
section
variable {X : Cx} {S : Type} {F : FC X.K S} {U W A : Type} {n k : Nat} {Ps : U → List Slot} {r : Rp W} {f : U → SM Unit W} {E : XK} {ta : TA} {G G' : S → List Slot} {LA : A → List Arg} {mA : SM S A} {fA : Addr} {fd : FuncData} {ps : List Str} {x : Str} {p pos : Pos} {e : Expr} {es : List Expr}
theorem ex_callMvG {fm : A → SM Unit W} (hgd : X.A.guards = some []) (u : A → U) (FO : FnG X.prog X.w X.K X.mg X.base k fA fd ps (SpP X.K n Ps r f)) (hr : Room k X.A) (hg : Gl X x) (hm : X.mg x = some (.ref fA)) (hk : PySem.W.keepIn X.K (.ref fA) = true) (hb : Binds X.K fd ps []) (hx : Passes (L2.CX X.prog X.w) X E)
    (h : EA X F (e :: es) ta G G' LA mA) (hL : ∀ a, LA a = (Ps (u a)).map Arg.t) (hn : ∀ a, (Ps (u a)).length = n) (hW : ∀ c d σ H, F.W c d σ H → E c d H) (hw : ∀ s, Weak (G' s) (F.io s))
    (hf : ∀ a, fm a = f (u a) := by intro _; rfl)
    (hst : PySem.W.isStarred e = false := by rfl) (hpl : (backTo pos (starEach es X.env)).any (·.1) = false := by rfl) (hdb : (x == ("__debug__" : Str)) = false := by decide) :
    EX X F (.Call (.Name x p) (e :: es) [] pos) (tCall (SpP X.K n Ps r f) [] E ta) G G' r (bnd mA fun a => lft (fm a)) :=
  ⟨pe_callG FO hr hgd hg hm hk hb hx h.pa (hdb := hdb) (hst := star1 hst) (hpl := hpl), go_callMv u hf h.go hL hn hW hw⟩
end
end Td

set_option Elab.async false
set_option linter.all false
set_option maxRecDepth 100000
set_option maxHeartbeats 4000000
namespace Td
open PySem PySem.Spec PyProof.Rows L2 He
/-! ### sorted: ints, pairs of ints -/
def leI (a b : Int) : Bool := decide (a ≤ b)
def leP (a b : Int × Int) : Bool := decide (a.1 < b.1 ∨ a.1 = b.1 ∧ a.2 ≤ b.2)
def srtI (l : List Int) : List Int := l.mergeSort leI
def srtP (l : List (Int × Int)) : List (Int × Int) := l.mergeSort leP
theorem leI_tr (a b c : Int) (h : leI a b = true) (k : leI b c = true) : leI a c = true := by
  have := of_decide_eq_true h
  have := of_decide_eq_true k
  exact decide_eq_true (by omega)
theorem leI_tot (a b : Int) : (leI a b || leI b a) = true := by
  unfold leI
  rw [Bool.or_eq_true, decide_eq_true_iff, decide_eq_true_iff]
  omega
theorem leP_tr (a b c : Int × Int) (h : leP a b = true) (k : leP b c = true) : leP a c = true := by
  have := of_decide_eq_true h
  have := of_decide_eq_true k
  exact decide_eq_true (by omega)
theorem leP_tot (a b : Int × Int) : (leP a b || leP b a) = true := by
  unfold leP
  rw [Bool.or_eq_true, decide_eq_true_iff, decide_eq_true_iff]
  omega
theorem srtI_uniq {l m : List Int} (p : m.Perm l) (s : m.Pairwise (· ≤ ·)) : m = srtI l :=
  List.Perm.eq_of_pairwise (le := (· ≤ ·)) (fun a b _ _ h k => Int.le_antisymm h k) s ((List.pairwise_mergeSort leI_tr leI_tot l).imp fun h => of_decide_eq_true h) (p.trans (List.mergeSort_perm l leI).symm)
theorem srtI_perm (l : List Int) : (srtI l).Perm l := List.mergeSort_perm l leI
theorem srtI_pw (l : List Int) : (srtI l).Pairwise (· ≤ ·) := (List.pairwise_mergeSort leI_tr leI_tot l).imp fun h => of_decide_eq_true h
def LeP (a b : Int × Int) : Prop := a.1 < b.1 ∨ a.1 = b.1 ∧ a.2 ≤ b.2
theorem srtP_uniq {l m : List (Int × Int)} (p : m.Perm l) (s : m.Pairwise LeP) : m = srtP l :=
  List.Perm.eq_of_pairwise (le := LeP) (fun a b _ _ h k => by unfold LeP at h k; exact Prod.ext (by omega) (by omega)) s ((List.pairwise_mergeSort leP_tr leP_tot l).imp fun h => of_decide_eq_true h) (p.trans (List.mergeSort_perm l leP).symm)
theorem srtP_perm (l : List (Int × Int)) : (srtP l).Perm l := List.mergeSort_perm l leP
theorem srtP_pw (l : List (Int × Int)) : (srtP l).Pairwise LeP := (List.pairwise_mergeSort leP_tr leP_tot l).imp fun h => of_decide_eq_true h
def rSortedQ (K : PySem.W.Frag) : List V → Hp → VK → Prop := fun vs H Q => ∃ (a : Addr) (xs : List V) (as : List (Int × Int)) (M : List Addr), vs = [V.ref a] ∧ SqL K H a xs ∧ All3 ((rPair rInt rInt).rel K M H) xs as [] ∧
  ∀ ys p, All3 ((rPair rInt rInt).rel K M H) ys (srtP as) [] → H p = none → Q (.ref p) (upd H p (.lst ys))
theorem pair_uniq {h : Heap} {v : Value} {x y x' y' : Int} (p : Srt.IsPair h v x y) (q : Srt.IsPair h v x' y') : (x, y) = (x', y') := by
  obtain ⟨a, o, t, u, n, e, ho, hc, hd⟩ := p
  obtain ⟨a', o', t', u', n', e', ho', hc', hd'⟩ := q
  rw [e] at e'
  cases e'
  rw [ho] at ho'
  cases ho'
  rw [hd] at hd'
  cases hd'
  rfl
open Classical in
noncomputable def keyH (h : Heap) (v : Value) : Int × Int := if q : ∃ x : Int × Int, Srt.IsPair h v x.1 x.2 then q.choose else (0, 0)
theorem keyH_eq {h : Heap} {v : Value} {x : Int × Int} (p : Srt.IsPair h v x.1 x.2) : keyH h v = x := by
  have q : ∃ x : Int × Int, Srt.IsPair h v x.1 x.2 := ⟨x, p⟩
  unfold keyH
  rw [dif_pos q]
  exact pair_uniq q.choose_spec p
theorem pairs_all {X : Cx} {pins : List (Addr × Obj)} {σ : L2.St} {H : Hp} {s : Shared} (I : Inv X pins σ H s) {M : List Addr} : ∀ {xs : List V} {as : List (Int × Int)} {B : List Addr} {its : List Value}, All3 ((rPair rInt rInt).rel X.K M H) xs as B → Vals xs its →
    its.map (keyH s.heap) = as ∧ ∀ v, v ∈ its → Srt.IsPair s.heap v (keyH s.heap v).1 (keyH s.heap v).2 ∧ ∃ t, v = Value.ref t ∧ (rPair rInt rInt).rel X.K M H (.ref t) (keyH s.heap v) []
  | _, _, _, _, .nil, .nil => ⟨rfl, fun v hv => absurd hv (by simp)⟩
  | _, _, _, _, @All3.cons _ _ v0 x B0 vs0 as0 A0 h t, .cons r rs => by
    obtain ⟨k1, k2⟩ := pairs_all I t rs
    have h0 := h
    obtain ⟨p, v1, v2, B1, B2, e, hT, h1, h2, eB⟩ := h0
    have eB0 := cp_pair cp_int cp_int h
    subst eB0
    subst e
    cases r
    obtain ⟨its, rv, ⟨o, ho, hc, n, hd⟩, _⟩ := I.tuple hT
    obtain ⟨u1, u2, e2, r1, r2⟩ := vals2 rv
    rw [h1.1] at r1
    rw [h2.1] at r2
    obtain ⟨t1, e3⟩ := r1
    obtain ⟨t2, e4⟩ := r2
    subst e2 e3 e4
    have ip : Srt.IsPair s.heap (.ref p) x.1 x.2 := ⟨p, o, t1, t2, n, rfl, ho, hc, hd⟩
    have ek := keyH_eq ip
    refine ⟨by rw [List.map_cons, ek, k1], fun v hv => ?_⟩
    rcases List.mem_cons.mp hv with hv | hv
    · subst hv
      rw [ek]
      exact ⟨ip, p, rfl, h⟩
    · exact k2 v hv
theorem all_back {K : PySem.W.Frag} {M : List Addr} {H : Hp} {k : Value → Int × Int} : ∀ {its : List Value}, (∀ v, v ∈ its → ∃ t, v = Value.ref t ∧ (rPair rInt rInt).rel K M H (.ref t) (k v) []) → All3 ((rPair rInt rInt).rel K M H) (its.map backV) (its.map k) []
  | [], _ => .nil
  | v :: its, h => by
    obtain ⟨t, e, hr⟩ := h v (List.mem_cons_self ..)
    subst e
    exact .cons (B := []) hr (all_back fun v hv => h v (List.mem_cons_of_mem _ hv))
theorem cr_sortedQ {X : Cx} : CallR X (.builtin "sorted") (rSortedQ X.K) := by
  intro pins s σ H vs us Q I r h
  obtain ⟨a, xs, as, M, rfl, hs, hx, q⟩ := h
  obtain ⟨its, rv, hl, hz⟩ := I.list hs
  obtain ⟨u, rfl, ru⟩ := vals1 r
  obtain rfl : u = Value.ref a := ru
  obtain ⟨k1, k2⟩ := pairs_all I hx rv
  refine SrtO.sorted_pairsO (k := keyH s.heap) hl.isList (by rw [← rv.length]; exact hz) (fun v hv => (k2 v hv).1) fun h' d out h1 h2 kp hd hn => ?_
  have h3 : ∀ v, v ∈ out → ∃ t, v = Value.ref t ∧ (rPair rInt rInt).rel X.K M H (.ref t) (keyH s.heap v) [] := fun v hv => (k2 v (h2.perm.mem_iff.mp hv)).2
  obtain ⟨n, hn⟩ := hn
  have e1 : out.map (keyH s.heap) = srtP as := by
    refine srtP_uniq ?_ ?_
    · rw [← k1]
      exact h2.perm.map _
    · rw [List.pairwise_map]
      refine h1.imp fun {x y} hxy => ?_
      have := SrtO.lexB_no.mp hxy
      unfold LeP
      omega
  refine ⟨.ref d, upd H d (.lst (out.map backV)), I.laid (t' := s.toks) kp hd ⟨?_, out, n, vals_back (fun u hu => (h3 u hu).imp fun _ h => h.1), hn⟩, rfl, q _ d (by rw [← e1]; exact all_back h3) (I.hok.fresh hd)⟩
  rw [List.length_map, h2.perm.length_eq, ← rv.length]
  exact hz
section
variable {X : Cx} {S : Type} {F : FC X.K S} {U W Z : Type} {e a b : Expr} {te ta tb : TE} {G G1 G2 G' : S → List Slot} {m m1 : SM S U} {pos p0 apos cpos : Pos} {arg argU : U → Arg}
theorem boot_sorted' : bootBuiltins "sorted" = some (.builtin "sorted") := by with_unfolding_all rfl
theorem ex_sortI {xs : U → List Int} (h : EO X F e te G G' arg m) (hx : ∀ a s, Rdd (G' s) (arg a) (rList rInt) (xs a)) (hg : Gl X "sorted") (hm : X.mg "sorted" = none) (hs : PySem.W.isStarred e = false := by rfl) :
    EX X F (.Call (.Name "sorted" p0) [e] [] pos) (tCB (rSortedI X.K) (tCons te tNil)) G G' (rList rInt) (bnd m fun a => ret (srtI (xs a))) :=
  ex_callB1 cr_sortedI hg hm boot_sorted' h (go_call1 h.go (fun _ => stl_ret _) fun a s T t ts v σ H Q A1 A2 at1 av q => by
    obtain ⟨v', B, e1, p, vs, A, ev, hp, hA, eB⟩ := rddM (j := 0) at1 av rfl (hx a s)
    cases e1
    obtain ⟨_, q⟩ := q
    have evs := all_pl hA
    subst evs
    refine ⟨p, xs a, by rw [ev], SqL.of hp, fun ns' l hp1 hp2 hl => ?_⟩
    rw [srtI_uniq hp1 hp2]
    refine q _ _ (at1.newL av ?_ hl)
    generalize srtI (xs a) = l
    induction l with
    | nil => exact .nil
    | cons x l ih => exact .cons (B := []) ⟨rfl, rfl⟩ ih) hs
theorem ex_sortP {xs : U → List (Int × Int)} (h : EO X F e te G G' arg m) (hx : ∀ a s, Rdd (G' s) (arg a) (rList (rPair rInt rInt)) (xs a)) (hg : Gl X "sorted") (hm : X.mg "sorted" = none) (hs : PySem.W.isStarred e = false := by rfl) :
    EX X F (.Call (.Name "sorted" p0) [e] [] pos) (tCB (rSortedQ X.K) (tCons te tNil)) G G' (rList (rPair rInt rInt)) (bnd m fun a => ret (srtP (xs a))) :=
  ex_callB1 cr_sortedQ hg hm boot_sorted' h (go_call1 h.go (fun _ => stl_ret _) fun a s T t ts v σ H Q A1 A2 at1 av q => by
    obtain ⟨v', B, e1, p, vs, A, ev, hp, hA, eB⟩ := rddM (j := 0) at1 av rfl (hx a s)
    cases e1
    obtain ⟨_, q⟩ := q
    have eA := cp_all (cp_pair cp_int cp_int) hA
    subst eA
    exact ⟨p, vs, xs a, _, by rw [ev], SqL.of hp, hA, fun ys l hy hl => q _ _ (at1.newL av hy hl)⟩) hs
/-! ### xs.index(x), ints -/
def idxM {S : Type} (xs : List Int) (i : Int) : SM S Int := match xs.findIdx? (· == i) with
  | some j => ret (j : Int)
  | none => stk
theorem stl_idxM {S : Type} (xs : List Int) (i : Int) : Stl (idxM xs i : SM S Int) := by
  unfold idxM
  cases xs.findIdx? (· == i) with
  | none => exact stl_stk
  | some a => exact stl_ret _
theorem ex_index {xs : U → List Int} {mi : SM S Int} (h1 : EO X F a ta G G1 argU m1) (h2 : EX X F b tb G1 G2 rInt mi) (hx : ∀ a s, Rdd (G1 s) (argU a) (rList rInt) (xs a)) (hx2 : ∀ a s, Rdd (G2 s) (argU a) (rList rInt) (xs a))
    (hbase : attributeBase a "index" X.env (eval a X.env) = eval a X.env := by rfl)
    (hfew : ((backTo cpos (starEach (b :: []) X.env)).all (fun x => !x.1) && (backToKw cpos (keywordEach [] X.env)).all (fun x => x.1.isSome)
      && decide ((b :: []).length + ([] : List Keyword).length + (if ([] : List Keyword).isEmpty then 0 else 1) < 30)) = true := by rfl) (hline : (apos.endLine == cpos.line) = true := by rfl) (hs : PySem.W.isStarred b = false := by rfl) :
    EX X F (.Call (.Attribute a "index" apos) [b] [] cpos) (tBM X.K "list" (rIndex X.K) ta (tCons tb tNil)) G G2 rInt (bnd m1 fun a => bnd mi fun i => idxM (xs a) i) :=
  ⟨pe_bm PySem.F.plainAttrs_list PySem.F.slot_list_index PySem.F.type_list_index mt_index h1.pe (pa_cons h2.pe pa_nil (star1 hs)) hbase hfew hline (star1 hs), fun T t σ s H Q h0 q => by
    refine h1.go T t σ s H _ h0 (wp_mono (wp_bnd q) (fun a s1 q1 ts x H1 at1 av1 => ?_) fun _ _ z => z)
    refine ⟨?_, ?_⟩
    · obtain ⟨A1, A2, at1'⟩ := at1
      obtain ⟨v', B, e1, p, vs, A, ev, hp, hA, eB⟩ := rddM (j := 0) at1' av1 rfl (hx a s1)
      cases e1
      subst ev
      exact ty_lst hp
    refine h2.go _ _ σ s1 H1 _ at1 (wp_mono (wp_bnd q1) (fun i s2 q2 y H2 at2 => ?_) fun _ _ z => z)
    obtain ⟨_, _, ey⟩ := top_rel at2
    have ey := ey.1
    subst ey
    obtain ⟨A1, A2, at2'⟩ := at2.pop
    obtain ⟨v', B, e1, p, vs, A, ev, hp, hA, eB⟩ := rddM (j := 0) at2' av1 rfl (hx2 a s2)
    cases e1
    have evs := all_pl hA
    subst evs ev
    unfold idxM at q2
    cases ef : (xs a).findIdx? (· == i) with
    | none => rw [ef] at q2; exact q2.elim
    | some j =>
      rw [ef] at q2
      obtain ⟨hj, hj1, hj2⟩ := List.findIdx?_eq_some_iff_getElem.mp ef
      refine ⟨p, _, _, j, .int ((xs a)[j]), rfl, rfl, SqL.of hp, rfl, ?_, ?_, ?_, ?_, q2 _ H2 (at2'.fin av1 ⟨rfl, rfl⟩)⟩
      · rw [List.all_map]
        exact List.all_eq_true.mpr fun _ _ => rfl
      · rw [List.getElem?_map, List.getElem?_eq_getElem hj]
        rfl
      · exact hj1
      · intro m z' hm hz
        have hml : m < (xs a).length := by omega
        rw [List.getElem?_map, List.getElem?_eq_getElem hml] at hz
        cases hz
        have := hj2 m hm
        simpa [eqV] using this⟩
end
end Td

set_option Elab.async false
set_option linter.all false
set_option maxRecDepth 100000
set_option maxHeartbeats 4000000
namespace Td
open PySem PySem.Spec PyProof.Rows L2 He
/-! ### data read as typed things -/
def DecS {T : Type} (r : Rp T) (f : PyData → Option T) : Prop := ∀ {K M H v d A a}, OwnD K H v d A → (∀ p, p ∈ A → p ∉ M) → f d = some a → r.rel K M H v a []
def uI : PyData → Option Int
  | .int i => some i
  | _ => none
def uB : PyData → Option Bool
  | .bool i => some i
  | _ => none
def uS : PyData → Option Str
  | .str i => some i
  | _ => none
def uD : PyData → Option PyData := some
def uP {T U : Type} (f : PyData → Option T) (g : PyData → Option U) : PyData → Option (T × U)
  | .tuple [x, y] => match f x, g y with
    | some a, some b => some (a, b)
    | _, _ => none
  | _ => none
def uO {T : Type} (f : PyData → Option T) : PyData → Option (Option T)
  | .none => some none
  | d => match f d with
    | some a => some (some a)
    | none => none
def uAll {T : Type} (f : PyData → Option T) : List PyData → Option (List T)
  | [] => some []
  | d :: ds => match f d, uAll f ds with
    | some a, some as => some (a :: as)
    | _, _ => none
def uL {T : Type} (f : PyData → Option T) : PyData → Option (List T)
  | .list ds => uAll f ds
  | _ => none
def uTL {T : Type} (f : PyData → Option T) : PyData → Option (List T)
  | .tuple ds => uAll f ds
  | _ => none
theorem us_I : DecS rInt uI := fun h hA e => by
  cases h <;> cases e
  exact ⟨rfl, rfl⟩
theorem us_B : DecS rBool uB := fun h hA e => by
  cases h <;> cases e
  exact ⟨rfl, rfl⟩
theorem us_S : DecS rStr uS := fun h hA e => by
  cases h <;> cases e
  exact ⟨rfl, rfl⟩
theorem us_D : DecS (sh rD) uD := fun h hA e => by
  cases e
  exact ⟨rfl, _, h, hA⟩
section
variable {T U : Type} {r : Rp T} {q : Rp U} {f : PyData → Option T} {g : PyData → Option U}
theorem us_P (h1 : DecS r f) (h2 : DecS q g) : DecS (rPair r q) (uP f g) := fun {K M H v d A a} h hA e => by
  cases h with
  | @tup a' xs ds A hT hs =>
    match ds, e, hs with
    | [x, y], e, hs =>
      cases hs with
      | cons k1 t =>
        cases t with
        | cons k2 t =>
          cases t
          unfold uP at e
          dsimp only at e
          split at e
          · rename_i a b e1 e2
            cases e
            exact ⟨a', _, _, [], [], rfl, hT, h1 k1 (fun p hp => hA p (by simp [hp])) e1, h2 k2 (fun p hp => hA p (by simp [hp])) e2, rfl⟩
          · cases e
  | non => cases e
  | bl b => cases e
  | int i => cases e
  | str x => cases e
  | lst _ _ => cases e
theorem us_O (h1 : DecS r f) : DecS (rOpt r) (uO f) := fun {K M H v d A a} h hA e => by
  have key : ∀ a, (match f d with
    | some a => some (some a)
    | none => none) = some a → (rOpt r).rel K M H v a [] := by
    intro a e
    split at e
    · rename_i b e1
      cases e
      exact h1 h hA e1
    · cases e
  cases h with
  | non => cases e; exact ⟨rfl, rfl⟩
  | bl b => exact key a e
  | int i => exact key a e
  | str x => exact key a e
  | lst _ _ => exact key a e
  | tup _ _ => exact key a e
theorem us_all (h1 : DecS r f) {K : PySem.W.Frag} {M : List Addr} {H : Hp} : ∀ {ds : List PyData} {vs : List V} {A : List Addr} {as : List T}, OwnDs K H vs ds A → (∀ p, p ∈ A → p ∉ M) → uAll f ds = some as → All3 (r.rel K M H) vs as []
  | [], _, _, _, h, _, e => by
    cases h
    cases e
    exact .nil
  | d :: ds, _, _, _, h, hA, e => by
    cases h with
    | cons h t =>
      unfold uAll at e
      split at e
      · rename_i a as e1 e2
        cases e
        exact .cons (B := []) (h1 h (fun p hp => hA p (List.mem_append_left _ hp)) e1) (us_all h1 t (fun p hp => hA p (List.mem_append_right _ hp)) e2)
      · cases e
theorem us_L (h1 : DecS r f) : DecS (sh (rList r)) (uL f) := fun {K M H v d A a} h hA e => by
  cases h with
  | @lst p xs ds A hp hs =>
    refine ⟨rfl, [p], ⟨p, xs, [], rfl, hp, us_all h1 hs (fun p hp => hA p (List.mem_cons_of_mem _ hp)) e, rfl⟩, fun x hx => ?_⟩
    rw [List.mem_singleton.mp hx]
    exact hA p (List.mem_cons_self ..)
  | non => cases e
  | bl b => cases e
  | int i => cases e
  | str x => cases e
  | tup _ _ => cases e
theorem us_TL (h1 : DecS r f) : DecS (rTupL r) (uTL f) := fun {K M H v d A a} h hA e => by
  cases h with
  | @tup p xs ds A hp hs => exact ⟨p, xs, rfl, hp, us_all h1 hs hA e⟩
  | non => cases e
  | bl b => cases e
  | int i => cases e
  | str x => cases e
  | lst _ _ => cases e
end
section
variable {X : Cx} {S : Type} {F : FC X.K S} {U W Z N L R : Type} {r : Rp W} {e : Expr} {te : TE} {G G1 G' : S → List Slot} {md : SM S PyData} {f : PyData → Option W} {pos : Pos}
theorem ex_u (k : DecS r f) (h : EX X F e te G G' (sh rD) md) : EX X F e te G G' r (bnd md fun d => asM (f d)) :=
  ex_asM h fun {K M H v d B b} ⟨eB, A, hr, hA⟩ e => by
    subst eB
    exact k hr hA e
/-! #### a, b, .. = a list of data -/
def uNil : List PyData → Option Unit
  | [] => some ()
  | _ => none
def uCons {T W : Type} (f : PyData → Option T) (g : List PyData → Option W) : List PyData → Option (T × W)
  | d :: ds => match f d, g ds with
    | some a, some w => some (a, w)
    | _, _ => none
  | [] => none
def uLs {W : Type} (g : List PyData → Option W) : PyData → Option W
  | .list ds => g ds
  | _ => none
def GLd {K : PySem.W.Frag} {S : Type} (F : FC K S) (gs : TGs) (ws : List Nat) {W : Type} (dec : List PyData → Option W) (G : List Slot) (Gt : W → List Slot) : Prop :=
  ∀ (T : List Slot) (t : List V) (σ : L2.St) (H : Hp) (p : Addr) (vs0 vs : List V) (ds0 ds : List PyData) (w : W) (j : Nat) (Q : L2.St → Hp → Prop), At F (.is (sh rD) (.list ds0) :: T) (.ref p :: t) G σ H → H p = some (.lst vs0) → vs = vs0.drop j → ds = ds0.drop j → dec ds = some w →
    (∀ σ', At F (.is (sh rD) (.list ds0) :: T) (.ref p :: t) (Gt w) σ' H → σ'.length = σ.length → (∀ j, j ∉ ws → σ'[j]? = σ[j]?) → Q σ' H) → gs vs σ H Q
structure EGs (X : Cx) {S : Type} (F : FC X.K S) (es : List Expr) (gs : TGs) (ws : List Nat) {W : Type} (dec : List PyData → Option W) (G : List Slot) (Gt : W → List Slot) : Prop where
  pg : PGs X es gs
  go : GLd F gs ws dec G Gt
theorem egs_nil {Gs : List Slot} : EGs X F [] gNil [] uNil Gs (fun _ => Gs) := ⟨pgs_nil, fun T t σ H p vs0 vs ds0 ds w j Q h hp ev ed e q => by
  obtain ⟨M, B, eB, A, hr, hA⟩ := top_rel h
  have ed' : ds = [] := by
    cases ds with
    | nil => rfl
    | cons d ds => cases e
  refine ⟨?_, q σ h rfl fun _ _ => rfl⟩
  cases hr with
  | lst hp' hs =>
    rw [hp] at hp'
    cases hp'
    have l := (ownDs_all.mp hs).length
    rw [ev, List.drop_eq_nil_iff, l]
    rw [ed'] at ed
    exact List.drop_eq_nil_iff.mp ed.symm⟩
theorem own_get {K : PySem.W.Frag} {H : Hp} : ∀ {ds : List PyData} {vs : List V} {A : List Addr} {j : Nat} {d : PyData}, OwnDs K H vs ds A → ds[j]? = some d → ∃ v B, vs[j]? = some v ∧ OwnD K H v d B ∧ ∀ p, p ∈ B → p ∈ A
  | [], _, _, _, _, h, e => by cases e
  | d :: ds, _, _, 0, _, h, e => by
    cases h with
    | cons h t =>
      cases e
      exact ⟨_, _, rfl, h, fun p hp => List.mem_append_left _ hp⟩
  | d :: ds, _, _, j + 1, _, h, e => by
    cases h with
    | cons h t =>
      obtain ⟨v, B, h1, h2, h3⟩ := own_get t e
      exact ⟨v, B, h1, h2, fun p hp => List.mem_append_right _ (h3 p hp)⟩
theorem egs_cons {A B : Type} {e1 : Expr} {es : List Expr} {g1 : TG} {gr : TGs} {w1 w2 ws : List Nat} {rx : Rp A} {fx : PyData → Option A} {dr : List PyData → Option B} {Gs : List Slot} {G1 : A → List Slot} {G2 : A → B → List Slot} {Gt : A × B → List Slot} (k : DecS rx fx) (h1 : EG X F e1 g1 w1 rx Gs G1) (ha : Inhabited A) (h2 : ∀ a, EGs X F es gr w2 dr (G1 a) (G2 a))
    (hws : ws = w1 ++ w2 := by rfl) (hGt : ∀ p, Gt p = G2 p.1 p.2 := by intro _; rfl) (hs : (assignEach (e1 :: es) X.env).map (·.2) = assign e1 X.env :: (assignEach es X.env).map (·.2) := by rfl) :
    EGs X F (e1 :: es) (gCons g1 gr) ws (uCons fx dr) Gs Gt := ⟨pgs_cons h1.pg (h2 ha.default).pg hs, fun T t σ H p vs0 vs ds0 ds w j Q h hp ev ed e q => by
  have eG : Gt = fun p => G2 p.1 p.2 := funext hGt
  subst hws eG
  obtain ⟨M, B, eB, A', hr, hA⟩ := top_rel h
  cases ds with
  | nil => cases e
  | cons d ds =>
    unfold uCons at e
    dsimp only at e
    split at e
    · rename_i a b e1 e2
      cases e
      have hj : ds0[j]? = some d := by
        have z := congrArg (fun l => l[0]?) ed
        simpa using z.symm
      have ed2 : ds = ds0.drop (j + 1) := by
        have z := congrArg List.tail ed
        simpa using z
      obtain ⟨A1, A2, at1⟩ := h
      obtain ⟨C, A'', eA, ⟨v', ev', eC, Ad, hr', hA'⟩, ht⟩ := AtS.cons_inv at1.tmp
      cases ev'
      cases hr' with
      | lst hp' hs' =>
        rw [hp] at hp'
        cases hp'
        obtain ⟨v, B', hv, hd, sub⟩ := own_get hs' hj
        have evs : vs = v :: vs0.drop (j + 1) := by
          rw [ev]
          exact List.drop_eq_getElem?_toList_append.trans (by rw [hv]; rfl)
        refine ⟨v, _, evs, ?_⟩
        have at2 := at1.pushM (k hd (fun p hp => hA' p (List.mem_cons_of_mem _ (sub p hp))) e1)
        refine h1.go _ _ σ H v a _ ⟨_, _, at2⟩ fun σ1 at3 l1 k1 => ?_
        refine (h2 a).go T t σ1 H p vs0 _ ds0 ds b (j + 1) _ at3 hp rfl ed2 e2 fun σ2 at4 l2 k2 => ?_
        exact q σ2 at4 (l2.trans l1) fun j hj => (k2 j fun z => hj (List.mem_append_right _ z)).trans (k1 j fun z => hj (List.mem_append_left _ z))
    · cases e⟩
end
section
variable {X : Cx} {S : Type} {F : FC X.K S} {U W N L R : Type} {r : Rp R} {e : Expr} {es : List Expr} {te : TE} {rest : List Stmt} {tr : TS} {G G1 : S → List Slot} {GN : N → S → List Slot} {GL : L → S → List Slot} {md : SM S PyData} {pos tpos : Pos}
/-- a, b, .. = x of data that are a list -/
theorem bx_unD {k n : Nat} {gs : TGs} {ws : List Nat} {dec : List PyData → Option W} {Gt : S → W → List Slot} {out : W → SM S (Fl N L R)} (hc : X.calm = true) (h : EX X F e te G G1 (sh rD) md) (hg : ∀ s, EGs X F es gs ws dec (G1 s) (Gt s)) (hl : ∀ ds w, dec ds = some w → ds.length = n) (hb : ∀ a, BX X F rest tr (fun s => Gt s a) GN GL r (out a)) (ha : Inhabited W) (hS : Inhabited S)
    (hn : (assignEach es X.env).length = n := by rfl) (hst : (assignEach es X.env).findIdx? (·.1) = none := by rfl)
    (hs : swapsWithSole [.Tuple es k tpos] e pos.line X.env = pure false := by rfl) (hw : swappedStores [.Tuple es k tpos] e X.env = pure none := by rfl) (h1 : (assignEach [.Tuple es k tpos] X.env).map (·.2) = [assign (.Tuple es k tpos) X.env] := by rfl) :
    BX X F (.Assign [.Tuple es k tpos] e pos :: rest) (tSeq (tAsg te (gLst X.K n gs)) tr) G GN GL r (bnd md fun d => bnd (asM (uLs dec d)) out) :=
  ⟨pss_cons (ps_asg h.pe (pg_lst hc (hg hS.default).pg hn hst) hs hw h1) (hb ha.default).ps, fun T t σ s H D h0 q => by
    refine h.go T t σ s H _ h0 (wp_mono (wp_bnd q) (fun d s1 q1 v H1 at1 => ?_) fun e s z => z σ)
    obtain ⟨w, ew, q2⟩ := wp_asM (wp_bnd q1)
    cases d with
    | list ds =>
      have ew' : dec ds = some w := ew
      obtain ⟨M, B, eB, A, hr, hA⟩ := top_rel at1
      cases hr with
      | @lst p vs _ A' hp hs' =>
        refine ⟨p, vs, rfl, SqL.of hp, (ownDs_all.mp hs').length.trans (hl ds w ew'), ?_⟩
        exact (hg s1).go T t σ H1 p vs vs ds ds w 0 _ at1 hp rfl rfl ew' fun σ' at2 _ _ => (hb w).go T t σ' s1 H1 D at2.pop q2
    | none => cases ew
    | bool _ => cases ew
    | int _ => cases ew
    | str _ => cases ew
    | tuple _ => cases ew
    | dict _ => cases ew⟩
theorem ul_nil : ∀ ds w, uNil ds = some w → ds.length = 0 := fun ds w h => by
  cases ds with
  | nil => rfl
  | cons => cases h
theorem ul_cons {T W : Type} {f : PyData → Option T} {g : List PyData → Option W} {n : Nat} (h : ∀ ds w, g ds = some w → ds.length = n) : ∀ ds w, uCons f g ds = some w → ds.length = n + 1 := fun ds w e => by
  cases ds with
  | nil => cases e
  | cons d ds =>
    unfold uCons at e
    dsimp only at e
    split at e
    · rename_i a b e1 e2
      rw [List.length_cons, h ds b e2]
    · cases e
end
end Td

set_option Elab.async false
set_option linter.all false
set_option maxRecDepth 100000
set_option maxHeartbeats 4000000
namespace L2
open PySem PySem.Spec PyProof.Rows
section
variable {prog : Program} {w : World} {A : Around} {E : Value → Shared → Prop} {s : Shared}
theorem bounds_open {a n : Nat} (h : a ≤ n) : sliceBounds (some (a : Int)) none none n = ((a : Int), (n : Int), 1) := by
  unfold sliceBounds
  have z : ¬ ((a : Int) < 0) := by omega
  simp only [Option.getD_none, z, if_false, show (1 : Int) > 0 by decide, if_true]
  refine Prod.ext ?_ (Prod.ext ?_ rfl) <;> dsimp only <;> omega
/-- x[a:] = y: what a list's own __setitem__ does where no upper end stands -/
theorem put_open {l b sl : Addr} {xs ys : Array Value} {n n2 : Nat} {vl : Value} {a : Nat} {Q : Unit → Shared → Prop} (e : s.heap.get? l = some { cls := .type "list", data := .seq xs n }) (e2 : s.heap.get? b = some { cls := .type "list", data := .seq ys n2 }) (hne : l ≠ b)
    (hs : s.heap.IsSliceOf sl vl .none .none) (pl : IsPart vl (some (a : Int))) (ha : a ≤ xs.size) (hz : xs.size + ys.size ≤ sizeLine)
    (h : Q () { s with heap := s.heap.update l (Obj.mapSeq fun zs => zs.extract 0 a ++ ys ++ zs.extract xs.size zs.size) }) : wpAny (model prog w) A (setItem (.ref l) (.ref sl) (.ref b)) Q E s := by
  have il := PySem.IsL.isList e
  have ib := PySem.IsL.isList e2
  obtain ⟨o, ho, hc, hd⟩ := id hs
  have ts : s.TypeIs (.ref sl) "slice" := ⟨o, ho, hc⟩
  have same : Builtin.List.listSameRef (.ref l) (.ref b) = false := by unfold Builtin.List.listSameRef; exact beq_eq_false_iff_ne.mpr hne
  have top : (max (a : Int) (xs.size : Int)).toNat = xs.size := by omega
  have big : ((fun zs : Array Value => zs.extract 0 a ++ ys ++ zs.extract xs.size zs.size) xs).size ≤ sizeLine + 1 := by simp only [Array.size_append, Array.size_extract]; omega
  unfold setItem; try with_reducible refine wpAny_holding ?_
  first | refine wpAny_bind (wpAny_pure ?_) | skip
  refine wpAny_bind (wpAny_sequenceKey il.typeIs (by decide) (wpAny_bind (wpAny_callSpecial?_slot (name := Str.ofString "__setitem__") il.typeIs slot_list_setitem (wpAny_call_entry slot_list_setitem il.typeIs entry_list_setitem ?_ (args_list_setitem _ _ _)))))
  show wpAny _ _ (Builtin.List.listSubscript? (.ref sl) >>= _) _ _ s
  refine wpAny_bind ?_; unfold Builtin.List.listSubscript?
  refine wpAny_bind (wpAny_specialOf ts slice_no_index ?_); simp only [Option.isNone_none, if_true]; refine wpAny_pure ?_
  show wpAny _ _ (typeOf (.ref sl) >>= _) _ _ s
  refine wpAny_bind (wpAny_typeOf ts ?_)
  first
    | rw [if_neg (by decide)]
    | refine PySem.W.KFB.if_not (by decide) ?_
  rw [listSliceParts_eq]; refine wpAny_bind (wpAny_bind (wpAny_field ho hd (x := .none) rfl (wpAny_bind (wpAny_listPart .none ?_))))
  rw [if_neg (show ¬ ((rawPart none == rawInt 0) = true) from Bool.false_ne_true)]
  refine wpAny_bind (wpAny_field ho hd (x := vl) rfl (wpAny_bind (wpAny_listPart pl (wpAny_bind (wpAny_field ho hd (x := .none) rfl (wpAny_bind (wpAny_listPart .none (wpAny_pure ?_))))))))
  first
    | simp only [same, Bool.false_eq_true, if_false]
    | refine PySem.W.KFB.if_not same ?_
    | (dsimp only; rw [if_neg (by rw [same]; exact Bool.false_ne_true)])
  refine wpAny_bind (m := Builtin.List.listAllItems (.ref b) "must assign iterable to extended slice") ?_; unfold Builtin.List.listAllItems
  refine wpAny_bind (wpAny_typeOf ib.typeIs ?_)
  first
    | refine PySem.W.KFB.if_so (by decide) ?_
    | rw [if_pos (by decide)]
    | simp only [beq_self_eq_true, Bool.true_or, if_true]
  unfold Builtin.List.listItems; refine wpAny_bind (wpAny_seqItems e2 rfl (wpAny_pure (wpAny_bind (wpAny_bind (wpAny_seqItems e rfl (wpAny_pure ?_))))))
  refine wpAny_bind (wpAny_of_eq ((sliceIndices_raw (some (a : Int)) none none xs.size (by simp)).trans (congrArg (pure : Int × Int × Int → Sem (Int × Int × Int)) (bounds_open ha))) ?_)
  show wpAny _ _ (if ((1 : Int) == 1) = true then _ else _) _ _ s
  rw [if_pos (by decide)]; refine wpAny_bind (wpAny_rule ?_)
  first
    | simp only [notLongL hz, Bool.false_eq_true, if_false]
    | refine PySem.W.KFB.if_not (notLongL hz) ?_
  first | refine wpAny_bind (wpAny_pure ?_) | skip
  show wpAny _ _ (updateSeq l (fun zs => zs.extract 0 ((a : Int)).toNat ++ ys ++ zs.extract (max (a : Int) (xs.size : Int)).toNat zs.size) >>= _) _ _ s
  rw [top, Int.toNat_natCast]
  refine wpAny_bind (wpAny_updateSeq (hz := Nat.le_trans (Nat.le_add_right _ _) hz) (_hz' := big) e rfl (wpAny_bind (wpAny_letGo ?_)))
  first
    | exact wpAny_bind (wpAny_pure (wpAny_pure ⟨.none, rfl, wpAny_pure h⟩))
    | exact wpAny_pure ⟨.none, rfl, wpAny_pure h⟩
end
section
variable {X : Cx}
theorem set_open {pins : List (Addr × Obj)} {s : Shared} {σ : L2.St} {H : Hp} {l b sl : Addr} {xs ys : List V} {a : Int} {vl : Value} {Q : Unit → Shared → Prop} (I : Inv X pins σ H s) (hH : H l = some (.lst xs)) (hB : H b = some (.lst ys)) (hne : l ≠ b) (hs : s.heap.IsSliceOf sl vl .none .none) (ra : RelV (.int a) vl)
    (h0 : 0 ≤ a) (hac : a ≤ xs.length) (hz : xs.length + ys.length ≤ sizeLine) (h : ∀ s', Inv X pins σ (upd H l (.lst (xs.take a.toNat ++ ys))) s' → Q () s') : wpAny (model X.prog X.w) X.A (setItem (.ref l) (.ref sl) (.ref b)) Q X.xe s := by
  obtain ⟨ta, rfl⟩ := ra
  obtain ⟨z, its, n, r, hl, e⟩ := I.lstM hH
  obtain ⟨z2, its2, n2, r2, hl2, e2⟩ := I.lstM hB
  obtain ⟨k, rfl⟩ := Int.eq_ofNat_of_zero_le h0
  simp only [Int.toNat_natCast] at h
  have hlen := r.length
  refine put_open (a := k) e e2 hne hs (.int _ _) (by rw [List.size_toArray]; omega) (by rw [List.size_toArray, List.size_toArray]; omega) (h _ ?_)
  refine I.lset (its' := its.take k ++ its2) (t' := s.toks) hH e ?_ (Vals.append (r.take _) r2) ?_
  · have := splice_eq its its2 k its.toArray.size
    rw [this, List.size_toArray, List.drop_length, List.append_nil]
  · rw [List.length_append, List.length_take]; omega
/-- o[a:] = value, lists -/
def gSlo (to : TE) (tl : TO) : TG := fun v σ H Q => to σ H fun o H1 => tl σ H1 fun a H2 => ∃ (l b : Addr) (xs ys : List V) (i : Int), o = .ref l ∧ v = .ref b ∧ a = some i ∧ H2 l = some (.lst xs) ∧ H2 b = some (.lst ys) ∧ l ≠ b ∧ 0 ≤ i ∧ i ≤ xs.length ∧ xs.length + ys.length ≤ sizeLine ∧ Q σ (upd H2 l (.lst (xs.take i.toNat ++ ys)))
theorem pg_slo {o : Expr} {lo : Option Expr} {to : TE} {tl : TO} {pos p2 : Pos} (ho : PE X o to) (hl : PO X lo tl) : PG X (.Subscript o (.Slice lo none none p2) pos) (gSlo to tl) := by
  refine ⟨fun pins s σ H v u Q I r h => ?_⟩
  rw [PySem.arm_assign_Subscript]
  refine wpAny_bind (wpAny_holding (thn (ho.run pins s σ H _ I h) fun ov s1 ⟨x, H1, I1, r1, q1⟩ => ?_))
  refine wpAny_bind (wpAny_holding (wpAny_Slice (thn (hl.run pins s1 σ H1 _ I1 q1) fun vl s2 ⟨a, H2, I2, pl, q2⟩ => ?_)))
  rw [evalPart_none]
  refine wpAny_pure (wpAny_pure ?_)
  have I4 : Inv X pins σ H2 { s2 with heap := s2.heap.push { cls := .type "slice", data := .fields #[vl, .none, .none] } } := I2.kept (t' := s2.toks) fun b ob q => Heap.get?_push_of_some _ q
  obtain ⟨l, b, xs, ys, i, ex, ev, ea, hL, hB, ne, h0, h1, hz, q⟩ := q2
  subst ex ev ea
  obtain rfl : ov = Value.ref l := r1
  obtain rfl : u = Value.ref b := r
  have rl : RelV (.int i) vl := by
    cases pl with
    | int _ t => exact ⟨t, rfl⟩
  refine wpAny_bind (wpAny_standAt (wpAny_bind (wpAny_holding (set_open I4 hL hB ne (Heap.IsSliceOf.new ..) rl h0 h1 hz fun s' I5 => ?_))))
  exact wpAny_release ⟨σ, _, I5, q⟩
end
end L2
namespace Td
open PySem PySem.Spec PyProof.Rows L2 He
section
variable {X : Cx} {S : Type} {F : FC X.K S} {U N L R : Type} {G G1 G2 G3 : S → List Slot} {GN : N → S → List Slot} {GL : L → S → List Slot} {r : Rp R} {r1 : Rp U} {pos p0 p1 p2 : Pos} {rest : List Stmt} {tr : TS} {e e1 : Expr} {te t1 : TE}
def sloM {T : Type} (xs : List T) (a : Int) (ys : List T) : SM S (List T) := bnd (grd (0 ≤ a ∧ a ≤ xs.length ∧ xs.length + ys.length ≤ sizeLine)) fun _ => ret (xs.take a.toNat ++ ys)
/-- x[a:] = e, x an own list -/
theorem bx_slo {xs : List U} {me : SM S (List U)} {m1 : SM S Int} {out : List U → SM S (Fl N L R)} {x : Str} (i : Nat) (c : r1.Cp) (h : EX X F e te G G1 (rList r1) me) (h1 : EX X F e1 t1 G1 G2 rInt m1) (hG1 : ∀ s, (G1 s)[i]? = some (.is (rList r1) xs)) (hG : ∀ s, (G2 s)[i]? = some (.is (rList r1) xs)) (hb : ∀ ys, BX X F rest tr (fun s => (G2 s).set i (.is (rList r1) ys)) GN GL r (out ys))
    (hN : X.N[i]? = some x := by rfl) (hv : Vis X.env.scope x := by first | exact Or.inl rfl | exact Or.inr (Or.inl rfl) | exact Or.inr (Or.inr rfl)) (hd : (x == ("__debug__" : Str)) = false := by decide) (hcd : (x == ("__classdict__" : Str)) = false := by decide)
    (hs : swapsWithSole [(.Subscript (.Name x p0) (.Slice (some e1) none none p2) p1)] e pos.line X.env = pure false := by rfl) (hw : swappedStores [(.Subscript (.Name x p0) (.Slice (some e1) none none p2) p1)] e X.env = pure none := by rfl) (hh : (assignEach [(.Subscript (.Name x p0) (.Slice (some e1) none none p2) p1)] X.env).map (·.2) = [assign (.Subscript (.Name x p0) (.Slice (some e1) none none p2) p1) X.env] := by rfl) :
    BX X F (.Assign [.Subscript (.Name x p0) (.Slice (some e1) none none p2) p1] e pos :: rest) (tSeq (tAsg te (gSlo (tVar i) (tPart t1))) tr) G GN GL r (bnd me fun ys => bnd m1 fun a => bnd (sloM xs a ys) out) :=
  ⟨pss_cons (ps_asg h.pe (pg_slo (pe_var hN hv hd hcd) (po_some h1.pe)) hs hw hh) (hb []).ps, fun T t σ s H D h0 q => by
    refine h.go T t σ s H _ h0 (wp_mono (wp_bnd q) (fun ys s1 q1 v H1 at1 => ?_) fun e s z => z σ)
    obtain ⟨v0, M0, B0, ev0, _⟩ := at1.slot (hG1 s1)
    refine ⟨v0, ev0, ?_⟩
    refine h1.go _ _ σ s1 H1 _ at1 (wp_mono (wp_bnd q1) (fun a s2 q2 w H2 at2 => ?_) fun e s z => z σ)
    obtain ⟨_, _, ea, _⟩ := top_rel at2
    subst ea
    refine ⟨a, rfl, ?_⟩
    obtain ⟨⟨g0, g1, g3⟩, q4⟩ := wp_grd (wp_bnd (wp_bnd q2))
    obtain ⟨A1, A2, at4⟩ := at2.pop
    obtain ⟨C, A', eA, ⟨v', ev, p', vs', C', ep', hp', hA', eC'⟩, ht⟩ := AtS.cons_inv at4.tmp
    cases ev
    subst ep'
    have e3 := cp_all c hA'
    subst e3 eC'
    obtain ⟨D', vs, B, e1, hD, hA, hl, nd0, kk⟩ := at4.mutS (hG s2)
    rw [ev0] at e1
    cases e1
    have eB := cp_all c hA
    subst eB
    have hl' := hA'.length
    have nd := at4.good.nd
    have ne : D' ≠ p' := fun z => by
      obtain ⟨x2, C2, P1, P2, ex, hC, eA2, _⟩ := at4.loc.at_ (hG s2)
      rw [ev0] at ex
      cases ex
      obtain ⟨v3, ev3, D3, vs3, C3, eD3, _, _, eC3⟩ := hC
      cases ev3
      cases eD3
      rw [eA, eA2, eC3, z] at nd
      simp only [List.nodup_append, List.mem_append, List.mem_cons] at nd
      grind
    refine ⟨D', p', vs, vs', a, rfl, rfl, rfl, hD, hp', ne, g0, by rw [hl]; exact g1, by rw [hl, hl']; exact g3, ?_⟩
    have all := (all3_tk hA a.toNat).1.append hA'
    exact (hb _).go T t σ s2 _ D (kk _ _ [] T t A' all ht (by rw [eA] at nd0; simp only [List.nil_append, List.nodup_append] at nd0 ⊢; exact nd0.2.1) fun p hp => by rw [eA]; simp only [List.nil_append, List.mem_append] at *; exact .inr hp) q4⟩
end
end Td

set_option Elab.async false
set_option linter.all false
set_option maxRecDepth 100000
set_option maxHeartbeats 4000000
namespace L2
open PySem PySem.Spec PyProof.Rows
/-! ### != of instances that have an own == and object's != -/
section
variable {prog : Program} {w : World} {A : Around} {E : Value → Shared → Prop} {s : Shared} {K : PySem.W.Frag} {x C f : Addr} {ox : Obj} {od : Option Obj}
open PySem.W
theorem ifBoundB {M : Model} {name : Str} {id : String} {args : List Value} {Q : Option Value → Shared → Prop} (X : K.In s.heap) (I : InstAt s.heap x ox C od) (hs : findIn K (.ref C) name = some (some (.builtin id))) (hb : ∀ self, bindSpecial (.builtin id) self = pure (.builtin id, [self]))
    (h : wpAny M A (call (.builtin id) (.ref x :: args)) (fun v => Q (some v)) E s) : wpAny M A (callSpecialIfBound? (.ref x) name args) Q E s := by
  simp only [callSpecialIfBound?, bindSpecialIfBound?]
  refine wpAny_holding (wpAny_bind (wpAny_bind (wpAny_bind (I.type.here ((looks_findIn X hs).here ?_)))))
  refine wpAny_bind (wpAny_askSetting (wpAny_ite ?_))
  have fin : wpAny M A (call (.builtin id) ([.ref x] ++ args) >>= fun v => pure (some v)) Q E s := wpAny_bind (wpAny_mono h (fun v s' z => wpAny_pure z) fun _ _ z => z)
  split
  · exact wpAny_bind ((Looks.of_pure (hb _)).here (wpAny_pure (by exact fin)))
  · exact wpAny_tryCatch (wpAny_bind ((Looks.of_pure (hb _)).here (wpAny_pure (by exact fin))))
open Builtin in
theorem call_ne {b : Value} {Q : Value → Shared → Prop} (hu : A.in1.units < cLine) (X : K.In s.heap) (I : InstAt s.heap x ox C od) (hm : mroIn K C (.type "object") = some true) (hr : findIn K (.ref C) "__eq__" = some (some (.ref f))) (hf : isFn K (.ref f) = true)
    (h : wpAny (model prog w) A.in1 (call (.ref f) [.ref x, b]) (fun v s' => ∃ k, v = .bool k ∧ Q (.bool (!k)) s') E s) : wpAny (model prog w) A (call (.builtin "object.__ne__") [.ref x, b]) Q E s := by
  refine wpAny_call (codeAny_call_builtin (PySem.F.cmp_object).ne.plain PySem.F.cmpEntry_ne (check_slot (i := "object.__ne__") (owner := "object") (n := "__ne__") (by decide +kernel) (by decide +kernel) (I.type.andThen (looks_mroIn X hm)) (PySem.F.cmpArgs_ne _ _) ?_))
  unfold Builtin.«object.__ne__»
  refine wpAny_bind (m := slotArgs "__ne__" 1 _) (wpAny_pure ?_)
  refine wpAny_bind (m := cRoomFor _ _) (wpAny_cRoomFor hu ?_)
  refine wpAny_bind (m := callSpecialIfBound? (.ref x) (Str.ofString "__eq__") _) (ifBound_K X I hr hf (wpAny_mono h (fun r s' hq => ?_) fun _ _ y => y))
  obtain ⟨k, rfl, q⟩ := hq
  exact wpAny_bind (m := truthy (.bool k)) (wpAny_truthy_bool (wpAny_pure q))
theorem cmpNe_K {L : Addr} {h₀ : Heap} {m : Str → Option Value} {b tb : Value} {Q : Value → Shared → Prop} (hu : A.units < cLine) (hu1 : A.in1.units < cLine) (F : Fr h₀ L s.heap m) (X₀ : K.In h₀) (I : InstAt s.heap x ox C od) (hb : Looks (model prog w) s.heap (typeOf b) tb) (hn : notFirst K C tb = true)
    (hm : mroIn K C (.type "object") = some true) (hne : findIn K (.ref C) "__ne__" = some (some (.builtin "object.__ne__"))) (hr : findIn K (.ref C) "__eq__" = some (some (.ref f))) (hf : isFn K (.ref f) = true)
    (h : wpAny (model prog w) A.in1 (call (.ref f) [.ref x, b]) (fun v s' => ∃ k, v = .bool k ∧ Q (.bool (!k)) s') E s) : wpAny (model prog w) A (richCompare .NotEq (.ref x) b) Q E s := by
  have X := X₀.keeps F.keep
  have one : wpAny (model prog w) A (tryCompare (.ref x) (cmpInfo .NotEq).2.1 b) (fun r s' => ∃ v, r = some v ∧ Q v s') E s := by
    unfold tryCompare
    refine wpAny_bind (ifBoundB X I hne (PySem.F.cmp_object).ne.bind (call_ne hu1 X I hm hr hf (wpAny_mono h (fun v s' hv => ?_) fun _ _ e => e)))
    obtain ⟨k, e, q⟩ := hv
    exact ⟨k, e, wpAny_pure ⟨_, rfl, q⟩⟩
  have fin : ∀ (r : Option Value) (s' : Shared), (∃ v, r = some v ∧ Q v s') → ∃ v, r = some v ∧ Q v s' := fun _ _ z => z
  unfold richCompare
  simp only [oneThing_ref]
  refine wpAny_holding (wpAny_bind (wpAny_cRoomFor hu (wpAny_bind (I.type.here (wpAny_bind (hb.here ?_))))))
  split
  · rename_i q
    have e : subIn K tb (.ref C) = some false := by
      rcases Bool.or_eq_true_iff.mp hn with e | e
      · rw [beq_iff_eq.mp e] at q; simp at q
      · exact beq_iff_eq.mp e
    refine wpAny_bind ((looks_subIn X e).here ?_)
    simp only [Bool.false_eq_true, if_false]
    refine wpAny_bind (wpAny_mono one (fun r s' z => ?_) fun _ _ e => e)
    obtain ⟨v, rfl, hq⟩ := z
    exact wpAny_pure hq
  · refine wpAny_bind (wpAny_pure ?_)
    simp only [Bool.false_eq_true, if_false]
    refine wpAny_bind (wpAny_mono one (fun r s' z => ?_) fun _ _ e => e)
    obtain ⟨v, rfl, hq⟩ := z
    exact wpAny_pure hq
end
end L2
namespace SlX
open PySem PySem.Spec PyProof.Rows L2
section
variable {X : Cx} {CX : CXT} {C g : Addr} {n : Nat} {sp : Sp} {E : XK}
/-- x != y, x an instance of the class at C whose == is at g and which has no != of its own -/
def rOwnNe (K : PySem.W.Frag) (C : Addr) (sp : Sp) (E : XK) : R2 := fun x y H Q => ∃ a dx vs b C' dy ws, x = .ref a ∧ y = .ref b ∧ Slt H a C dx vs ∧ Slt H b C' dy ws ∧ PySem.W.notFirst K C (.ref C') = true ∧ sp [x, y] H (fun z H' => ∃ k, z = .bl k ∧ Q (.bl (!k)) H') E
theorem op_ownNe (hm : PySem.W.mroIn X.K C (.type "object") = some true) (hne : PySem.W.findIn X.K (.ref C) "__ne__" = some (some (.builtin "object.__ne__"))) (hs : PySem.W.findIn X.K (.ref C) "__eq__" = some (some (.ref g))) (hf : PySem.W.isFn X.K (.ref g) = true) (F : FnR X.prog X.w X.K X.mg X.base CX n g sp)
    (hr : Room (n + 1) X.A) (hx : Passes CX X E) : OpR X (compareOp .NotEq) (rOwnNe X.K C sp E) := by
  intro pins s σ H x y v u Q I rx ry h
  obtain ⟨a, dx, vs, b, C', dy, ws, rfl, rfl, ha, hb, hn, q⟩ := h
  cases (show v = Value.ref a from rx)
  cases (show u = Value.ref b from ry)
  obtain ⟨_, _, _, J, _⟩ := slt_inst I ha
  obtain ⟨_, _, _, J', _⟩ := slt_inst I hb
  obtain ⟨m, hF⟩ := I.fr
  refine L2.cmpNe_K (tb := .ref C') hr.units0 hr.in1.units0 hF I.ok.mod.kin J J'.type hn hm hne hs hf ?_
  refine wpAny_mono (wpAny_call (run_at (us := [.ref a, .ref b]) (ws := [.ref a, .ref b]) F hr.in1 I.env0.in1 hx I (.cons rfl (.cons rfl .nil)) q)) (fun w s' z => ?_) fun _ _ x => x
  obtain ⟨z', H', I', rz, k, ek, qz⟩ := z
  subst ek
  cases (show w = Value.bool k from rz)
  exact ⟨k, rfl, .bl (!k), H', I', rfl, qz⟩
/-! ### methods and subscripts in a try's body: what is raised is wished for at the caller's slots -/
def tMethSlS (C : Addr) (sp : Sp) (E : L2.St → XK) (ta : TE) (t : TA) : TE := fun σ H Q => ta σ H fun x H1 => ∃ a dx vs, x = .ref a ∧ Slt H1 a C dx vs ∧ t σ H1 fun ws H2 => sp (x :: ws) H2 Q (E σ)
variable {k : Nat} {fd : FuncData} {ps ks : List Str} {o e : Expr} {es : List Expr} {m : Str} {pos apos : Pos} {ta tb : TE} {t tk : TA} {kws : List Keyword} {ES : L2.St → XK} {gg : List Value → List Value → List Value} {gV : List V → List V → List V}
theorem pe_methSlS {pl : Sem Bool} (he : PE X o ta) (c : SCls X.K C) (hm : Meth X.K C m g) (F : FnOk X.prog X.w X.K X.mg X.base CX k g fd ps sp) (hb : Binds X.K fd ps []) (hr : Room k X.A) (hx : ∀ σ, PassesAt CX X σ (ES σ)) (ha : PA X (e :: es) t)
    (hst : starEach (e :: es) X.env = (false, eval e X.env) :: starEach es X.env := by rfl) (hpl : (backTo pos (starEach es X.env)).any (·.1) = false := by rfl)
    (ht : eval (.Call (.Attribute o m apos) (e :: es) [] pos) X.env = (do
      let ov ← eval o X.env
      standAt apos.atName
      let (f, first) ← holding [ov] (getMethod ov m pl)
      callWith pos f first (backTo pos (starEach (e :: es) X.env)) (backToKw pos (keywordEach [] X.env))) := by rfl) :
    PE X (.Call (.Attribute o m apos) (e :: es) [] pos) (tMethSlS C sp ES ta t) := ⟨fun pins s σ H Q I h => by
  refine PySem.W.methodCall_KW (pl := pl) (thn (he.run pins s σ H _ I h) fun u s1 ⟨x, H1, I1, rx, a, dx, vs, ex, hsl, q⟩ => ?_) ht
  subst ex
  obtain rfl : u = Value.ref a := rx
  refine getmethsl_ok I1 hsl c hm (PySem.W.callWith_K (first := [.ref a]) (h₀ := X.base) I.ok.mod.kin hm.kp (thn (ha.run pos pins s1 σ H1 _ I1 q) fun us s2 ⟨ws, H2, I2, r, q2⟩ => ⟨I2.kIn, ?_⟩) hst hpl)
  exact run_fnSD (us := .ref a :: us) (vs := .ref a :: ws) F hr hb .nil (hx σ) I2 (.cons rfl r) (by rw [List.append_nil]; exact q2)⟩
theorem pe_methSlKS {pl : Sem Bool} (he : PE X o ta) (c : SCls X.K C) (hm : Meth X.K C m g) (F : FnOk X.prog X.w X.K X.mg X.base CX k g fd ps sp) (hb : KBn X.K fd ps 1 ks gg gV) (hr : Room k X.A) (hx : ∀ σ, PassesAt CX X σ (ES σ)) (hkw : PK X kws tk)
    (hall : (backToKw pos (keywordEach kws X.env)).all (·.1.isSome) = true := by rfl) (hks : (backToKw pos (keywordEach kws X.env)).filterMap (·.1) = ks := by rfl) (hpl : ((backTo pos (starEach [] X.env)).any (·.1) || (backToKw pos (keywordEach kws X.env)).any (·.1.isNone)) = false := by rfl)
    (ht : eval (.Call (.Attribute o m apos) [] kws pos) X.env = (do
      let ov ← eval o X.env
      standAt apos.atName
      let (f, first) ← holding [ov] (getMethod ov m pl)
      callWith pos f first (backTo pos (starEach [] X.env)) (backToKw pos (keywordEach kws X.env))) := by rfl) :
    PE X (.Call (.Attribute o m apos) [] kws pos) (fun σ H Q => ta σ H fun x H1 => ∃ a dx vs, x = .ref a ∧ Slt H1 a C dx vs ∧ tk σ H1 fun zs H2 => zs.length = ks.length ∧ sp (gV [x] zs) H2 Q (ES σ)) := ⟨fun pins s σ H Q I h => by
  refine PySem.W.methodCall_KW (pl := pl) (thn (he.run pins s σ H _ I h) fun u s1 ⟨x, H1, I1, rx, a, dx, vs, ex, hsl, q⟩ => ?_) ht
  subst ex
  obtain rfl : u = Value.ref a := rx
  refine getmethsl_ok I1 hsl c hm (PySem.W.callWith_KW0 (first := [.ref a]) (h₀ := X.base) I.ok.mod.kin hm.kp hall (thn (hkw.run pos pins s1 σ H1 _ I1 q) fun ws s2 ⟨zs, H2, I2, rz, hl, q2⟩ => ⟨I2.kIn, ?_⟩) hpl)
  rw [hks]
  exact kw_at (us := [.ref a]) (vs := [.ref a]) F hr hb (hx σ) I2 (.cons rfl .nil) rz rfl hl q2⟩
/-- x[i] -/
def tIxOwnS (C : Addr) (sp : Sp) (E : L2.St → XK) (ta tb : TE) : TE := fun σ H Q => ta σ H fun x H1 => tb σ H1 fun y H2 => ∃ a dx vs, x = V.ref a ∧ Slt H2 a C dx vs ∧ sp [x, y] H2 Q (E σ)
theorem pe_ixOwnS {a b : Expr} (hs : PySem.W.findIn X.K (.ref C) "__getitem__" = some (some (.ref g))) (hf : PySem.W.isFn X.K (.ref g) = true) (hfn : PySem.W.fnIn X.K g = true) (F : FnOk X.prog X.w X.K X.mg X.base CX k g fd ps sp) (hb0 : Binds X.K fd ps []) (hr : Room (k + 1) X.A) (hx : ∀ σ, PassesAt CX X σ (ES σ)) (ha : PE X a ta) (hb : PE X b tb)
    (hsl : ∀ o i, subscripted b true o i = runValue (.builtin "lifetime.subscript" ⟨[o, i], []⟩)) : PE X (.Subscript a b pos) (tIxOwnS C sp ES ta tb) := ⟨fun pins s σ H Q I h => by
  refine Subscript_ (binT (R := fun x y H2 => ∃ a dx vs, x = V.ref a ∧ Slt H2 a C dx vs ∧ sp [x, y] H2 Q (ES σ)) ha hb I h fun v u s2 x y H2 I2 rx ry q => ?_)
  obtain ⟨p, dx, vs, ex, hsl2, q⟩ := q
  subst ex
  cases (show v = Value.ref p from rx)
  obtain ⟨_, _, _, J, _⟩ := slt_inst I2 hsl2
  obtain ⟨m, fr⟩ := I2.fr
  refine PySem.W.sub_K fr I2.mod.kin J hs hfn hf (wpAny_mono (wpAny_call (?_ : codeAny (model X.prog X.w) X.A.in1 (.call (.ref g) ⟨[.ref p, u], []⟩) (fun r s' => match r with | .ok (.ret v) => EP X pins σ Q v s' | .ok _ => False | .error e => X.xe e s') s2)) (fun z s' hz => hz) fun _ _ y => y) (hsl _ _)
  refine codeAny_mono (FnOk.raw F hb0 .nil X.A.in1 X.stack s2 H2 [.ref p, u] [.ref p, y] Q (ES σ) hr.in1 I2.env0.in1 (.cons rfl (.cons ry .nil)) (show sp ([.ref p, y] ++ []) H2 Q (ES σ) by rw [List.append_nil]; exact q)) fun r s' hq => ?_
  cases r with
  | error e => exact hx σ pins H2 s2 e s' I2 hq
  | ok fl =>
    cases fl with
    | ret u => exact I2.after hq
    | next => exact False.elim hq
    | brk => exact False.elim hq
    | cont => exact False.elim hq⟩
end
end SlX
namespace Td
open PySem PySem.Spec PyProof.Rows L2 SlX He
section
variable {X : Cx} {S : Type} {F : FC X.K S} {U W A : Type} {e a b : Expr} {te ta tb : TE} {G G1 G' : S → List Slot} {m m1 : SM S U} {m2 : SM S A} {mi : SM S Int} {arg argA : U → Arg} {argB : A → Arg} {tx txA : U → TapeV} {txB : A → TapeV} {pos apos : Pos} {r : Rp W} {k n : Nat} {g : Addr} {fd : FuncData} {nm : Str} {ps ks : List Str} {Wx : WX} {kws : List Keyword} {tk : TA} {gg : List Value → List Value → List Value}
abbrev sp2 (K : PySem.W.Frag) (r : Rp W) (f : TapeV × Int → SM Unit W) : Sp := SpP K 2 (fun u : TapeV × Int => [.is (sh rTape) u.1, .is rInt u.2]) r f
/-- tape.m(i), tape.m(k=i), tape[i] in a try's body (or anywhere) -/
theorem ex_methIS {fm : U → Int → SM Unit W} {f : TapeV × Int → SM Unit W} {pl : Sem Bool} (tc : TapeCls X.K) (mt : Meth X.K (tapeC X.K) nm g) (FO : FnOk X.prog X.w X.K X.mg X.base (L2.CX X.prog X.w) k g fd ps (sp2 X.K r f)) (hb : Binds X.K fd ps []) (hr : Room k X.A) (tkx : Takes X Wx) (hW : F.W = Wx)
    (h : EO X F e te G G1 arg m) (h2 : EX X F b tb G1 G' rInt mi) (hxt : ∀ a s, RdS (G' s) (arg a) rTape (tx a)) (hxt1 : ∀ a s, RdS (G1 s) (arg a) rTape (tx a)) (hw : ∀ s, Weak (G' s) (F.io s)) (hf : ∀ a i, fm a i = f (tx a, i) := by intros; rfl)
    (hst : PySem.W.isStarred b = false := by rfl) (hpl : (backTo pos (starEach [] X.env)).any (·.1) = false := by rfl)
    (ht : eval (.Call (.Attribute e nm apos) [b] [] pos) X.env = (do
      let ov ← eval e X.env
      standAt apos.atName
      let (f, first) ← holding [ov] (getMethod ov nm pl)
      callWith pos f first (backTo pos (starEach [b] X.env)) (backToKw pos (keywordEach [] X.env))) := by rfl) :
    EX X F (.Call (.Attribute e nm apos) [b] [] pos) (tMethSlS (tapeC X.K) (sp2 X.K r f) (WE Wx) te (tCons tb tNil)) G G' r (bnd m fun a => bnd mi fun i => lft (fm a i)) :=
  ⟨pe_methSlS h.pe tc.sc mt FO hb hr (fun σ => passAt tkx σ) (pa_cons h2.pe pa_nil (star1 hst)) (star1 hst) hpl ht, fun T t σ s H Q h0 q => by
    have hl := at_len h0
    refine h.go T t σ s H _ h0 (wp_mono (wp_bnd q) (fun a s1 q1 ts x H1 at1 av1 => ?_) fun _ _ z => z)
    have at1' := at1
    obtain ⟨A1, A2, at1⟩ := at1
    obtain ⟨v', e1, _, B, k1, _⟩ := rdS (j := 0) at1 av1 rfl (hxt1 a s1)
    cases e1
    obtain ⟨p, dx, w, ev, hs, _⟩ := tape_slt k1
    refine ⟨p, dx, _, ev, hs, ?_⟩
    refine h2.go _ _ σ s1 H1 _ at1' (wp_mono (wp_bnd q1) (fun i s2 q2 y H2 at2 => ?_) fun _ _ z => z)
    obtain ⟨A1, A2, at2⟩ := at2
    have at3 : AtP F ((tmps [arg a, .t (.is rInt i)]).reverse ++ T) ((ts ++ [y]).reverse ++ t) (G' s2) σ H2 A1 A2 := by
      rw [tmps_cons]
      simpa [tmps] using at2
    have av2 : ArgV σ [arg a, .t (.is rInt i)] (ts ++ [y]) [x, y] := argV_cons av1 (.t .nil)
    rw [hf a i] at q2
    exact run_spE (E := WE Wx σ) at3 av2 rfl hl (.inr (.sh (hxt a s2) (.cp cp_int (.tc cp_int) .nil))) (fun c d H z => by rw [hW] at z; exact z) (hw s2) (wp_lft q2)⟩
theorem ex_methKS {fm : U → Int → SM Unit W} {f : TapeV × Int → SM Unit W} {pl : Sem Bool} {kn : Str} {kp : Pos} (tc : TapeCls X.K) (mt : Meth X.K (tapeC X.K) nm g) (FO : FnOk X.prog X.w X.K X.mg X.base (L2.CX X.prog X.w) k g fd ps (sp2 X.K r f)) (hb : KBn X.K fd ps 1 [kn] gg (fun vs zs => permL [0, 1] (vs ++ zs))) (hr : Room k X.A) (tkx : Takes X Wx) (hW : F.W = Wx)
    (h : EO X F e te G G1 arg m) (h2 : EX X F b tb G1 G' rInt mi) (hxt : ∀ a s, RdS (G' s) (arg a) rTape (tx a)) (hxt1 : ∀ a s, RdS (G1 s) (arg a) rTape (tx a)) (hw : ∀ s, Weak (G' s) (F.io s)) (hf : ∀ a i, fm a i = f (tx a, i) := by intros; rfl)
    (hall : (backToKw pos (keywordEach [⟨some kn, b, kp⟩] X.env)).all (·.1.isSome) = true := by rfl) (hks : (backToKw pos (keywordEach [⟨some kn, b, kp⟩] X.env)).filterMap (·.1) = [kn] := by rfl) (hpl : ((backTo pos (starEach [] X.env)).any (·.1) || (backToKw pos (keywordEach [⟨some kn, b, kp⟩] X.env)).any (·.1.isNone)) = false := by rfl)
    (ht : eval (.Call (.Attribute e nm apos) [] [⟨some kn, b, kp⟩] pos) X.env = (do
      let ov ← eval e X.env
      standAt apos.atName
      let (f, first) ← holding [ov] (getMethod ov nm pl)
      callWith pos f first (backTo pos (starEach [] X.env)) (backToKw pos (keywordEach [⟨some kn, b, kp⟩] X.env))) := by rfl) :
    EX X F (.Call (.Attribute e nm apos) [] [⟨some kn, b, kp⟩] pos) (fun σ H Q => te σ H fun x H1 => ∃ a dx vs, x = .ref a ∧ Slt H1 a (tapeC X.K) dx vs ∧ tCons tb tNil σ H1 fun zs H2 => zs.length = [kn].length ∧ sp2 X.K r f (permL [0, 1] ([x] ++ zs)) H2 Q (WE Wx σ)) G G' r (bnd m fun a => bnd mi fun i => lft (fm a i)) :=
  ⟨pe_methSlKS h.pe tc.sc mt FO hb hr (fun σ => passAt tkx σ) (pk_cons h2.pe pk_nil) hall hks hpl ht, fun T t σ s H Q h0 q => by
    have hl := at_len h0
    refine h.go T t σ s H _ h0 (wp_mono (wp_bnd q) (fun a s1 q1 ts x H1 at1 av1 => ?_) fun _ _ z => z)
    have at1' := at1
    obtain ⟨A1, A2, at1⟩ := at1
    obtain ⟨v', e1, _, B, k1, _⟩ := rdS (j := 0) at1 av1 rfl (hxt1 a s1)
    cases e1
    obtain ⟨p, dx, w, ev, hs, _⟩ := tape_slt k1
    refine ⟨p, dx, _, ev, hs, ?_⟩
    refine h2.go _ _ σ s1 H1 _ at1' (wp_mono (wp_bnd q1) (fun i s2 q2 y H2 at2 => ?_) fun _ _ z => z)
    obtain ⟨A1, A2, at2⟩ := at2
    have at3 : AtP F ((tmps [arg a, .t (.is rInt i)]).reverse ++ T) ((ts ++ [y]).reverse ++ t) (G' s2) σ H2 A1 A2 := by
      rw [tmps_cons]
      simpa [tmps] using at2
    have av2 : ArgV σ [arg a, .t (.is rInt i)] (ts ++ [y]) [x, y] := argV_cons av1 (.t .nil)
    rw [hf a i] at q2
    exact ⟨rfl, run_spE (E := WE Wx σ) at3 av2 rfl hl (.inr (.sh (hxt a s2) (.cp cp_int (.tc cp_int) .nil))) (fun c d H z => by rw [hW] at z; exact z) (hw s2) (wp_lft q2)⟩⟩
theorem ex_tixS {fm : U → Int → SM Unit W} {f : TapeV × Int → SM Unit W} (mt : Mth X.K "__getitem__") (hfn : PySem.W.fnIn X.K (He.ma X.K (tapeC X.K) "__getitem__") = true) (FO : FnOk X.prog X.w X.K X.mg X.base (L2.CX X.prog X.w) k (He.ma X.K (tapeC X.K) "__getitem__") fd ps (sp2 X.K r f)) (hb : Binds X.K fd ps []) (hr : Room (k + 1) X.A) (tkx : Takes X Wx) (hW : F.W = Wx)
    (h1 : EO X F a ta G G1 arg m) (h2 : EX X F b tb G1 G' rInt mi) (hx : ∀ a s, RdS (G' s) (arg a) rTape (tx a)) (hw : ∀ s, Weak (G' s) (F.io s)) (hf : ∀ a i, fm a i = f (tx a, i) := by intros; rfl) (hsl : ∀ o i, subscripted b true o i = runValue (.builtin "lifetime.subscript" ⟨[o, i], []⟩) := by intros; rfl) :
    EX X F (.Subscript a b pos) (tIxOwnS (tapeC X.K) (sp2 X.K r f) (WE Wx) ta tb) G G' r (bnd m fun a => bnd mi fun i => lft (fm a i)) :=
  ⟨pe_ixOwnS mt.at_ mt.fn hfn FO hb hr (fun σ => passAt tkx σ) h1.pe h2.pe hsl, fun T t σ s H Q h0 q => by
    have hl := at_len h0
    refine h1.go T t σ s H _ h0 (wp_mono (wp_bnd q) (fun a s1 q1 ts x H1 at1 av1 => ?_) fun _ _ z => z)
    refine h2.go _ _ σ s1 H1 _ at1 (wp_mono (wp_bnd q1) (fun i s2 q2 y H2 at2 => ?_) fun _ _ z => z)
    obtain ⟨A1, A2, at2⟩ := at2
    have at3 : AtP F ((tmps [arg a, .t (.is rInt i)]).reverse ++ T) ((ts ++ [y]).reverse ++ t) (G' s2) σ H2 A1 A2 := by
      rw [tmps_cons]
      simpa [tmps] using at2
    have av2 : ArgV σ [arg a, .t (.is rInt i)] (ts ++ [y]) [x, y] := argV_cons av1 (.t .nil)
    obtain ⟨v', e1, _, B, k1, _⟩ := rdS (j := 0) at3 av2 rfl (hx a s2)
    cases e1
    obtain ⟨p, dx, w, ev, hs, _⟩ := tape_slt k1
    subst ev
    rw [hf a i] at q2
    exact ⟨p, dx, _, rfl, hs, run_spE (E := WE Wx σ) at3 av2 rfl hl (.inr (.sh (hx a s2) (.cp cp_int (.tc cp_int) .nil))) (fun c d H z => by rw [hW] at z; exact z) (hw s2) (wp_lft q2)⟩⟩
/-- tape != tape -/
structure NeCls (K : PySem.W.Frag) (C : Addr) : Prop where
  ob : PySem.W.mroIn K C (.type "object") = some true
  ne : PySem.W.findIn K (.ref C) "__ne__" = some (some (.builtin "object.__ne__"))
def neClsB (K : PySem.W.Frag) (C : Addr) : Bool := decide (PySem.W.mroIn K C (.type "object") = some true) && eqO (PySem.W.findIn K (.ref C) "__ne__") (some (some (.builtin "object.__ne__")))
theorem neCls_ok {K : PySem.W.Frag} {C : Addr} (h : neClsB K C = true) : NeCls K C := by
  unfold neClsB at h
  rw [Bool.and_eq_true] at h
  exact ⟨of_decide_eq_true h.1, eqO_ok h.2⟩
theorem go_neTape {f : TapeV × TapeV → SM Unit Bool} {fm : U → A → SM Unit Bool} (h : GO F ta G G1 argA m1) (h2 : GO F tb G1 G' argB m2) (x1 : ∀ a s, RdS (G' s) (argA a) rTape (txA a)) (x2 : ∀ a s, RdS (G' s) (argB a) rTape (txB a)) (hf : ∀ a b, fm a b = f (txA a, txB b)) :
    GE F (tOp (rOwnNe X.K (tapeC X.K) (SpP X.K 2 (fun u : TapeV × TapeV => [.is (sh rTape) u.1, .is (sh rTape) u.2]) rBool f) (fun _ _ _ => False)) ta tb) G G' rBool (bnd m1 fun a => bnd m2 fun b => bnd (nxc (lft (fm a b))) fun k => ret (!k)) := fun T t σ s H Q h0 q => by
  refine h T t σ s H _ h0 (wp_mono (wp_bnd q) (fun a s1 q1 ts x H1 at1 av1 => ?_) fun _ _ z => z)
  refine h2 _ _ σ s1 H1 _ at1 (wp_mono (wp_bnd q1) (fun b s2 q2 us y H2 at2 av2 => ?_) fun _ _ z => z)
  have av3 : ArgV σ [argA a, argB b] (ts ++ us) [x, y] := argV_cons av1 av2
  have at3 : At F ((tmps [argA a, argB b]).reverse ++ T) ((ts ++ us).reverse ++ t) (G' s2) σ H2 := by
    rw [tmps_cons]
    simpa using at2
  obtain ⟨A1, A2, at3⟩ := at3
  obtain ⟨v1, e1, _, B1, k1, _⟩ := rdS (j := 0) at3 av3 rfl (x1 a s2)
  obtain ⟨v2, e2, _, B2, k2, _⟩ := rdS (j := 1) at3 av3 rfl (x2 b s2)
  cases e1
  cases e2
  obtain ⟨p, dx, w, ev, hs, _⟩ := tape_slt k1
  obtain ⟨p2, dx2, w2, ev2, hs2, _⟩ := tape_slt k2
  subst ev ev2
  rw [hf a b] at q2
  refine ⟨p, dx, _, p2, tapeC X.K, dx2, _, rfl, rfl, hs, hs2, by unfold PySem.W.notFirst; simp, ?_⟩
  refine run_sp at3 av3 rfl (.sh (x1 a s2) (.sh (x2 b s2) .nil)) (wp_mono (wp_lft (wp_nxc (E' := fun _ _ => False) (wp_bnd q2))) (fun b _ q3 v H' z => ?_) fun _ _ z => z)
  obtain ⟨_, _, ek, _⟩ := top_rel z
  subst ek
  exact ⟨b, rfl, q3 _ H' (z.pop.push fun _ => ⟨rfl, rfl⟩)⟩
theorem ex_neTape {f : TapeV × TapeV → SM Unit Bool} {fm : U → A → SM Unit Bool} (nc : NeCls X.K (tapeC X.K)) (mt : Meth X.K (tapeC X.K) "__eq__" g) (FO : FnOk X.prog X.w X.K X.mg X.base (L2.CX X.prog X.w) k g fd ps (SpP X.K 2 (fun u : TapeV × TapeV => [.is (sh rTape) u.1, .is (sh rTape) u.2]) rBool f)) (hb : Binds X.K fd ps []) (hr : Room (k + 1) X.A)
    (h : EO X F a ta G G1 argA m1) (h2 : EO X F b tb G1 G' argB m2) (x1 : ∀ a s, RdS (G' s) (argA a) rTape (txA a)) (x2 : ∀ a s, RdS (G' s) (argB a) rTape (txB a)) (hf : ∀ a b, fm a b = f (txA a, txB b) := by intros; rfl) (hm : behindInMarks .NotEq b = false := by rfl) :
    EX X F (.Compare a [.NotEq] [b] pos) (tOp (rOwnNe X.K (tapeC X.K) (SpP X.K 2 (fun u : TapeV × TapeV => [.is (sh rTape) u.1, .is (sh rTape) u.2]) rBool f) (fun _ _ _ => False)) ta tb) G G' rBool (bnd m1 fun a => bnd m2 fun b => bnd (nxc (lft (fm a b))) fun k => ret (!k)) :=
  ⟨pe_cmpR (op_ownNe nc.ob nc.ne mt.at_ mt.fn ((FnOk.raw FO hb .nil).imp fun vs H Q E q => by rw [List.append_nil]; exact q) hr (passes_nx rfl)) h.pe h2.pe hm, go_neTape h.go h2.go x1 x2 hf⟩
theorem et_neTape {f : TapeV × TapeV → SM Unit Bool} {fm : U → A → SM Unit Bool} (nc : NeCls X.K (tapeC X.K)) (mt : Meth X.K (tapeC X.K) "__eq__" g) (FO : FnOk X.prog X.w X.K X.mg X.base (L2.CX X.prog X.w) k g fd ps (SpP X.K 2 (fun u : TapeV × TapeV => [.is (sh rTape) u.1, .is (sh rTape) u.2]) rBool f)) (hb : Binds X.K fd ps []) (hr : Room (k + 1) X.A)
    (h : EO X F a ta G G1 argA m1) (h2 : EO X F b tb G1 G' argB m2) (x1 : ∀ a s, RdS (G' s) (argA a) rTape (txA a)) (x2 : ∀ a s, RdS (G' s) (argB a) rTape (txB a)) (hf : ∀ a b, fm a b = f (txA a, txB b) := by intros; rfl) (hm : behindInMarks .NotEq b = false := by rfl) :
    ET X F (.Compare a [.NotEq] [b] pos) (tTest (tOp (rOwnNe X.K (tapeC X.K) (SpP X.K 2 (fun u : TapeV × TapeV => [.is (sh rTape) u.1, .is (sh rTape) u.2]) rBool f) (fun _ _ _ => False)) ta tb)) G G' (bnd m1 fun a => bnd m2 fun b => bnd (nxc (lft (fm a b))) fun k => ret (!k)) :=
  ⟨pt_cmpR (op_ownNe nc.ob nc.ne mt.at_ mt.fn ((FnOk.raw FO hb .nil).imp fun vs H Q E q => by rw [List.append_nil]; exact q) hr (passes_nx rfl)) h.pe h2.pe hm, go_test (go_neTape h.go h2.go x1 x2 hf)⟩
end
end Td

set_option Elab.async false
set_option linter.all false
set_option maxRecDepth 100000
set_option maxHeartbeats 4000000
namespace Td
open PySem PySem.Spec PyProof.Rows L2 He
section
variable {X : Cx} {S : Type} {F : FC X.K S} {N L R U W Z : Type} {G G1 G2 : S → List Slot} {GN : N → S → List Slot} {GL : L → S → List Slot} {r : Rp R} {r1 : Rp U} {r2 : Rp W} {r3 : Rp Z} {pos p0 p1 cpos apos : Pos} {rest : List Stmt} {tr : TS} {e e2 a b : Expr} {te te2 ta tb : TE} {argU : U → Arg} {argW : W → Arg} {m : SM S U} {m1 : SM S U} {m2 : SM S W}
/-- e.append(e2) of a new list that nobody holds -/
theorem bx_appT {ml : SM S (List U)} {me : SM S U} {out : SM S (Fl N L R)} (h : EX X F e te G G1 (rList r1) ml) (h2 : EX X F e2 te2 G1 G2 r1 me) (hb : BX X F rest tr G2 GN GL r out)
    (hs : PySem.W.isStarred e2 = false := by rfl)
    (hfew : ((backTo cpos (starEach (e2 :: []) X.env)).all (fun x => !x.1) && (backToKw cpos (keywordEach [] X.env)).all (fun x => x.1.isSome)
      && decide ((e2 :: []).length + ([] : List Keyword).length + (if ([] : List Keyword).isEmpty then 0 else 1) < 30)) = true := by rfl) (hline : (apos.endLine == cpos.line) = true := by rfl) (hsw : swapsWith (.Call (.Attribute e "append" apos) [e2] [] cpos) none pos.line X.env = pure false := by rfl)
    (hbase : attributeBase e "append" X.env (eval e X.env) = eval e X.env := by rfl) :
    BX X F (.Expr (.Call (.Attribute e "append" apos) [e2] [] cpos) pos :: rest) (tSeq (tDrop (tBM X.K "list" rAppend te (tCons te2 tNil))) tr) G GN GL r (bnd ml fun xs => bnd me fun y => bnd (pushM xs y) fun _ => out) :=
  ⟨pss_cons (ps_expr (pe_bm PySem.F.plainAttrs_list PySem.F.slot_list_append PySem.F.type_list_append mt_append h.pe (pa_cons h2.pe pa_nil (star1 hs)) hbase hfew hline (star1 hs) (by rfl)) hsw) hb.ps, fun T t σ s H D h0 q => by
    refine h.go T t σ s H _ h0 (wp_mono (wp_bnd q) (fun xs s1 q1 v H1 at1 => ?_) fun e s z => z σ)
    obtain ⟨M, B, p, vs, A, ev, hp, _⟩ := top_rel at1
    subst ev
    refine ⟨ty_lst hp, ?_⟩
    refine h2.go _ _ σ s1 H1 _ at1 (wp_mono (wp_bnd q1) (fun y s2 q2 w H2 at2 => ?_) fun e s z => z σ)
    obtain ⟨hz, q3⟩ := wp_grd (wp_bnd (wp_bnd q2))
    obtain ⟨ws, hD, hl, at3⟩ := at2.appendT
    exact ⟨p, ws, w, rfl, rfl, hD, by rw [hl]; exact hz, hb.go T t σ s2 _ D at3.pop q3⟩⟩
/-- xs == [] where both are empty -/
def emptyG {A B : Type} (xs : List A) (ys : List B) : SM S Bool := bnd (grd (xs.isEmpty = true ∧ ys.isEmpty = true)) fun _ => ret true
theorem go_eqE {xs : U → List Z} {ys : W → List Z} (h1 : GO F ta G G1 argU m1) (h2 : GO F tb G1 G2 argW m2) (hx : ∀ a s, Rdd (G2 s) (argU a) (rList r3) (xs a)) (hy : ∀ a s, Rdd (G2 s) (argW a) (rList r3) (ys a)) :
    GE F (tOp (rEqD X.K) ta tb) G G2 rBool (bnd m1 fun a => bnd m2 fun b => emptyG (xs a) (ys b)) :=
  go_op2 h1 h2 (fun _ _ => stl_bnd stl_grd fun _ => stl_ret _) fun a b s T t ts x y σ H Q A1 A2 at1 av q => by
    obtain ⟨v, B, e1, p, vs, A, ev, hp, hA, eB⟩ := rddM (j := 0) at1 av rfl (hx a s)
    obtain ⟨v2, B2, e2, p2, vs2, A', ev2, hp2, hA2, eB2⟩ := rddM (j := 1) at1 av rfl (hy b s)
    cases e1; cases e2
    obtain ⟨⟨g1, g2⟩, q⟩ := wp_grd (wp_bnd q)
    have l1 := hA.length
    have l2 := hA2.length
    rw [List.isEmpty_iff.mp g1] at l1
    rw [List.isEmpty_iff.mp g2] at l2
    obtain rfl : vs = [] := List.eq_nil_of_length_eq_zero l1
    obtain rfl : vs2 = [] := List.eq_nil_of_length_eq_zero l2
    subst ev ev2
    exact ⟨.list [], .list [], .lst (SqL.of hp) .nil, .lst (SqL.of hp2) .nil, rfl, rfl, q.2 _ H (at1.fin av ⟨rfl, rfl⟩)⟩
theorem ex_eqE {xs : U → List Z} {ys : W → List Z} (hu : X.A.units + 64 < cLine) (h1 : EO X F a ta G G1 argU m1) (h2 : EO X F b tb G1 G2 argW m2) (hx : ∀ a s, Rdd (G2 s) (argU a) (rList r3) (xs a)) (hy : ∀ a s, Rdd (G2 s) (argW a) (rList r3) (ys a)) (hm : behindInMarks .Eq b = false := by rfl) :
    EX X F (.Compare a [.Eq] [b] pos) (tOp (rEqD X.K) ta tb) G G2 rBool (bnd m1 fun a => bnd m2 fun b => emptyG (xs a) (ys b)) := ⟨pe_cmpR (op_eqD hu) h1.pe h2.pe hm, go_eqE h1.go h2.go hx hy⟩
/-- a tuple of two alike as a tuple of many -/
theorem ex_tupL2 {q : Rp Z} {mp : SM S (Z × Z)} (h : EX X F e te G G1 (rPair q q) mp) : EX X F e te G G1 (rTupL q) (bnd mp fun p => ret [p.1, p.2]) :=
  ⟨h.pe, go_map h.go fun p v M H B k => by
    obtain ⟨a, v1, v2, B1, B2, ev, hT, k1, k2, eB⟩ := k
    subst ev eB
    have z : All3 (q.rel X.K M H) [v1, v2] [p.1, p.2] (B1 ++ (B2 ++ [])) := .cons k1 (.cons k2 .nil)
    rw [List.append_nil] at z
    exact ⟨a, _, rfl, hT, z⟩⟩
/-- what a slot owns is shared from here on -/
theorem bx_frz {ss : List Stmt} {xa : U} {out : SM S (Fl N L R)} (i : Nat) (hG : ∀ s, (G s)[i]? = some (.is r1 xa)) (h : BX X F ss tr (fun s => (G s).set i (.is (sh r1) xa)) GN GL r out) : BX X F ss tr G GN GL r out :=
  ⟨h.ps, fun T t σ s H D h0 q => by
    obtain ⟨v, ev, at1⟩ := h0.move (hG s)
    have hi : i < (G s).length := (List.getElem?_eq_some_iff.mp (hG s)).1
    have at2 := at1.freeze.store i (g' := .un) (by rw [List.getElem?_set_self hi])
    rw [set_self ev, List.set_set] at at2
    exact h.go T t σ s H D at2 q⟩
end
end Td

set_option Elab.async false
set_option linter.all false
set_option maxRecDepth 100000
set_option maxHeartbeats 0
namespace Hd
open PySem PySem.Spec PyProof.Rows L2 He Td
def tp (i : Nat) : Stmt := PySem.Challenge.pw_tapedetours_k05_without_and_turned.main.body.getD i (.Pass ⟨0, 0, 0, 0⟩)
def ms (i j : Nat) : Stmt := (clsB (tp i)).getD j (.Pass ⟨0, 0, 0, 0⟩)
def d_TapeError_DinitD : Df := ⟨fun K => ma K (ga K "TapeError") "__init__", "__init__", "TapeError.__init__", defArgs (ms 1 0), defBody (ms 1 0), defScope (ms 1 0)⟩
def d_Tape_DinitD : Df := ⟨fun K => ma K (ga K "Tape") "__init__", "__init__", "Tape.__init__", defArgs (ms 9 1), defBody (ms 9 1), defScope (ms 9 1)⟩
def d_Tape_length : Df := ⟨fun K => pgA K (ga K "Tape") "length", "length", "Tape.length", defArgs (ms 9 2), defBody (ms 9 2), defScope (ms 9 2)⟩
def d_Tape_files : Df := ⟨fun K => pgA K (ga K "Tape") "files", "files", "Tape.files", defArgs (ms 9 3), defBody (ms 9 3), defScope (ms 9 3)⟩
def d_Tape_DlenD : Df := ⟨fun K => ma K (ga K "Tape") "__len__", "__len__", "Tape.__len__", defArgs (ms 9 4), defBody (ms 9 4), defScope (ms 9 4)⟩
def d_Tape_DeqD : Df := ⟨fun K => ma K (ga K "Tape") "__eq__", "__eq__", "Tape.__eq__", defArgs (ms 9 5), defBody (ms 9 5), defScope (ms 9 5)⟩
def d_Tape_DiterD : Df := ⟨fun K => ma K (ga K "Tape") "__iter__", "__iter__", "Tape.__iter__", defArgs (ms 9 6), defBody (ms 9 6), defScope (ms 9 6)⟩
def d_Tape_DgetitemD : Df := ⟨fun K => ma K (ga K "Tape") "__getitem__", "__getitem__", "Tape.__getitem__", defArgs (ms 9 7), defBody (ms 9 7), defScope (ms 9 7)⟩
def d_Tape_without : Df := ⟨fun K => ma K (ga K "Tape") "without", "without", "Tape.without", defArgs (ms 9 8), defBody (ms 9 8), defScope (ms 9 8)⟩
def d_Tape_turned : Df := ⟨fun K => ma K (ga K "Tape") "turned", "turned", "Tape.turned", defArgs (ms 9 9), defBody (ms 9 9), defScope (ms 9 9)⟩
def d__law_td_sack : Df := ⟨fun K => ga K "_law_td_sack", "_law_td_sack", "_law_td_sack", defArgs (tp 11), defBody (tp 11), defScope (tp 11)⟩
def d__law_td_pick : Df := ⟨fun K => ga K "_law_td_pick", "_law_td_pick", "_law_td_pick", defArgs (tp 12), defBody (tp 12), defScope (tp 12)⟩
def d__law_td_shape : Df := ⟨fun K => ga K "_law_td_shape", "_law_td_shape", "_law_td_shape", defArgs (tp 13), defBody (tp 13), defScope (tp 13)⟩
def d__law_td_wide_shape : Df := ⟨fun K => ga K "_law_td_wide_shape", "_law_td_wide_shape", "_law_td_wide_shape", defArgs (tp 14), defBody (tp 14), defScope (tp 14)⟩
def d__law_td_tape : Df := ⟨fun K => ga K "_law_td_tape", "_law_td_tape", "_law_td_tape", defArgs (tp 15), defBody (tp 15), defScope (tp 15)⟩
def d__law_td_is_only : Df := ⟨fun K => ga K "_law_td_is_only", "_law_td_is_only", "_law_td_is_only", defArgs (tp 16), defBody (tp 16), defScope (tp 16)⟩
def d__law_td_mirror : Df := ⟨fun K => ga K "_law_td_mirror", "_law_td_mirror", "_law_td_mirror", defArgs (tp 17), defBody (tp 17), defScope (tp 17)⟩
def d__law_td_unknown : Df := ⟨fun K => ga K "_law_td_unknown", "_law_td_unknown", "_law_td_unknown", defArgs (tp 18), defBody (tp 18), defScope (tp 18)⟩
def d__law_td_is_shape : Df := ⟨fun K => ga K "_law_td_is_shape", "_law_td_is_shape", "_law_td_is_shape", defArgs (tp 19), defBody (tp 19), defScope (tp 19)⟩
def d__law_td_right : Df := ⟨fun K => ga K "_law_td_right", "_law_td_right", "_law_td_right", defArgs (tp 20), defBody (tp 20), defScope (tp 20)⟩
def d_law : Df := ⟨fun K => ga K "law", "law", "law", defArgs (tp 21), defBody (tp 21), defScope (tp 21)⟩
def fs : List Df := [d_TapeError_DinitD, d_Tape_DinitD, d_Tape_length, d_Tape_files, d_Tape_DlenD, d_Tape_DeqD, d_Tape_DiterD, d_Tape_DgetitemD, d_Tape_without, d_Tape_turned, d__law_td_sack, d__law_td_pick, d__law_td_shape, d__law_td_wide_shape, d__law_td_tape, d__law_td_is_only, d__law_td_mirror, d__law_td_unknown, d__law_td_is_shape, d__law_td_right, d_law]
def gl0 : List Str := ["_law_td_sack", "_law_td_pick", "_law_td_shape", "_law_td_wide_shape", "_law_td_tape", "_law_td_is_only", "_law_td_mirror", "_law_td_unknown", "_law_td_is_shape", "_law_td_right", "law", "TapeError", "InvalidTape", "InvalidFile", "InvalidAsks", "UnknownFile", "InvalidNumber", "InvalidStep", "Tape"]
def glos : List Str := gl0
def frees : List Str := ["TypeError", "ValueError", "abs", "int", "isinstance", "len", "list", "max", "min", "range", "repr", "tuple"]
def exs (K : PySem.W.Frag) : Bool := glos.all (gaB K) && (frees.all (frB K) && (slcB K (ga K "Tape") && (slotB K (ga K "Tape") "extent" 0 && (slotB K (ga K "Tape") "kept" 1 && (prpB K (ga K "Tape") "length" && (prpB K (ga K "Tape") "files" && (mthB K (ga K "Tape") "__len__" && (mthB K (ga K "Tape") "__getitem__" && (mthB K (ga K "Tape") "__eq__" && (mthB K (ga K "Tape") "turned" && (mthB K (ga K "Tape") "without" && ((Fa.mkr "Tape").ok K && (isiB K (ga K "Tape") && (neClsB K (ga K "Tape") && (vviB K && (xclB K "InvalidTape" (ma K (ga K "TapeError") "__init__") && (xclB K "UnknownFile" (ma K (ga K "TapeError") "__init__") && (xclB K "InvalidFile" (ma K (ga K "TapeError") "__init__") && ((["InvalidTape", "UnknownFile", "InvalidFile"] : List Str).all (xisB K) && (((["InvalidTape", "UnknownFile", "InvalidFile"] : List Str).all fun c => exmB K c "TapeError") && (kisV K [("InvalidTape", true), ("UnknownFile", true), ("InvalidFile", true)] (.ref (ga K "TapeError")) && (kisV K [("InvalidTape", true), ("UnknownFile", true), ("InvalidFile", true)] (.type "ValueError") && (kisTV K [("InvalidTape", true), ("UnknownFile", false), ("InvalidFile", true)] [.ref (ga K "InvalidTape"), .ref (ga K "InvalidFile"), .ref (ga K "InvalidNumber"), .ref (ga K "InvalidStep"), .ref (ga K "InvalidAsks")] && (kisV K [("InvalidTape", false), ("UnknownFile", true), ("InvalidFile", false)] (.ref (ga K "UnknownFile"))))))))))))))))))))))))))
abbrev R : PySem.W.OpenRow := PySem.W.OpenLaw.row PySem.Challenge.rw_tapedetours_k05_without_and_turned
abbrev hk : PySem.W.Hook := hookTd 5 exs fs
def ob (s : PySem.W.SharedT) : AlTd := obsTdG 5 exs fs (HandSHeadRun.getT s)
theorem ob_eq (s : PySem.W.SharedT) : ob s = hk.obs s.abs := obsTdG_eq (HandSHeadRun.getT_eq s)
def lo0 : List Str := ["__name__", "TapeError", "InvalidTape", "InvalidFile", "InvalidAsks", "UnknownFile", "InvalidNumber", "InvalidStep", "Tape", "_law_td_sack", "_law_td_pick", "_law_td_shape", "_law_td_wide_shape", "_law_td_tape", "_law_td_is_only", "_law_td_mirror", "_law_td_unknown", "_law_td_is_shape", "_law_td_right"]
def loose : List Str := lo0
theorem run (w : World) : HandSHeadRun.RunEq R (PySem.W.view R.prog [21]) hk ob 20000 loose w := by
  intro os
  kernel_rfl
end Hd

set_option Elab.async false
set_option linter.all false
set_option maxRecDepth 100000
set_option maxHeartbeats 4000000
namespace Tk
open PySem PySem.Spec PyProof.Rows L2 He Td
def o_Tape_DlenD (u : (Int × List (Int × Int))) : SM Unit (Fl Empty Empty Int) := (bnd (bnd (bnd (ret u) fun a1 => ret a1.2) fun a2 => ret ((a2).length : Int)) fun a3 => ret (.rt a3))
def m_Tape_DlenD (u : (Int × List (Int × Int))) : SM Unit Int := runB (o_Tape_DlenD u)
def o_Tape_DinitD (u : (Int × (List (Int × Int)))) : SM TS0 (Fl Unit Empty Unit) := (bnd (bnd (ret u.1) fun a4 => bnd (ret 1) fun a5 => ret (decide (a4 < a5))) fun k6 => if k6 then esc (bnd (ret u.1) fun a7 => rse ⟨"InvalidTape", .int a7⟩) else (bnd (ret 0) fun v_edge8 => (bnd (ret u.2) fun xs => lpM (forM_ xs (fun (l9 : Int) x10 => (bnd (bnd (bnd (ret l9) fun a11 => bnd (ret x10.1) fun a12 => if decide (a11 ≤ a12) then bnd (ret x10.2) fun a13 => if decide (a12 < a13) then bnd (ret u.1) fun a14 => ret (decide (a13 ≤ a14)) else ret false else ret false) fun k15 => ret (!k15)) fun k16 => if k16 then esc (bnd (bnd (ret x10.1) fun a17 => bnd (ret x10.2) fun a18 => ret (a17, a18)) fun a19 => rse ⟨"InvalidFile", .pair a19.1 a19.2⟩) else (bnd (ret x10.2) fun v_edge20 => (ret (.nx v_edge20))))) v_edge8) fun l9 => (bnd (ret u.1) fun a21 => bnd (setExt a21) fun _ => (bnd (bnd (ret u.2) fun a22 => ret a22) fun a23 => bnd (setKept a23) fun _ => (ret (.nx ())))))))
def m_Tape_DinitD (u : (Int × (List (Int × Int)))) : SM TS0 Unit := runP (o_Tape_DinitD u)
def o_Tape_DeqD (u : ((Int × List (Int × Int)) × (Int × List (Int × Int)))) : SM Unit (Fl Empty Empty Bool) := (bnd (bnd (bnd (ret u.2) fun a24 => ret true) fun a36 => if a36 then (bnd (bnd (bnd (ret u.1) fun a29 => ret a29.1) fun a27 => bnd (bnd (ret u.2) fun a30 => ret a30.1) fun a28 => ret (decide (a27 = a28))) fun a35 => if a35 then (bnd (bnd (ret u.1) fun a31 => ret a31.2) fun a33 => bnd (bnd (ret u.2) fun a32 => ret a32.2) fun a34 => eqD ((dTL (dP PyData.int PyData.int)) a33) ((dTL (dP PyData.int PyData.int)) a34)) else ret false) else ret false) fun a37 => ret (.rt a37))
def m_Tape_DeqD (u : ((Int × List (Int × Int)) × (Int × List (Int × Int)))) : SM Unit Bool := runB (o_Tape_DeqD u)
def o_Tape_DgetitemD (u : ((Int × List (Int × Int)) × Int)) : SM Unit (Fl Empty Empty (Int × Int)) := (bnd (bnd (bnd (ret 0) fun a40 => bnd (ret u.2) fun a41 => if decide (a40 ≤ a41) then bnd (bnd (bnd (ret u.1) fun a38 => ret a38.2) fun a39 => ret ((a39).length : Int)) fun a42 => ret (decide (a41 < a42)) else ret false) fun k43 => ret (!k43)) fun k44 => if k44 then esc (bnd (ret u.2) fun a45 => rse ⟨"UnknownFile", .int a45⟩) else (bnd (bnd (bnd (ret u.1) fun a46 => ret a46.2) fun a47 => bnd (ret u.2) fun a48 => ixM a47 a48) fun a49 => ret (.rt a49)))
def m_Tape_DgetitemD (u : ((Int × List (Int × Int)) × Int)) : SM Unit (Int × Int) := runB (o_Tape_DgetitemD u)
def o__law_td_sack (u : ((List Int) × Int)) : SM Unit (Fl Empty Empty (List Int)) := (bnd (bnd (bnd (ret u.2) fun a52 => bnd (bnd (ret u.1) fun a51 => ret ((a51).length : Int)) fun a53 => ret (decide (a52 < a53))) fun k56 => if k56 then (bnd (ret u.1) fun a54 => bnd (ret u.2) fun a55 => ixM a54 a55) else (ret 0)) fun v_law_cell50 => (bnd (bnd (bnd (bnd (ret 0) fun a119 => bnd (bnd (bnd (ret v_law_cell50) fun a113 => ret (if a113 < 0 then -a113 else a113)) fun a117 => bnd (bnd (ret 10) fun a115 => bnd (ret 18) fun a116 => powM a115 a116) fun a118 => ret (a117 - a118)) fun a120 => ret (if a120 > a119 then a120 else a119)) fun a109 => bnd (bnd (bnd (bnd (bnd (bnd (bnd (ret v_law_cell50) fun a91 => bnd (ret 52361) fun a92 => mulM a91 a92) fun a95 => bnd (bnd (ret u.2) fun a93 => bnd (ret 9176429) fun a94 => mulM a93 a94) fun a96 => ret (a95 + a96)) fun a97 => bnd (ret 7919) fun a98 => ret (a97 + a98)) fun a99 => ret a99) fun a107 => bnd (bnd (bnd (ret 10) fun a103 => bnd (ret 36) fun a104 => powM a103 a104) fun a105 => bnd (ret 67) fun a106 => ret (a105 + a106)) fun a108 => modM a107 a108) fun a59 => bnd (bnd (ret 0) fun a57 => bnd (ret []) fun l58 => ret (a57 :: l58)) fun l60 => ret (a59 :: l60)) fun l110 => ret (a109 :: l110)) fun l121 => bnd (lenG l121) fun _ => ret l121) fun a122 => ret (.rt a122)))
def m__law_td_sack (u : ((List Int) × Int)) : SM Unit (List Int) := runB (o__law_td_sack u)
def o_Tape_length (u : (Int × List (Int × Int))) : SM Unit (Fl Empty Empty Int) := (bnd (bnd (ret u) fun a123 => ret a123.1) fun a124 => ret (.rt a124))
def m_Tape_length (u : (Int × List (Int × Int))) : SM Unit Int := runB (o_Tape_length u)
def o_Tape_files (u : (Int × List (Int × Int))) : SM Unit (Fl Empty Empty (List (Int × Int))) := (bnd (bnd (bnd (ret u) fun a125 => ret a125.2) fun a126 => ret a126) fun a127 => ret (.rt a127))
def m_Tape_files (u : (Int × List (Int × Int))) : SM Unit (List (Int × Int)) := runB (o_Tape_files u)
def o_Tape_without (u : ((Int × List (Int × Int)) × Int)) : SM Unit (Fl Empty Empty (Int × List (Int × Int))) := (bnd (bnd (bnd (ret 0) fun a130 => bnd (ret u.2) fun a131 => if decide (a130 ≤ a131) then bnd (bnd (bnd (ret u.1) fun a128 => ret a128.2) fun a129 => ret ((a129).length : Int)) fun a132 => ret (decide (a131 < a132)) else ret false) fun k133 => ret (!k133)) fun k134 => if k134 then esc (bnd (ret u.2) fun a135 => rse ⟨"UnknownFile", .int a135⟩) else (bnd (bnd (bnd (bnd (ret u.1) fun a158 => ret a158.1) fun a183 => bnd (bnd (bnd (bnd (bnd (bnd (ret u.1) fun a175 => ret a175.2) fun a176 => bnd (ret none) fun a178 => bnd (bnd (ret u.2) fun a177 => ret (some a177)) fun a179 => ret (cutL a176 a178 a179)) fun a173 => bnd (bnd (bnd (bnd (ret u.1) fun a166 => ret a166.2) fun a167 => bnd (bnd (bnd (ret u.2) fun a168 => bnd (ret 1) fun a169 => ret (a168 + a169)) fun a170 => ret (some a170)) fun a171 => bnd (ret none) fun a172 => ret (cutL a167 a171 a172)) fun a164 => bnd (ret []) fun l165 => ret (a164 ++ l165)) fun l174 => ret (a173 ++ l174)) fun l180 => bnd (lenG l180) fun _ => ret l180) fun a181 => bnd (ret ()) fun a182 => ret (a181, a182)) fun a184 => ret (a183, a184)) fun q185 => bnd (subM (m_Tape_DinitD (q185.1, q185.2.1)) TS0.new) fun r186 => tapeM r186.2) fun a187 => ret (.rt a187)))
def m_Tape_without (u : ((Int × List (Int × Int)) × Int)) : SM Unit (Int × List (Int × Int)) := runB (o_Tape_without u)
def o_Tape_turned (u : (Int × List (Int × Int))) : SM Unit (Fl Empty Empty (Int × List (Int × Int))) := (bnd (bnd (bnd (bnd (ret u) fun a189 => ret a189.2) fun a190 => ret (a190).reverse) fun xs => lcM (fun x191 => lcIt (ret true) (bnd (bnd (bnd (ret u) fun a193 => ret a193.1) fun a194 => bnd (ret x191.2) fun a195 => ret (a194 - a195)) fun a200 => bnd (bnd (bnd (ret u) fun a197 => ret a197.1) fun a198 => bnd (ret x191.1) fun a199 => ret (a198 - a199)) fun a201 => ret (a200, a201))) [] xs) fun v_seen188 => (bnd (bnd (bnd (bnd (ret u) fun a202 => ret a202.1) fun a205 => bnd (bnd (ret v_seen188) fun a203 => bnd (ret ()) fun a204 => ret (a203, a204)) fun a206 => ret (a205, a206)) fun q207 => bnd (subM (m_Tape_DinitD (q207.1, q207.2.1)) TS0.new) fun r208 => tapeM r208.2) fun a209 => ret (.rt a209)))
def m_Tape_turned (u : (Int × List (Int × Int))) : SM Unit (Int × List (Int × Int)) := runB (o_Tape_turned u)
def o__law_td_pick (u : Int) : SM (List Int) (Fl Empty Empty Int) := (bnd (bnd (bnd (ret 0) fun a210 => stIx a210) fun a211 => bnd (ret 1) fun a212 => ret (decide (a212 < a211))) fun k213 => if k213 then esc (bnd (bnd (bnd (bnd (ret 0) fun a218 => stIx a218) fun a219 => ret a219) fun a221 => bnd (ret u) fun a222 => modM a221 a222) fun v_law_drawn214 => (bnd (bnd (bnd (ret 0) fun a224 => stIx a224) fun a225 => bnd (ret u) fun a226 => divWM a225 a226) fun a227 => bnd (ret 0) fun a228 => bnd (stSet a228 a227) fun _ => (bnd (ret v_law_drawn214) fun a229 => ret (.rt a229)))) else (bnd (bnd (bnd (ret 2) fun a231 => stIx a231) fun a232 => bnd (ret 1) fun a233 => ret (a232 + a233)) fun a234 => bnd (ret 2) fun a235 => bnd (stSet a235 a234) fun _ => (bnd (bnd (bnd (bnd (bnd (bnd (ret 1) fun a267 => stIx a267) fun a271 => bnd (bnd (ret 1300190417) fun a269 => bnd (bnd (ret 2) fun a268 => stIx a268) fun a270 => mulWM a269 a270) fun a272 => ret (a271 + a272)) fun a273 => ret a273) fun a275 => bnd (ret 3) fun a276 => powM a275 a276) fun a283 => bnd (bnd (bnd (ret 10) fun a279 => bnd (ret 40) fun a280 => powM a279 a280) fun a281 => bnd (ret 121) fun a282 => ret (a281 + a282)) fun a284 => modM a283 a284) fun v_law_stirred236 => (bnd (bnd (bnd (bnd (bnd (ret v_law_stirred236) fun a312 => bnd (bnd (ret 15485863) fun a310 => bnd (bnd (ret 2) fun a309 => stIx a309) fun a311 => mulWM a310 a311) fun a313 => ret (a312 + a313)) fun a314 => ret a314) fun a316 => bnd (ret 2) fun a317 => powM a316 a317) fun a324 => bnd (bnd (bnd (ret 10) fun a320 => bnd (ret 36) fun a321 => powM a320 a321) fun a322 => bnd (ret 67) fun a323 => ret (a322 + a323)) fun a325 => modM a324 a325) fun v_law_stirred285 => (bnd (bnd (bnd (bnd (ret v_law_stirred285) fun a330 => bnd (ret 4096) fun a331 => divWM a330 a331) fun a332 => ret a332) fun a334 => bnd (ret u) fun a335 => modM a334 a335) fun a336 => ret (.rt a336))))))
def m__law_td_pick (u : Int) : SM (List Int) Int := runB (o__law_td_pick u)
def o__law_td_shape (u : Int) : SM (List Int) (Fl Empty Empty (Int × (List (Int × Int)))) := (bnd (bnd (bnd (ret ()) fun _ => bnd (bnd (bnd (ret u) fun a338 => bnd (ret 1) fun a339 => ret (a338 + a339)) fun a340 => bnd (ret ()) fun a341 => ret (a340, a341)) fun a343 => ret ((), a343)) fun q342 => m__law_td_pick q342.2.1) fun v_law_many337 => (bnd (bnd (ret 54) fun a347 => bnd (bnd (ret 1) fun a345 => bnd (ret v_law_many337) fun a346 => ret (if a346 > a345 then a346 else a345)) fun a348 => divM a347 a348) fun v_law_top344 => (bnd (bnd (bnd (ret ()) fun _ => bnd (bnd (ret 3) fun a349 => bnd (ret ()) fun a350 => ret (a349, a350)) fun a352 => ret ((), a352)) fun q351 => m__law_td_pick q351.2.1) fun v_law_spot354 => (bnd (bnd (ret []) fun l353 => bnd (lenG l353) fun _ => ret l353) fun v_law_found355 => (bnd (bnd (ret v_law_many337) fun a358 => bnd (rngG a358) fun _ => ret (upto 0 a358.toNat)) fun xs => lpM (forM_ xs (fun (l356 : ((List (Int × Int)) × Int)) x359 => (bnd (bnd (ret 1) fun a378 => bnd (bnd (bnd (ret ()) fun _ => bnd (bnd (bnd (bnd (bnd (ret 2) fun a365 => bnd (bnd (bnd (ret v_law_top344) fun a363 => bnd (ret 2) fun a364 => ret (a363 - a364)) fun a361 => bnd (ret []) fun l362 => ret (a361 :: l362)) fun l366 => ret (a365 :: l366)) fun l367 => bnd (lenG l367) fun _ => ret l367) fun a368 => bnd (bnd (bnd (ret ()) fun _ => bnd (bnd (ret 2) fun a369 => bnd (ret ()) fun a370 => ret (a369, a370)) fun a372 => ret ((), a372)) fun q371 => m__law_td_pick q371.2.1) fun a373 => ixM a368 a373) fun a374 => bnd (ret ()) fun a375 => ret (a374, a375)) fun a377 => ret ((), a377)) fun q376 => m__law_td_pick q376.2.1) fun a379 => ret (a378 + a379)) fun v_law_size360 => (bnd (bnd (ret l356.2) fun a382 => bnd (bnd (ret l356.2) fun a380 => bnd (ret v_law_size360) fun a381 => ret (a380 + a381)) fun a383 => ret (a382, a383)) fun a384 => bnd (pushM l356.1 a384) fun v_law_found385 => (bnd (bnd (bnd (ret l356.2) fun a389 => bnd (ret v_law_size360) fun a390 => ret (a389 + a390)) fun a406 => bnd (bnd (bnd (bnd (ret 0) fun a397 => bnd (bnd (bnd (bnd (ret ()) fun _ => bnd (bnd (ret 3) fun a393 => bnd (ret ()) fun a394 => ret (a393, a394)) fun a396 => ret ((), a396)) fun q395 => m__law_td_pick q395.2.1) fun a391 => bnd (ret []) fun l392 => ret (a391 :: l392)) fun l398 => ret (a397 :: l398)) fun l399 => bnd (lenG l399) fun _ => ret l399) fun a400 => bnd (bnd (bnd (ret ()) fun _ => bnd (bnd (ret 2) fun a401 => bnd (ret ()) fun a402 => ret (a401, a402)) fun a404 => ret ((), a404)) fun q403 => m__law_td_pick q403.2.1) fun a405 => ixM a400 a405) fun a407 => ret (a406 + a407)) fun v_law_spot386 => (ret (.nx (v_law_found385, v_law_spot386))))))) (v_law_found355, v_law_spot354)) fun l356 => (bnd (bnd (bnd (ret 1) fun a414 => bnd (bnd (ret l356.2) fun a412 => bnd (bnd (bnd (ret ()) fun _ => bnd (bnd (ret 4) fun a408 => bnd (ret ()) fun a409 => ret (a408, a409)) fun a411 => ret ((), a411)) fun q410 => m__law_td_pick q410.2.1) fun a413 => ret (a412 + a413)) fun a415 => ret (if a415 > a414 then a415 else a414)) fun a416 => bnd (ret l356.1) fun a417 => ret (a416, a417)) fun a418 => ret (.rt a418)))))))
def m__law_td_shape (u : Int) : SM (List Int) (Int × (List (Int × Int))) := runB (o__law_td_shape u)
def o__law_td_wide_shape (u : Unit) : SM (List Int) (Fl Empty Empty (Int × (List (Int × Int)))) := (bnd (bnd (bnd (ret ()) fun _ => bnd (bnd (ret 9000) fun a419 => bnd (ret ()) fun a420 => ret (a419, a420)) fun a422 => ret ((), a422)) fun q421 => m__law_td_pick q421.2.1) fun v_law_spot424 => (bnd (bnd (ret []) fun l423 => bnd (lenG l423) fun _ => ret l423) fun v_law_found425 => (bnd (bnd (bnd (bnd (bnd (bnd (bnd (ret ()) fun _ => bnd (bnd (ret 61) fun a435 => bnd (ret ()) fun a436 => ret (a435, a436)) fun a438 => ret ((), a438)) fun q437 => m__law_td_pick q437.2.1) fun a433 => bnd (bnd (ret 60) fun a431 => bnd (ret []) fun l432 => ret (a431 :: l432)) fun l434 => ret (a433 :: l434)) fun l439 => bnd (lenG l439) fun _ => ret l439) fun a440 => bnd (bnd (bnd (ret ()) fun _ => bnd (bnd (ret 2) fun a441 => bnd (ret ()) fun a442 => ret (a441, a442)) fun a444 => ret ((), a444)) fun q443 => m__law_td_pick q443.2.1) fun a445 => ixM a440 a445) fun a447 => bnd (rngG a447) fun _ => ret (upto 0 a447.toNat)) fun xs => lpM (forM_ xs (fun (l426 : ((List (Int × Int)) × Int)) x448 => (bnd (bnd (ret 1) fun a454 => bnd (bnd (bnd (ret ()) fun _ => bnd (bnd (ret 9000) fun a450 => bnd (ret ()) fun a451 => ret (a450, a451)) fun a453 => ret ((), a453)) fun q452 => m__law_td_pick q452.2.1) fun a455 => ret (a454 + a455)) fun v_law_size449 => (bnd (bnd (ret l426.2) fun a458 => bnd (bnd (ret l426.2) fun a456 => bnd (ret v_law_size449) fun a457 => ret (a456 + a457)) fun a459 => ret (a458, a459)) fun a460 => bnd (pushM l426.1 a460) fun v_law_found461 => (bnd (bnd (bnd (ret l426.2) fun a465 => bnd (ret v_law_size449) fun a466 => ret (a465 + a466)) fun a482 => bnd (bnd (bnd (bnd (ret 0) fun a473 => bnd (bnd (bnd (bnd (ret ()) fun _ => bnd (bnd (ret 7000) fun a469 => bnd (ret ()) fun a470 => ret (a469, a470)) fun a472 => ret ((), a472)) fun q471 => m__law_td_pick q471.2.1) fun a467 => bnd (ret []) fun l468 => ret (a467 :: l468)) fun l474 => ret (a473 :: l474)) fun l475 => bnd (lenG l475) fun _ => ret l475) fun a476 => bnd (bnd (bnd (ret ()) fun _ => bnd (bnd (ret 2) fun a477 => bnd (ret ()) fun a478 => ret (a477, a478)) fun a480 => ret ((), a480)) fun q479 => m__law_td_pick q479.2.1) fun a481 => ixM a476 a481) fun a483 => ret (a482 + a483)) fun v_law_spot462 => (ret (.nx (v_law_found461, v_law_spot462))))))) (v_law_found425, v_law_spot424)) fun l426 => (bnd (bnd (bnd (ret 1) fun a490 => bnd (bnd (ret l426.2) fun a488 => bnd (bnd (bnd (ret ()) fun _ => bnd (bnd (ret 9000) fun a484 => bnd (ret ()) fun a485 => ret (a484, a485)) fun a487 => ret ((), a487)) fun q486 => m__law_td_pick q486.2.1) fun a489 => ret (a488 + a489)) fun a491 => ret (if a491 > a490 then a491 else a490)) fun a492 => bnd (ret l426.1) fun a493 => ret (a492, a493)) fun a494 => ret (.rt a494)))))
def m__law_td_wide_shape (u : Unit) : SM (List Int) (Int × (List (Int × Int))) := runB (o__law_td_wide_shape u)
def o__law_td_tape (u : (Int × (List (Int × Int)))) : SM Unit (Fl Empty Empty (Int × List (Int × Int))) := (bnd (bnd (bnd (ret u) fun a496 => ret a496.2) fun a497 => ret a497) fun v_law_given495 => (bnd (bnd (bnd (bnd (ret u) fun a499 => ret a499.1) fun a500 => bnd (bnd (ret ()) fun ca500 => bnd (ret ()) fun da500 => ret (ca500, da500)) fun a501 => ret (a500, a501)) fun q502 => bnd (subM (m_Tape_DinitD (q502.1, v_law_given495)) TS0.new) fun r503 => tapeM r503.2) fun v_law_made498 => (bnd (bnd (ret 0) fun a504 => bnd (ret 1) fun a505 => ret (a504, a505)) fun a506 => bnd (pushM v_law_given495 a506) fun v_law_given507 => (bnd (ret v_law_made498) fun a508 => ret (.rt a508)))))
def m__law_td_tape (u : (Int × (List (Int × Int)))) : SM Unit (Int × List (Int × Int)) := runB (o__law_td_tape u)
def o__law_td_mirror (u : (Int × (List (Int × Int)))) : SM Unit (Fl Empty Empty (Int × (List (Int × Int)))) := (bnd (bnd (bnd (ret u) fun a509 => ret a509.1) fun a523 => bnd (bnd (bnd (bnd (ret u) fun a510 => ret a510.2) fun a511 => ret (a511).reverse) fun xs => lcM (fun x512 => lcIt (ret true) (bnd (bnd (bnd (ret u) fun a514 => ret a514.1) fun a515 => bnd (ret x512.2) fun a516 => ret (a515 - a516)) fun a521 => bnd (bnd (bnd (ret u) fun a518 => ret a518.1) fun a519 => bnd (ret x512.1) fun a520 => ret (a519 - a520)) fun a522 => ret (a521, a522))) [] xs) fun a524 => ret (a523, a524)) fun a525 => ret (.rt a525))
def m__law_td_mirror (u : (Int × (List (Int × Int)))) : SM Unit (Int × (List (Int × Int))) := runB (o__law_td_mirror u)
def o__law_td_is_only (u : ((Option Exn) × (List Bool))) : SM Unit (Fl Empty Empty Bool) := (bnd (bnd (bnd (ret u.1) fun a526 => isXM ([("InvalidTape", true), ("UnknownFile", true), ("InvalidFile", true)] : List (Str × Bool)) (a526)) fun a531 => if a531 then (bnd (bnd (ret u.1) fun a527 => isXM ([("InvalidTape", true), ("UnknownFile", true), ("InvalidFile", true)] : List (Str × Bool)) (a527)) fun a530 => if a530 then (bnd (ret true) fun a528 => bnd (ret u.2) fun a529 => ret (!((a529).any (· == a528)))) else ret false) else ret false) fun a532 => ret (.rt a532))
def m__law_td_is_only (u : ((Option Exn) × (List Bool))) : SM Unit Bool := runB (o__law_td_is_only u)
def o__law_td_unknown (u : ((Int × List (Int × Int)) × Int × Int)) : SM Unit (Fl Empty Empty Bool) := (bnd (ret none) fun v_law_caught533 => (thn_ (tryB (bnd (bnd (ret u.2.2) fun a572 => bnd (ret 0) fun a573 => ret (decide (a572 = a573))) fun k574 => thn_ (if k574 then (bnd (bnd (ret u.1) fun a594 => bnd (ret u.2.1) fun a595 => lft (m_Tape_DgetitemD (a594, a595))) fun _ => (ret (.nx ()))) else (bnd (bnd (ret u.2.2) fun a596 => bnd (ret 1) fun a597 => ret (decide (a596 = a597))) fun k598 => thn_ (if k598 then (bnd (bnd (ret u.1) fun a604 => bnd (ret u.2.1) fun a605 => lft (m_Tape_without (a604, a605))) fun _ => (ret (.nx ()))) else (bnd (bnd (ret u.1) fun a606 => bnd (ret u.2.1) fun a607 => lft (m_Tape_without (a606, a607))) fun _ => (ret (.nx ())))) fun n603 => (ret (.nx ())))) fun n591 => (ret (.nx v_law_caught533))) (ctIn (["InvalidTape", "UnknownFile", "InvalidFile"] : List Str)) (fun (ev534 : Exn) => ((some ev534) : (Option Exn)))) fun n571 => (bnd (bnd (bnd (bnd (ret n571) fun a612 => isXM ([("InvalidTape", true), ("UnknownFile", false), ("InvalidFile", true)] : List (Str × Bool)) (a612)) fun a610 => bnd (ret []) fun l611 => ret (a610 :: l611)) fun l613 => bnd (lenG l613) fun _ => ret l613) fun v_law_others608 => (bnd (bnd (bnd (bnd (ret n571) fun a616 => isXM ([("InvalidTape", false), ("UnknownFile", true), ("InvalidFile", false)] : List (Str × Bool)) (a616)) fun k617 => ret (!k617)) fun k630 => if k630 then ret true else (bnd (bnd (bnd (ret n571) fun a626 => bnd (bnd (ret v_law_others608) fun a624 => bnd (ret ()) fun a625 => ret (a624, a625)) fun a627 => ret (a626, a627)) fun q628 => lft (m__law_td_is_only (q628.1, q628.2.1))) fun k629 => ret (!k629))) fun k631 => if k631 then esc (bnd (ret false) fun a632 => ret (.rt a632)) else (bnd (bnd (bnd (bnd (ret n571) fun a642 => bnd (asM a642) fun e641 => bnd (grd (e641.cls ∈ (["InvalidTape", "UnknownFile", "InvalidFile"] : List Str))) fun _ => ret e641.pay) fun a643 => reprM (dPay a643)) fun a638 => bnd (bnd (ret u.2.1) fun a644 => reprM (PyData.int a644)) fun a639 => ret (decide (a638 = a639))) fun a645 => ret (.rt a645))))))
def m__law_td_unknown (u : ((Int × List (Int × Int)) × Int × Int)) : SM Unit Bool := runB (o__law_td_unknown u)
def o__law_td_is_shape (u : ((Int × List (Int × Int)) × (Int × (List (Int × Int))) × Int)) : SM Unit (Fl Empty Empty Bool) := (bnd (bnd (bnd (bnd (ret u.1) fun a650 => nxc (lft (m_Tape_length a650))) fun a648 => bnd (bnd (ret u.2.1) fun a651 => ret a651.1) fun a649 => ret (!decide (a648 = a649))) fun k669 => if k669 then ret true else (bnd (bnd (bnd (ret u.1) fun a660 => bnd (nxc (lft (m_Tape_DlenD a660))) fun a661 => bnd (grd (0 ≤ a661 ∧ a661 < 2 ^ 63)) fun _ => ret a661) fun a657 => bnd (bnd (bnd (ret u.2.1) fun a662 => ret a662.2) fun a663 => ret ((a663).length : Int)) fun a658 => ret (!decide (a657 = a658))) fun k668 => if k668 then ret true else (bnd (bnd (ret u.1) fun a664 => nxc (lft (m_Tape_files a664))) fun a666 => bnd (bnd (ret u.2.1) fun a665 => ret a665.2) fun a667 => neD ((dL (dP PyData.int PyData.int)) a666) ((dL (dP PyData.int PyData.int)) a667)))) fun k670 => if k670 then esc (bnd (ret false) fun a671 => ret (.rt a671)) else (bnd (bnd (bnd (ret u.2.2) fun a674 => bnd (bnd (bnd (ret u.2.1) fun a672 => ret a672.2) fun a673 => ret ((a673).length : Int)) fun a675 => ret (decide (a674 < a675))) fun k685 => if k685 then (bnd (bnd (ret u.1) fun a678 => bnd (ret u.2.2) fun a679 => nxc (lft (m_Tape_DgetitemD (a678, a679)))) fun a683 => bnd (bnd (bnd (ret u.2.1) fun a680 => ret a680.2) fun a681 => bnd (ret u.2.2) fun a682 => ixM a681 a682) fun a684 => neD ((dP PyData.int PyData.int) a683) ((dP PyData.int PyData.int) a684)) else ret false) fun k686 => if k686 then esc (bnd (ret false) fun a687 => ret (.rt a687)) else (bnd (bnd (bnd (ret u.1) fun a699 => bnd (bnd (bnd (bnd (ret u.2.1) fun a703 => ret a703.1) fun a708 => bnd (bnd (bnd (bnd (ret u.2.1) fun a704 => ret a704.2) fun a705 => ret a705) fun a706 => bnd (ret ()) fun a707 => ret (a706, a707)) fun a709 => ret (a708, a709)) fun q710 => bnd (subM (m_Tape_DinitD (q710.1, q710.2.1)) TS0.new) fun r711 => tapeM r711.2) fun a700 => nxc (lft (m_Tape_DeqD (a699, a700)))) fun a713 => if a713 then (bnd (ret u.1) fun a712 => ret true) else ret false) fun a714 => ret (.rt a714))))
def m__law_td_is_shape (u : ((Int × List (Int × Int)) × (Int × (List (Int × Int))) × Int)) : SM Unit Bool := runB (o__law_td_is_shape u)
def o__law_td_right (u : Unit) : SM (List Int) (Fl Empty Empty Bool) := (bnd (bnd (bnd (bnd (bnd (ret ()) fun _ => bnd (bnd (ret 4) fun a722 => bnd (ret ()) fun a723 => ret (a722, a723)) fun a725 => ret ((), a725)) fun q724 => m__law_td_pick q724.2.1) fun a720 => bnd (ret 0) fun a721 => ret (decide (a720 = a721))) fun k732 => if k732 then (bnd (bnd (ret ()) fun _ => bnd (ret ()) fun a727 => ret ((), a727)) fun q726 => m__law_td_wide_shape ()) else (bnd (bnd (ret ()) fun _ => bnd (bnd (ret 8) fun a728 => bnd (ret ()) fun a729 => ret (a728, a729)) fun a731 => ret ((), a731)) fun q730 => m__law_td_shape q730.2.1)) fun v_law_shape715 => (bnd (bnd (bnd (ret v_law_shape715) fun a734 => bnd (ret ()) fun a735 => ret (a734, a735)) fun q736 => lft (m__law_td_tape q736.1)) fun v_law_made733 => (bnd (bnd (bnd (bnd (ret v_law_made733) fun a740 => bnd (ret v_law_shape715) fun a741 => ret (a740, a741)) fun a738 => bnd (ret []) fun l739 => ret (a738 :: l739)) fun l742 => bnd (lenG l742) fun _ => ret l742) fun v_law_kept737 => (bnd (bnd (bnd (ret 1) fun a748 => bnd (bnd (bnd (ret ()) fun _ => bnd (bnd (ret 12) fun a744 => bnd (ret ()) fun a745 => ret (a744, a745)) fun a747 => ret ((), a747)) fun q746 => m__law_td_pick q746.2.1) fun a749 => ret (a748 + a749)) fun a751 => bnd (rngG a751) fun _ => ret (upto 0 a751.toNat)) fun xs => lpM (forM_ xs (fun (l743 : ((List ((Int × List (Int × Int)) × (Int × (List (Int × Int))))) × (Int × (List (Int × Int))))) x752 => (bnd (bnd (ret ()) fun a753 => bnd (bnd (bnd (bnd (bnd (bnd (ret ()) fun a768 => ret ((l743.1).length : Int)) fun a769 => bnd (ret 1) fun a770 => ret (a769 - a770)) fun a765 => bnd (bnd (bnd (bnd (ret ()) fun _ => bnd (bnd (bnd (ret ()) fun a760 => ret ((l743.1).length : Int)) fun a761 => bnd (ret ()) fun a762 => ret (a761, a762)) fun a764 => ret ((), a764)) fun q763 => m__law_td_pick q763.2.1) fun a758 => bnd (ret []) fun l759 => ret (a758 :: l759)) fun l766 => ret (a765 :: l766)) fun l771 => bnd (lenG l771) fun _ => ret l771) fun a772 => bnd (bnd (bnd (ret ()) fun _ => bnd (bnd (ret 2) fun a773 => bnd (ret ()) fun a774 => ret (a773, a774)) fun a776 => ret ((), a776)) fun q775 => m__law_td_pick q775.2.1) fun a777 => ixM a772 a777) fun a778 => ixM l743.1 a778) fun w779 => (bnd (bnd (bnd (ret w779.2) fun a780 => ret a780.2) fun a781 => ret ((a781).length : Int)) fun v_law_many786 => (bnd (bnd (bnd (ret ()) fun _ => bnd (bnd (ret 4) fun a782 => bnd (ret ()) fun a783 => ret (a782, a783)) fun a785 => ret ((), a785)) fun q784 => m__law_td_pick q784.2.1) fun v_law_mode787 => (bnd (bnd (bnd (ret ()) fun _ => bnd (bnd (bnd (ret v_law_many786) fun a789 => bnd (ret 1) fun a790 => ret (a789 + a790)) fun a791 => bnd (ret ()) fun a792 => ret (a791, a792)) fun a794 => ret ((), a794)) fun q793 => m__law_td_pick q793.2.1) fun v_law_spot788 => (bnd (bnd (bnd (ret v_law_mode787) fun a795 => bnd (ret 0) fun a796 => ret (decide (a795 = a796))) fun k799 => if k799 then ret true else (bnd (ret v_law_spot788) fun a797 => bnd (ret v_law_many786) fun a798 => ret (decide (a797 = a798)))) fun k800 => thn_ (if k800 then (bnd (bnd (bnd (ret v_law_many786) fun a1015 => bnd (bnd (bnd (ret v_law_many786) fun a1013 => bnd (ret 1) fun a1014 => ret (a1013 + a1014)) fun a1011 => bnd (bnd (bnd (ret 1) fun a1010 => ret (-a1010)) fun a1008 => bnd (bnd (bnd (bnd (ret 1) fun a1005 => ret (-a1005)) fun a1006 => bnd (ret v_law_many786) fun a1007 => ret (a1006 - a1007)) fun a1002 => bnd (bnd (bnd (bnd (ret 1) fun a993 => ret (-a993)) fun a1000 => bnd (bnd (bnd (ret ()) fun _ => bnd (bnd (bnd (ret 10) fun a994 => bnd (ret 30) fun a995 => powM a994 a995) fun a996 => bnd (ret ()) fun a997 => ret (a996, a997)) fun a999 => ret ((), a999)) fun q998 => m__law_td_pick q998.2.1) fun a1001 => ret (a1000 - a1001)) fun a990 => bnd (bnd (bnd (ret v_law_many786) fun a988 => bnd (bnd (ret 10) fun a986 => bnd (ret 29) fun a987 => powM a986 a987) fun a989 => ret (a988 + a989)) fun a984 => bnd (ret []) fun l985 => ret (a984 :: l985)) fun l991 => ret (a990 :: l991)) fun l1003 => ret (a1002 :: l1003)) fun l1009 => ret (a1008 :: l1009)) fun l1012 => ret (a1011 :: l1012)) fun l1016 => ret (a1015 :: l1016)) fun l1017 => bnd (lenG l1017) fun _ => ret l1017) fun v_law_odd983 => (bnd (bnd (bnd (bnd (ret w779.1) fun a1050 => bnd (bnd (bnd (ret v_law_odd983) fun a1036 => bnd (bnd (bnd (ret ()) fun _ => bnd (bnd (ret 6) fun a1037 => bnd (ret ()) fun a1038 => ret (a1037, a1038)) fun a1040 => ret ((), a1040)) fun q1039 => m__law_td_pick q1039.2.1) fun a1041 => ixM a1036 a1041) fun a1048 => bnd (bnd (bnd (bnd (ret ()) fun _ => bnd (bnd (ret 3) fun a1042 => bnd (ret ()) fun a1043 => ret (a1042, a1043)) fun a1045 => ret ((), a1045)) fun q1044 => m__law_td_pick q1044.2.1) fun a1046 => bnd (ret ()) fun a1047 => ret (a1046, a1047)) fun a1049 => ret (a1048, a1049)) fun a1051 => ret (a1050, a1051)) fun q1052 => lft (m__law_td_unknown (q1052.1, q1052.2.1, q1052.2.2.1))) fun k1053 => ret (!k1053)) fun k1054 => if k1054 then esc (bnd (ret false) fun a1055 => ret (.rt a1055)) else (ret (.nx l743.1)))) else (bnd (bnd (ret v_law_mode787) fun a1056 => bnd (ret 1) fun a1057 => ret (decide (a1056 = a1057))) fun k1058 => thn_ (if k1058 then (bnd (bnd (bnd (ret w779.1) fun a1112 => lft (m_Tape_turned a1112)) fun a1116 => bnd (bnd (bnd (ret w779.2) fun a1113 => bnd (ret ()) fun a1114 => ret (a1113, a1114)) fun q1115 => lft (m__law_td_mirror q1115.1)) fun a1117 => ret (a1116, a1117)) fun a1118 => bnd (pushM l743.1 a1118) fun v_law_kept1119 => (bnd (bnd (bnd (bnd (bnd (ret ()) fun a1127 => bnd (bnd (ret 1) fun a1128 => ret (-a1128)) fun a1129 => ixM v_law_kept1119 a1129) fun a1130 => ret a1130.1) fun a1131 => lft (m_Tape_turned a1131)) fun a1125 => bnd (ret w779.1) fun a1126 => bnd (nxc (lft (m_Tape_DeqD (a1125, a1126)))) fun k1132 => ret (!k1132)) fun k1133 => if k1133 then esc (bnd (ret false) fun a1134 => ret (.rt a1134)) else (ret (.nx v_law_kept1119)))) else (bnd (bnd (bnd (ret v_law_mode787) fun a1136 => bnd (ret 2) fun a1137 => ret (decide (a1136 = a1137))) fun k1142 => if k1142 then (bnd (ret w779.1) fun a1138 => bnd (ret v_law_spot788) fun a1139 => lft (m_Tape_without (a1138, a1139))) else (bnd (ret w779.1) fun a1140 => bnd (ret v_law_spot788) fun a1141 => lft (m_Tape_without (a1140, a1141)))) fun v_law_came1135 => (bnd (bnd (ret v_law_came1135) fun a1160 => bnd (bnd (bnd (ret w779.2) fun a1143 => ret a1143.1) fun a1158 => bnd (bnd (bnd (bnd (ret w779.2) fun a1144 => ret a1144.2) fun a1145 => bnd (ret none) fun a1147 => bnd (bnd (ret v_law_spot788) fun a1146 => ret (some a1146)) fun a1148 => ret (cutL a1145 a1147 a1148)) fun a1156 => bnd (bnd (bnd (ret w779.2) fun a1149 => ret a1149.2) fun a1150 => bnd (bnd (bnd (ret v_law_spot788) fun a1151 => bnd (ret 1) fun a1152 => ret (a1151 + a1152)) fun a1153 => ret (some a1153)) fun a1154 => bnd (ret none) fun a1155 => ret (cutL a1150 a1154 a1155)) fun a1157 => catM a1156 a1157) fun a1159 => ret (a1158, a1159)) fun a1161 => ret (a1160, a1161)) fun a1162 => bnd (pushM l743.1 a1162) fun v_law_kept1163 => (ret (.nx v_law_kept1163))))) fun n1111 => (ret (.nx n1111)))) fun n982 => (bnd (bnd (ret w779.1) fun a1164 => nxc (lft (m_Tape_files a1164))) fun a1167 => bnd (bnd (ret 0) fun a1165 => bnd (ret 1) fun a1166 => ret (a1165, a1166)) fun a1168 => bnd (pushM a1167 a1168) fun _ => (bnd (bnd (bnd (bnd (ret ()) fun a1170 => bnd (bnd (ret 1) fun a1171 => ret (-a1171)) fun a1172 => ixM n982 a1172) fun a1175 => bnd (bnd (ret w779.1) fun a1173 => bnd (ret w779.2) fun a1174 => ret (a1173, a1174)) fun a1176 => ret (a1175, a1176)) fun a1177 => ret [a1177.1, a1177.2]) fun xs => lpM (forM_ xs (fun (l1169 : Unit) x1178 => (bnd (bnd (bnd (bnd (ret x1178.1) fun a1199 => bnd (bnd (ret x1178.2) fun a1197 => bnd (bnd (bnd (bnd (ret ()) fun _ => bnd (bnd (ret 60) fun a1191 => bnd (ret ()) fun a1192 => ret (a1191, a1192)) fun a1194 => ret ((), a1194)) fun q1193 => m__law_td_pick q1193.2.1) fun a1195 => bnd (ret ()) fun a1196 => ret (a1195, a1196)) fun a1198 => ret (a1197, a1198)) fun a1200 => ret (a1199, a1200)) fun q1201 => lft (m__law_td_is_shape (q1201.1, q1201.2.1, q1201.2.2.1))) fun k1202 => ret (!k1202)) fun k1203 => if k1203 then esc (bnd (ret false) fun a1204 => ret (.rt a1204)) else (ret (.nx ())))) ()) fun l1169 => (ret (.nx (n982, w779.2))))))))))) (v_law_kept737, v_law_shape715)) fun l743 => (bnd (bnd (bnd (ret l743.1) fun xs => lcM (fun x1206 => lcIt (bnd (bnd (bnd (bnd (ret x1206) fun a1208 => ret a1208.1) fun a1207 => nxc (lft (m_Tape_files a1207))) fun a1211 => bnd (bnd (bnd (ret x1206) fun a1209 => ret a1209.2) fun a1210 => ret a1210.2) fun a1212 => neD ((dL (dP PyData.int PyData.int)) a1211) ((dL (dP PyData.int PyData.int)) a1212)) fun k1223 => if k1223 then ret true else (bnd (bnd (bnd (ret x1206) fun a1220 => ret a1220.1) fun a1219 => nxc (lft (m_Tape_length a1219))) fun a1217 => bnd (bnd (bnd (ret x1206) fun a1221 => ret a1221.2) fun a1222 => ret a1222.1) fun a1218 => ret (!decide (a1217 = a1218)))) (ret x1206)) [] xs) fun a1225 => bnd (bnd (ret []) fun l1224 => bnd (lenG l1224) fun _ => ret l1224) fun a1226 => emptyG a1225 (a1226 : (List ((Int × List (Int × Int)) × (Int × (List (Int × Int))))))) fun a1227 => ret (.rt a1227))))))
def m__law_td_right (u : Unit) : SM (List Int) Bool := runB (o__law_td_right u)
def o_law (u : (List Int)) : SM Unit (Fl Empty Empty Bool) := (bnd (bnd (bnd (ret 1) fun a1232 => bnd (bnd (ret 10) fun a1230 => bnd (bnd (ret u) fun a1229 => ret ((a1229).length : Int)) fun a1231 => ret (if a1231 < a1230 then a1231 else a1230)) fun a1233 => ret (if a1233 > a1232 then a1233 else a1232)) fun a1235 => bnd (rngG a1235) fun _ => ret (upto 0 a1235.toNat)) fun xs => lpM (forM_ xs (fun (l1228 : Unit) x1236 => (bnd (bnd (bnd (bnd (bnd (bnd (ret u) fun a1250 => bnd (bnd (ret x1236) fun a1248 => bnd (ret ()) fun a1249 => ret (a1248, a1249)) fun a1251 => ret (a1250, a1251)) fun q1252 => lft (m__law_td_sack (q1252.1, q1252.2.1))) fun a1253 => bnd (ret ()) fun a1254 => ret (a1253, a1254)) fun q1247 => bnd (subM (m__law_td_right ()) q1247.1) fun r1255 => ret r1255.1) fun k1256 => ret (!k1256)) fun k1257 => if k1257 then esc (bnd (ret false) fun a1258 => ret (.rt a1258)) else (ret (.nx ())))) ()) fun l1228 => (bnd (ret true) fun a1259 => ret (.rt a1259)))
def m_law (u : (List Int)) : SM Unit Bool := runB (o_law u)
end Tk

set_option Elab.async false
set_option linter.all false
set_option maxRecDepth 100000
set_option maxHeartbeats 4000000
namespace Tk
open PySem PySem.Spec PyProof.Rows L2 He Td
section
variable {P : Program} {w : World} {K : PySem.W.Frag} {mg : Str → Option Value} {base : Heap} {fd : FuncData}
theorem sc_Tape_DlenD : FnScope ["self"] ["self"] (defScope (Hd.ms 9 4)) := ⟨rfl, rfl, rfl, by decide +kernel, rfl, by decide +kernel, by decide +kernel⟩
theorem ok_Tape_DlenD (f_len : mg "len" = none) (t_cls : TapeCls K) (FD : FunD K "__len__" "Tape.__len__" (defArgs (Hd.ms 9 4)) (defBody (Hd.ms 9 4)) (defScope (Hd.ms 9 4)) [] [] (He.ma K (tapeC K) "__len__") fd) : FnOk P w K mg base (L2.CX P w) 1 (He.ma K (tapeC K) "__len__") fd ["self"] (SpP K 1 (fun u : (Int × List (Int × Int)) => [.is (sh rTape) u]) rInt m_Tape_DlenD) :=
  fn_pure (k := 0) FD sc_Tape_DlenD o_Tape_DlenD (fun _ => rfl) fun u cdv A outer s H E hr F hio hW => ⟨_, (bx_nf (fun s => [.is (sh rTape) u]) (fun _ => rfl) (bx_ret (ex_lenT (eo_t (ex_kept t_cls (eo_t (ex_var 0 cp_sh fun _ => rfl)) fun _ _ => .ts)) (fun _ _ => .t) rfl f_len) (wio hio fun _ => (.un .nil))))⟩
theorem sc_TapeError_DinitD : FnScope ["self", "value"] ["self", "value"] (defScope (Hd.ms 1 0)) := ⟨rfl, rfl, rfl, by decide +kernel, rfl, by decide +kernel, by decide +kernel⟩
theorem ok_TapeError_DinitD (f_ValueError : mg "ValueError" = none) (t_vvi : PySem.W.findCls K (.type "ValueError") (.type "type") "__init__" = some (.val (.builtin "ValueError.__init__"))) (FD : FunD K "__init__" "TapeError.__init__" (defArgs (Hd.ms 1 0)) (defBody (Hd.ms 1 0)) (defScope (Hd.ms 1 0)) [] [] (He.ma K (ga K "TapeError") "__init__") fd) : FnOk P w K mg base (L2.CX P w) 1 (He.ma K (ga K "TapeError") "__init__") fd ["self", "value"] (spX K) :=
  fn_xinit (k := 0) FD sc_TapeError_DinitD rfl rfl (fun _ _ _ _ _ _ => ⟨_, rfl⟩) f_ValueError t_vvi
theorem sc_Tape_DinitD : FnScope ["self", "length", "files", "begin", "edge", "end"] ["self", "length", "files"] (defScope (Hd.ms 9 1)) := ⟨rfl, rfl, rfl, by decide +kernel, rfl, by decide +kernel, by decide +kernel⟩
theorem ok_Tape_DinitD (f_tuple : mg "tuple" = none) (t_cls : TapeCls K) (t_xc_InvalidFile : XCls K "InvalidFile" (He.ma K (ga K "TapeError") "__init__")) (t_xc_InvalidTape : XCls K "InvalidTape" (He.ma K (ga K "TapeError") "__init__")) (g_InvalidFile : mg "InvalidFile" = some (.ref (ga K "InvalidFile"))) (g_InvalidTape : mg "InvalidTape" = some (.ref (ga K "InvalidTape"))) {d_TapeError_DinitD : FuncData} (c_TapeError_DinitD : FnOk P w K mg base (L2.CX P w) 1 (He.ma K (ga K "TapeError") "__init__") d_TapeError_DinitD ["self", "value"] (spX K)) (b_TapeError_DinitD : Binds K d_TapeError_DinitD ["self", "value"] []) (FD : FunD K "__init__" "Tape.__init__" (defArgs (Hd.ms 9 1)) (defBody (Hd.ms 9 1)) (defScope (Hd.ms 9 1)) [] [] (He.ma K (tapeC K) "__init__") fd) : FnOk P w K mg base (L2.CX P w) 3 (He.ma K (tapeC K) "__init__") fd ["self", "length", "files"] (SpI K 3 rSelf (fun u : (Int × (List (Int × Int))) => [.is rInt u.1, .is (sh (rList (rPair rInt rInt))) u.2]) rNon m_Tape_DinitD) :=
  fn_ioP (k := 2) FD sc_Tape_DinitD o_Tape_DinitD (fun _ => rfl) fun u v0 cdv A outer s H E hr F hio hW => ⟨_, (bx_nf (fun s => [.pn v0 rSelf s, .is rInt u.1, .is (sh (rList (rPair rInt rInt))) u.2, .un, .un, .un]) (fun _ => rfl) (bx_ifr (GE_ := fun e _ => e.elim) (et_cmp op_lt (vo_B0 fun i j => decide (i < j)) (fun _ _ => stl_ret _) (ex_var 1 cp_int fun _ => rfl) ex_int rfl) (bx_nf (fun s => [.pn v0 rSelf s, .is rInt u.1, .is (sh (rList (rPair rInt rInt))) u.2, .un, .un, .un]) (fun _ => rfl) (bx_raise (pay := (fun a => .int a)) rfl (takes_of rfl rfl rfl rfl) hW t_xc_InvalidTape c_TapeError_DinitD (hr.mono (by decide)) b_TapeError_DinitD (passes_nx rfl) rfl g_InvalidTape (fun h => h) (ex_var 1 cp_int fun _ => rfl) (wios hio fun _ => (.eq (.un (.un (.eq (.eq (.eq .nil))))))))) (bx_nf (fun s => [.pn v0 rSelf s, .is rInt u.1, .is (sh (rList (rPair rInt rInt))) u.2, .un, .un, .un]) (fun _ => rfl) (bx_asg 4 sc_Tape_DinitD.nd ex_int (fun v_edge8 => (bx_nf (fun s => [.pn v0 rSelf s, .is rInt u.1, .is (sh (rList (rPair rInt rInt))) u.2, .un, .is rInt v_edge8, .un]) (fun _ => rfl) (bx_for (Gt := fun (l9 : Int) s (x10 : (Int × Int)) => [.pn v0 rSelf s, .is rInt u.1, .is (sh (rList (rPair rInt rInt))) u.2, .is rInt x10.1, .is rInt l9, .is rInt x10.2]) (passes_of rfl) rfl (fun (l9 : Int) s => [.pn v0 rSelf s, .is rInt u.1, .is (sh (rList (rPair rInt rInt))) u.2, .un, .is rInt l9, .un]) v_edge8 (ei_sh (ex_var 2 cp_sh fun _ => rfl) (cp_pair cp_int cp_int)) (fun _ => (.eq (.eq (.eq (.eq (.eq (.eq .nil))))))) (fun _ _ => trivial) (fun l9 _ => (eg_pair rfl (eg_name (i := 3) rfl sc_Tape_DinitD.nd) (fun _ => (eg_name (i := 5) rfl sc_Tape_DinitD.nd)) inferInstance)) (fun l9 x10 => (bx_nf (fun s => [.pn v0 rSelf s, .is rInt u.1, .is (sh (rList (rPair rInt rInt))) u.2, .is rInt x10.1, .is rInt l9, .is rInt x10.2]) (fun _ => rfl) (bx_ifr (GE_ := fun e _ => e.elim) (et_not (et_chain3 ci_le ci_lt ci_le (ex_var 4 cp_int fun _ => rfl) (ex_var 3 cp_int fun _ => rfl) (ex_var 5 cp_int fun _ => rfl) (ex_var 1 cp_int fun _ => rfl))) (bx_nf (fun s => [.pn v0 rSelf s, .is rInt u.1, .is (sh (rList (rPair rInt rInt))) u.2, .is rInt x10.1, .is rInt l9, .is rInt x10.2]) (fun _ => rfl) (bx_raise (pay := (fun (a : Int × Int) => .pair a.1 a.2)) rfl (takes_of rfl rfl rfl rfl) hW t_xc_InvalidFile c_TapeError_DinitD (hr.mono (by decide)) b_TapeError_DinitD (passes_nx rfl) rfl g_InvalidFile (fun h => h) (ex_tup2 (ex_var 3 cp_int fun _ => rfl) (ex_var 5 cp_int fun _ => rfl)) (wios hio fun _ => (.eq (.un (.un (.un (.un (.un .nil))))))))) (bx_nf (fun s => [.pn v0 rSelf s, .is rInt u.1, .is (sh (rList (rPair rInt rInt))) u.2, .is rInt x10.1, .is rInt l9, .is rInt x10.2]) (fun _ => rfl) (bx_asg 4 sc_Tape_DinitD.nd (ex_var 5 cp_int fun _ => rfl) (fun v_edge20 => (bx_end v_edge20 fun _ => (.eq (.eq (.eq (.un (.eq (.un .nil)))))))) inferInstance (fun _ => rfl)))))) (fun l9 => (bx_nf (fun s => [.pn v0 rSelf s, .is rInt u.1, .is (sh (rList (rPair rInt rInt))) u.2, .un, .is rInt l9, .un]) (fun _ => rfl) (bx_ext t_cls (ex_var 1 cp_int fun _ => rfl) (fun _ => rfl) (fun _ _ => rfl) (bx_nf (fun s => [.pn v0 rSelf s, .is rInt u.1, .is (sh (rList (rPair rInt rInt))) u.2, .un, .is rInt l9, .un]) (fun _ => rfl) (bx_kept t_cls (ex_tuple (eo_t (ex_var 2 cp_sh fun _ => rfl)) (cp_pair cp_int cp_int) (fun _ _ => .ts) rfl f_tuple) (fun _ => rfl) (fun _ _ => rfl) (bx_end () fun _ => (.eq (.un (.un (.eq (.un (.eq .nil)))))))))))) inferInstance inferInstance))) inferInstance (fun _ => rfl)))))⟩
theorem sc_Tape_DeqD : FnScope ["self", "other"] ["self", "other"] (defScope (Hd.ms 9 5)) := ⟨rfl, rfl, rfl, by decide +kernel, rfl, by decide +kernel, by decide +kernel⟩
theorem ok_Tape_DeqD (f_isinstance : mg "isinstance" = none) (t_cls : TapeCls K) (t_isi : SlX.SIsi K (tapeC K)) (g_Tape : mg "Tape" = some (.ref (tapeC K))) (FD : FunD K "__eq__" "Tape.__eq__" (defArgs (Hd.ms 9 5)) (defBody (Hd.ms 9 5)) (defScope (Hd.ms 9 5)) [] [] (He.ma K (tapeC K) "__eq__") fd) : FnOk P w K mg base (L2.CX P w) 1 (He.ma K (tapeC K) "__eq__") fd ["self", "other"] (SpP K 2 (fun u : ((Int × List (Int × Int)) × (Int × List (Int × Int))) => [.is (sh rTape) u.1, .is (sh rTape) u.2]) rBool m_Tape_DeqD) :=
  fn_pure (k := 0) FD sc_Tape_DeqD o_Tape_DeqD (fun _ => rfl) fun u cdv A outer s H E hr F hio hW => ⟨_, (bx_nf (fun s => [.is (sh rTape) u.1, .is (sh rTape) u.2]) (fun _ => rfl) (bx_ret (ex_and (ex_isTape t_cls t_isi (eo_t (ex_var 1 cp_sh fun _ => rfl)) (fun _ _ => .t) rfl f_isinstance rfl g_Tape) (ex_and (ex_cmp op_eq vo_eqI (fun _ _ => stl_ret _) (ex_extent t_cls (eo_t (ex_var 0 cp_sh fun _ => rfl)) fun _ _ => .ts) (ex_extent t_cls (eo_t (ex_var 1 cp_sh fun _ => rfl)) fun _ _ => .ts) rfl) (ex_one (ex_eqD hr.units (eo_t (ex_kept t_cls (eo_t (ex_var 0 cp_sh fun _ => rfl)) fun _ _ => .ts)) (eo_t (ex_kept t_cls (eo_t (ex_var 1 cp_sh fun _ => rfl)) fun _ _ => .ts)) (fun _ _ => .mk (en_TL (en_P enc_int enc_int)) .t) (fun _ _ => .mk (en_TL (en_P enc_int enc_int)) .t))))) (wio hio fun _ => (.un (.un .nil)))))⟩
theorem sc_Tape_DgetitemD : FnScope ["self", "index"] ["self", "index"] (defScope (Hd.ms 9 7)) := ⟨rfl, rfl, rfl, by decide +kernel, rfl, by decide +kernel, by decide +kernel⟩
theorem ok_Tape_DgetitemD (f_len : mg "len" = none) (t_cls : TapeCls K) (t_xc_UnknownFile : XCls K "UnknownFile" (He.ma K (ga K "TapeError") "__init__")) (g_UnknownFile : mg "UnknownFile" = some (.ref (ga K "UnknownFile"))) {d_TapeError_DinitD : FuncData} (c_TapeError_DinitD : FnOk P w K mg base (L2.CX P w) 1 (He.ma K (ga K "TapeError") "__init__") d_TapeError_DinitD ["self", "value"] (spX K)) (b_TapeError_DinitD : Binds K d_TapeError_DinitD ["self", "value"] []) (FD : FunD K "__getitem__" "Tape.__getitem__" (defArgs (Hd.ms 9 7)) (defBody (Hd.ms 9 7)) (defScope (Hd.ms 9 7)) [] [] (He.ma K (tapeC K) "__getitem__") fd) : FnOk P w K mg base (L2.CX P w) 3 (He.ma K (tapeC K) "__getitem__") fd ["self", "index"] (SpP K 2 (fun u : ((Int × List (Int × Int)) × Int) => [.is (sh rTape) u.1, .is rInt u.2]) (rPair rInt rInt) m_Tape_DgetitemD) :=
  fn_pure (k := 2) FD sc_Tape_DgetitemD o_Tape_DgetitemD (fun _ => rfl) fun u cdv A outer s H E hr F hio hW => ⟨_, (bx_nf (fun s => [.is (sh rTape) u.1, .is rInt u.2]) (fun _ => rfl) (bx_ifr (GE_ := fun e _ => e.elim) (et_not (et_chain2 ci_le ci_lt ex_int (ex_var 1 cp_int fun _ => rfl) (ex_lenT (eo_t (ex_kept t_cls (eo_t (ex_var 0 cp_sh fun _ => rfl)) fun _ _ => .ts)) (fun _ _ => .t) rfl f_len))) (bx_nf (fun s => [.is (sh rTape) u.1, .is rInt u.2]) (fun _ => rfl) (bx_raise (pay := (fun a => .int a)) rfl (takes_of rfl rfl rfl rfl) hW t_xc_UnknownFile c_TapeError_DinitD (hr.mono (by decide)) b_TapeError_DinitD (passes_nx rfl) rfl g_UnknownFile (fun h => h) (ex_var 1 cp_int fun _ => rfl) (wio hio fun _ => (.un (.un .nil))))) (bx_nf (fun s => [.is (sh rTape) u.1, .is rInt u.2]) (fun _ => rfl) (bx_ret (ex_ixT (eo_t (ex_kept t_cls (eo_t (ex_var 0 cp_sh fun _ => rfl)) fun _ _ => .ts)) (ex_var 1 cp_int fun _ => rfl) (cp_pair cp_int cp_int) fun _ _ => .t) (wio hio fun _ => (.un (.un .nil)))))))⟩
theorem sc__law_td_sack : FnScope ["_law_script", "_law_rank", "_law_cell"] ["_law_script", "_law_rank"] (defScope (Hd.tp 11)) := ⟨rfl, rfl, rfl, by decide +kernel, rfl, by decide +kernel, by decide +kernel⟩
theorem ok__law_td_sack (f_abs : mg "abs" = none) (f_int : mg "int" = none) (f_len : mg "len" = none) (f_max : mg "max" = none) (FD : FunD K "_law_td_sack" "_law_td_sack" (defArgs (Hd.tp 11)) (defBody (Hd.tp 11)) (defScope (Hd.tp 11)) [] [] (ga K "_law_td_sack") fd) : FnOk P w K mg base (L2.CX P w) 1 (ga K "_law_td_sack") fd ["_law_script", "_law_rank"] (SpP K 2 (fun u : ((List Int) × Int) => [.is rScr u.1, .is rInt u.2]) (rList rInt) m__law_td_sack) :=
  fn_pure (k := 0) FD sc__law_td_sack o__law_td_sack (fun _ => rfl) fun u cdv A outer s H E hr F hio hW => ⟨_, (bx_nf (fun s => [.is rScr u.1, .is rInt u.2, .un]) (fun _ => rfl) (bx_asg 2 sc__law_td_sack.nd (ex_if (et_cmp op_lt (vo_B0 fun i j => decide (i < j)) (fun _ _ => stl_ret _) (ex_var 1 cp_int fun _ => rfl) (ex_lenScr (eo_t (ex_var 0 cp_scr fun _ => rfl)) (fun _ _ => .t) rfl f_len) rfl) (ex_ixScr (eo_t (ex_var 0 cp_scr fun _ => rfl)) (ex_var 1 cp_int fun _ => rfl) fun _ _ => .t) ex_int) (fun v_law_cell50 => (bx_nf (fun s => [.is rScr u.1, .is rInt u.2, .is rInt v_law_cell50]) (fun _ => rfl) (bx_ret (ex_lst (r := rInt) (el_cons (ex_max2 ex_int (ex_bin op_sub (vo_I0 fun i j => i - j) (fun _ _ => stl_ret _) (ex_abs (ex_var 2 cp_int fun _ => rfl) rfl f_abs) (ex_bin op_powV vo_pow stl_pow ex_int ex_int)) rfl f_max) (el_cons (ex_bin op_modN vo_mod stl_mod (ex_intI (ex_bin op_add (vo_I0 fun i j => i + j) (fun _ _ => stl_ret _) (ex_bin op_add (vo_I0 fun i j => i + j) (fun _ _ => stl_ret _) (ex_bin op_mul vo_mul stl_mul (ex_var 2 cp_int fun _ => rfl) ex_int) (ex_bin op_mul vo_mul stl_mul (ex_var 1 cp_int fun _ => rfl) ex_int)) ex_int) rfl f_int) (ex_bin op_add (vo_I0 fun i j => i + j) (fun _ _ => stl_ret _) (ex_bin op_powV vo_pow stl_pow ex_int ex_int) ex_int)) (el_cons ex_int el_nil)))) (wio hio fun _ => (.un (.un (.un .nil))))))) inferInstance (fun _ => rfl)))⟩
theorem sc_Tape_length : FnScope ["self"] ["self"] (defScope (Hd.ms 9 2)) := ⟨rfl, rfl, rfl, by decide +kernel, rfl, by decide +kernel, by decide +kernel⟩
theorem ok_Tape_length  (t_cls : TapeCls K) (FD : FunD K "length" "Tape.length" (defArgs (Hd.ms 9 2)) (defBody (Hd.ms 9 2)) (defScope (Hd.ms 9 2)) [] [] (pgA K (tapeC K) "length") fd) : FnOk P w K mg base (L2.CX P w) 1 (pgA K (tapeC K) "length") fd ["self"] (SpP K 1 (fun u : (Int × List (Int × Int)) => [.is (sh rTape) u]) rInt m_Tape_length) :=
  fn_pure (k := 0) FD sc_Tape_length o_Tape_length (fun _ => rfl) fun u cdv A outer s H E hr F hio hW => ⟨_, (bx_nf (fun s => [.is (sh rTape) u]) (fun _ => rfl) (bx_ret (ex_extent t_cls (eo_t (ex_var 0 cp_sh fun _ => rfl)) fun _ _ => .ts) (wio hio fun _ => (.un .nil))))⟩
theorem sc_Tape_files : FnScope ["self"] ["self"] (defScope (Hd.ms 9 3)) := ⟨rfl, rfl, rfl, by decide +kernel, rfl, by decide +kernel, by decide +kernel⟩
theorem ok_Tape_files (f_list : mg "list" = none) (t_cls : TapeCls K) (FD : FunD K "files" "Tape.files" (defArgs (Hd.ms 9 3)) (defBody (Hd.ms 9 3)) (defScope (Hd.ms 9 3)) [] [] (pgA K (tapeC K) "files") fd) : FnOk P w K mg base (L2.CX P w) 1 (pgA K (tapeC K) "files") fd ["self"] (SpP K 1 (fun u : (Int × List (Int × Int)) => [.is (sh rTape) u]) (rList (rPair rInt rInt)) m_Tape_files) :=
  fn_pure (k := 0) FD sc_Tape_files o_Tape_files (fun _ => rfl) fun u cdv A outer s H E hr F hio hW => ⟨_, (bx_nf (fun s => [.is (sh rTape) u]) (fun _ => rfl) (bx_ret (ex_listT (eo_t (ex_kept t_cls (eo_t (ex_var 0 cp_sh fun _ => rfl)) fun _ _ => .ts)) (cp_pair cp_int cp_int) (fun _ _ => .t) rfl f_list) (wio hio fun _ => (.un .nil))))⟩
theorem sc_Tape_without : FnScope ["self", "index"] ["self", "index"] (defScope (Hd.ms 9 8)) := ⟨rfl, rfl, rfl, by decide +kernel, rfl, by decide +kernel, by decide +kernel⟩
theorem ok_Tape_without (f_len : mg "len" = none) (t_cls : TapeCls K) (t_mk : Mk K (tapeC K) (He.ma K (tapeC K) "__init__")) (g_Tape : mg "Tape" = some (.ref (tapeC K))) (t_xc_UnknownFile : XCls K "UnknownFile" (He.ma K (ga K "TapeError") "__init__")) (g_UnknownFile : mg "UnknownFile" = some (.ref (ga K "UnknownFile"))) {d_Tape_DinitD : FuncData} (c_Tape_DinitD : FnOk P w K mg base (L2.CX P w) 3 (He.ma K (tapeC K) "__init__") d_Tape_DinitD ["self", "length", "files"] (SpI K 3 rSelf (fun u : (Int × (List (Int × Int))) => [.is rInt u.1, .is (sh (rList (rPair rInt rInt))) u.2]) rNon m_Tape_DinitD)) (b_Tape_DinitD : Binds K d_Tape_DinitD ["self", "length", "files"] []) {d_TapeError_DinitD : FuncData} (c_TapeError_DinitD : FnOk P w K mg base (L2.CX P w) 1 (He.ma K (ga K "TapeError") "__init__") d_TapeError_DinitD ["self", "value"] (spX K)) (b_TapeError_DinitD : Binds K d_TapeError_DinitD ["self", "value"] []) (FD : FunD K "without" "Tape.without" (defArgs (Hd.ms 9 8)) (defBody (Hd.ms 9 8)) (defScope (Hd.ms 9 8)) [] [] (He.ma K (tapeC K) "without") fd) : FnOk P w K mg base (L2.CX P w) 5 (He.ma K (tapeC K) "without") fd ["self", "index"] (SpP K 2 (fun u : ((Int × List (Int × Int)) × Int) => [.is (sh rTape) u.1, .is rInt u.2]) (sh rTape) m_Tape_without) :=
  fn_pure (k := 4) FD sc_Tape_without o_Tape_without (fun _ => rfl) fun u cdv A outer s H E hr F hio hW => ⟨_, (bx_nf (fun s => [.is (sh rTape) u.1, .is rInt u.2]) (fun _ => rfl) (bx_ifr (GE_ := fun e _ => e.elim) (et_not (et_chain2 ci_le ci_lt ex_int (ex_var 1 cp_int fun _ => rfl) (ex_lenT (eo_t (ex_kept t_cls (eo_t (ex_var 0 cp_sh fun _ => rfl)) fun _ _ => .ts)) (fun _ _ => .t) rfl f_len))) (bx_nf (fun s => [.is (sh rTape) u.1, .is rInt u.2]) (fun _ => rfl) (bx_raise (pay := (fun a => .int a)) rfl (takes_of rfl rfl rfl rfl) hW t_xc_UnknownFile c_TapeError_DinitD (hr.mono (by decide)) b_TapeError_DinitD (passes_nx rfl) rfl g_UnknownFile (fun h => h) (ex_var 1 cp_int fun _ => rfl) (wio hio fun _ => (.un (.un .nil))))) (bx_nf (fun s => [.is (sh rTape) u.1, .is rInt u.2]) (fun _ => rfl) (bx_ret (ex_make (E := E) (fun q185 => (q185.1, q185.2.1)) t_mk c_Tape_DinitD (hr.mono (by decide)) rfl g_Tape b_Tape_DinitD (by exact passes_call (takes_of rfl rfl rfl rfl) fun _ _ _ _ h => h) (ea_cons (eo_t (ex_extent t_cls (eo_t (ex_var 0 cp_sh fun _ => rfl)) fun _ _ => .ts)) (ea_cons (eo_t (ex_freeze (ex_lst (r := (rPair rInt rInt)) (el_starT (eo_t (ex_sliceT (eo_t (ex_kept t_cls (eo_t (ex_var 0 cp_sh fun _ => rfl)) fun _ _ => .ts)) ep_none (ep_some (ex_var 1 cp_int fun _ => rfl)) (cp_pair cp_int cp_int) fun _ _ => .t)) (cp_pair cp_int cp_int) (fun _ _ => .t) (el_starT (eo_t (ex_sliceT (eo_t (ex_kept t_cls (eo_t (ex_var 0 cp_sh fun _ => rfl)) fun _ _ => .ts)) (ep_some (ex_bin op_add (vo_I0 fun i j => i + j) (fun _ _ => stl_ret _) (ex_var 1 cp_int fun _ => rfl) ex_int)) ep_none (cp_pair cp_int cp_int) fun _ _ => .t)) (cp_pair cp_int cp_int) (fun _ _ => .t) el_nil))))) ea_nil)) (fun _ => rfl) (fun _ _ => (.cp cp_int (.tc cp_int) (.cp cp_sh (.tc cp_sh) .nil))) (hWE hW) (wio hio fun _ => (.un (.un .nil)))) (wio hio fun _ => (.un (.un .nil)))))))⟩
theorem sc_Tape_turned : FnScope ["self", "begin", "end", "seen"] ["self"] (defScope (Hd.ms 9 9)) := ⟨rfl, rfl, rfl, by decide +kernel, rfl, by decide +kernel, by decide +kernel⟩
theorem bk_Tape_turned_0 : BlkOk ["self", "begin", "end", "seen"] (defScope (Hd.ms 9 9)) { kind := .function, names := [(".0", .local), ("begin", .local), ("end", .local), ("self", .free)], isGenerator := false, isCoroutine := false, more := [] } [("begin", 1), ("end", 2)] := blkOk_by (by decide +kernel)
theorem ok_Tape_turned  (t_cls : TapeCls K) (t_mk : Mk K (tapeC K) (He.ma K (tapeC K) "__init__")) (g_Tape : mg "Tape" = some (.ref (tapeC K))) {d_Tape_DinitD : FuncData} (c_Tape_DinitD : FnOk P w K mg base (L2.CX P w) 3 (He.ma K (tapeC K) "__init__") d_Tape_DinitD ["self", "length", "files"] (SpI K 3 rSelf (fun u : (Int × (List (Int × Int))) => [.is rInt u.1, .is (sh (rList (rPair rInt rInt))) u.2]) rNon m_Tape_DinitD)) (b_Tape_DinitD : Binds K d_Tape_DinitD ["self", "length", "files"] []) (FD : FunD K "turned" "Tape.turned" (defArgs (Hd.ms 9 9)) (defBody (Hd.ms 9 9)) (defScope (Hd.ms 9 9)) [] [] (He.ma K (tapeC K) "turned") fd) : FnOk P w K mg base (L2.CX P w) 5 (He.ma K (tapeC K) "turned") fd ["self"] (SpP K 1 (fun u : (Int × List (Int × Int)) => [.is (sh rTape) u]) (sh rTape) m_Tape_turned) :=
  fn_pure (k := 4) FD sc_Tape_turned o_Tape_turned (fun _ => rfl) fun u cdv A outer s H E hr F hio hW => ⟨_, (bx_nf (fun s => [.is (sh rTape) u, .un, .un, .un]) (fun _ => rfl) (bx_lcS (i := 3) (Gt := fun s (x191 : (Int × Int)) => [.is (sh rTape) u, .is rInt x191.1, .is rInt x191.2, .un]) s rfl sc_Tape_turned.nd (ei_tup (ex_revT (eo_t (ex_kept t_cls (eo_t (ex_var 0 cp_sh fun _ => rfl)) fun _ _ => .ts)) (cp_pair cp_int cp_int) fun _ _ => .t) (cp_pair cp_int cp_int)) (fun _ => trivial) bk_Tape_turned_0 (fun _ => (.cons rfl (.cons rfl .nil))) (by exact fun _ h => h) (fun _ _ => (.eq (.un (.un (.eq .nil))))) (fun _ _ _ _ _ _ => (eg_pair rfl (eg_name (i := 1) rfl sc_Tape_turned.nd) (fun _ => (eg_name (i := 2) rfl sc_Tape_turned.nd)) inferInstance)) (fun _ _ _ _ _ x191 => ets_nil) (fun _ _ _ _ _ x191 => (ex_tup2 (ex_bin op_sub (vo_I0 fun i j => i - j) (fun _ _ => stl_ret _) (ex_extent t_cls (eo_t (ex_var 0 cp_sh fun _ => rfl)) fun _ _ => .ts) (ex_var 2 cp_int fun _ => rfl)) (ex_bin op_sub (vo_I0 fun i j => i - j) (fun _ _ => stl_ret _) (ex_extent t_cls (eo_t (ex_var 0 cp_sh fun _ => rfl)) fun _ _ => .ts) (ex_var 1 cp_int fun _ => rfl)))) inferInstance inferInstance (fun v_seen188 => (bx_nf (fun s => [.is (sh rTape) u, .un, .un, .is (sh (rList (rPair rInt rInt))) v_seen188]) (fun _ => rfl) (bx_ret (ex_make (E := E) (fun q207 => (q207.1, q207.2.1)) t_mk c_Tape_DinitD (hr.mono (by decide)) rfl g_Tape b_Tape_DinitD (by exact passes_call (takes_of rfl rfl rfl rfl) fun _ _ _ _ h => h) (ea_cons (eo_t (ex_extent t_cls (eo_t (ex_var 0 cp_sh fun _ => rfl)) fun _ _ => .ts)) (ea_cons (eo_t (ex_var 3 cp_sh fun _ => rfl)) ea_nil)) (fun _ => rfl) (fun _ _ => (.cp cp_int (.tc cp_int) (.cp cp_sh (.tc cp_sh) .nil))) (hWE hW) (wio hio fun _ => (.un (.eq (.eq (.un .nil)))))) (wio hio fun _ => (.un (.eq (.eq (.un .nil)))))))) (fun _ => rfl)))⟩
theorem sc__law_td_pick : FnScope ["_law_sack", "_law_many", "_law_drawn", "_law_stirred"] ["_law_sack", "_law_many"] (defScope (Hd.tp 12)) := ⟨rfl, rfl, rfl, by decide +kernel, rfl, by decide +kernel, by decide +kernel⟩
theorem ok__law_td_pick (f_int : mg "int" = none) (FD : FunD K "_law_td_pick" "_law_td_pick" (defArgs (Hd.tp 12)) (defBody (Hd.tp 12)) (defScope (Hd.tp 12)) [] [] (ga K "_law_td_pick") fd) : FnOk P w K mg base (L2.CX P w) 1 (ga K "_law_td_pick") fd ["_law_sack", "_law_many"] (SpI K 2 (rList rInt) (fun u : Int => [.is rInt u]) rInt m__law_td_pick) :=
  fn_io (k := 0) FD sc__law_td_pick o__law_td_pick (fun _ => rfl) fun u v0 cdv A outer s H E hr F hio hW => ⟨_, (bx_nf (fun s => [.pn v0 (rList rInt) s, .is rInt u, .un, .un]) (fun _ => rfl) (bx_ifr (GE_ := fun e _ => e.elim) (et_cmp op_gt (vo_B0 fun i j => decide (j < i)) (fun _ _ => stl_ret _) (ex_stix 0 ex_int cp_int (fun _ => rfl) (fun _ => rfl)) ex_int rfl) (bx_nf (fun s => [.pn v0 (rList rInt) s, .is rInt u, .un, .un]) (fun _ => rfl) (bx_asg 2 sc__law_td_pick.nd (ex_bin op_modN vo_mod stl_mod (ex_intI (ex_stix 0 ex_int cp_int (fun _ => rfl) (fun _ => rfl)) rfl f_int) (ex_var 1 cp_int fun _ => rfl)) (fun v_law_drawn214 => (bx_nf (fun s => [.pn v0 (rList rInt) s, .is rInt u, .is rInt v_law_drawn214, .un]) (fun _ => rfl) (bx_stset 0 cp_int (ex_bin op_fdivW vo_divW stl_divW (ex_stix 0 ex_int cp_int (fun _ => rfl) (fun _ => rfl)) (ex_var 1 cp_int fun _ => rfl)) ex_int (fun _ => rfl) (fun _ => rfl) (fun _ _ => rfl) (bx_nf (fun s => [.pn v0 (rList rInt) s, .is rInt u, .is rInt v_law_drawn214, .un]) (fun _ => rfl) (bx_ret (ex_var 2 cp_int fun _ => rfl) (wios hio fun _ => (.eq (.un (.un (.eq .nil)))))))))) inferInstance (fun _ => rfl))) (bx_nf (fun s => [.pn v0 (rList rInt) s, .is rInt u, .un, .un]) (fun _ => rfl) (bx_stset 0 cp_int (ex_bin op_add (vo_I0 fun i j => i + j) (fun _ _ => stl_ret _) (ex_stix 0 ex_int cp_int (fun _ => rfl) (fun _ => rfl)) ex_int) ex_int (fun _ => rfl) (fun _ => rfl) (fun _ _ => rfl) (bx_nf (fun s => [.pn v0 (rList rInt) s, .is rInt u, .un, .un]) (fun _ => rfl) (bx_asg 3 sc__law_td_pick.nd (ex_bin op_modN vo_mod stl_mod (ex_bin op_powV vo_pow stl_pow (ex_intI (ex_bin op_add (vo_I0 fun i j => i + j) (fun _ _ => stl_ret _) (ex_stix 0 ex_int cp_int (fun _ => rfl) (fun _ => rfl)) (ex_bin op_mulW vo_mulW stl_mulW ex_int (ex_stix 0 ex_int cp_int (fun _ => rfl) (fun _ => rfl)))) rfl f_int) ex_int) (ex_bin op_add (vo_I0 fun i j => i + j) (fun _ _ => stl_ret _) (ex_bin op_powV vo_pow stl_pow ex_int ex_int) ex_int)) (fun v_law_stirred236 => (bx_nf (fun s => [.pn v0 (rList rInt) s, .is rInt u, .un, .is rInt v_law_stirred236]) (fun _ => rfl) (bx_asg 3 sc__law_td_pick.nd (ex_bin op_modN vo_mod stl_mod (ex_bin op_powV vo_pow stl_pow (ex_intI (ex_bin op_add (vo_I0 fun i j => i + j) (fun _ _ => stl_ret _) (ex_var 3 cp_int fun _ => rfl) (ex_bin op_mulW vo_mulW stl_mulW ex_int (ex_stix 0 ex_int cp_int (fun _ => rfl) (fun _ => rfl)))) rfl f_int) ex_int) (ex_bin op_add (vo_I0 fun i j => i + j) (fun _ _ => stl_ret _) (ex_bin op_powV vo_pow stl_pow ex_int ex_int) ex_int)) (fun v_law_stirred285 => (bx_nf (fun s => [.pn v0 (rList rInt) s, .is rInt u, .un, .is rInt v_law_stirred285]) (fun _ => rfl) (bx_ret (ex_bin op_modN vo_mod stl_mod (ex_intI (ex_bin op_fdivW vo_divW stl_divW (ex_var 3 cp_int fun _ => rfl) ex_int) rfl f_int) (ex_var 1 cp_int fun _ => rfl)) (wios hio fun _ => (.eq (.un (.eq (.un .nil)))))))) inferInstance (fun _ => rfl)))) inferInstance (fun _ => rfl)))))))⟩
theorem sc__law_td_shape : FnScope ["_law_sack", "_law_most", "_law_found", "_law_many", "_law_size", "_law_spot", "_law_top", "_law_turn"] ["_law_sack", "_law_most"] (defScope (Hd.tp 13)) := ⟨rfl, rfl, rfl, by decide +kernel, rfl, by decide +kernel, by decide +kernel⟩
theorem ok__law_td_shape (f_max : mg "max" = none) (f_range : mg "range" = none) {d__law_td_pick : FuncData} (c__law_td_pick : FnOk P w K mg base (L2.CX P w) 1 (ga K "_law_td_pick") d__law_td_pick ["_law_sack", "_law_many"] (SpI K 2 (rList rInt) (fun u : Int => [.is rInt u]) rInt m__law_td_pick)) (g__law_td_pick : mg "_law_td_pick" = some (.ref (ga K "_law_td_pick"))) (k__law_td_pick : PySem.W.keepIn K (.ref (ga K "_law_td_pick")) = true) (b__law_td_pick : Binds K d__law_td_pick ["_law_sack", "_law_many"] []) (FD : FunD K "_law_td_shape" "_law_td_shape" (defArgs (Hd.tp 13)) (defBody (Hd.tp 13)) (defScope (Hd.tp 13)) [] [] (ga K "_law_td_shape") fd) : FnOk P w K mg base (L2.CX P w) 2 (ga K "_law_td_shape") fd ["_law_sack", "_law_most"] (SpI K 2 (rList rInt) (fun u : Int => [.is rInt u]) (rPair rInt (sh (rList (rPair rInt rInt)))) m__law_td_shape) :=
  fn_io (k := 1) FD sc__law_td_shape o__law_td_shape (fun _ => rfl) fun u v0 cdv A outer s H E hr F hio hW => ⟨_, (bx_nf (fun s => [.pn v0 (rList rInt) s, .is rInt u, .un, .un, .un, .un, .un, .un]) (fun _ => rfl) (bx_asg 3 sc__law_td_shape.nd (ex_callIo (E := E) 0 (fun q342 => q342.2.1) c__law_td_pick (hr.mono (by decide)) rfl g__law_td_pick k__law_td_pick b__law_td_pick (by exact passes_call (takes_of rfl rfl rfl rfl) fun _ _ _ _ h => h) (clo_list clo_int) (ea_cons (eo_pn (U := Unit) (a := ()) 0 fun _ => rfl) (ea_cons (eo_t (ex_bin op_add (vo_I0 fun i j => i + j) (fun _ _ => stl_ret _) (ex_var 1 cp_int fun _ => rfl) ex_int)) ea_nil)) (fun _ => rfl) (fun _ => rfl) (fun _ _ => rfl) (fun _ _ => (.cp cp_int (.tc cp_int) .nil)) (hWE hW) (wios hio fun _ => (.eq (.un (.eq (.eq (.eq (.eq (.eq (.eq .nil)))))))))) (fun v_law_many337 => (bx_nf (fun s => [.pn v0 (rList rInt) s, .is rInt u, .un, .is rInt v_law_many337, .un, .un, .un, .un]) (fun _ => rfl) (bx_asg 6 sc__law_td_shape.nd (ex_bin op_fdivN vo_div stl_div ex_int (ex_max2 ex_int (ex_var 3 cp_int fun _ => rfl) rfl f_max)) (fun v_law_top344 => (bx_nf (fun s => [.pn v0 (rList rInt) s, .is rInt u, .un, .is rInt v_law_many337, .un, .un, .is rInt v_law_top344, .un]) (fun _ => rfl) (bx_par 5 2 sc__law_td_shape.nd rfl (by decide) (ex_callIo (E := E) 0 (fun q351 => q351.2.1) c__law_td_pick (hr.mono (by decide)) rfl g__law_td_pick k__law_td_pick b__law_td_pick (by exact passes_call (takes_of rfl rfl rfl rfl) fun _ _ _ _ h => h) (clo_list clo_int) (ea_cons (eo_pn (U := Unit) (a := ()) 0 fun _ => rfl) (ea_cons (eo_t ex_int) ea_nil)) (fun _ => rfl) (fun _ => rfl) (fun _ _ => rfl) (fun _ _ => (.cp cp_int (.tc cp_int) .nil)) (hWE hW) (wios hio fun _ => (.eq (.un (.eq (.un (.eq (.eq (.un (.eq .nil)))))))))) (ex_lst (r := (rPair rInt rInt)) el_nil) (fun v_law_spot354 v_law_found355 => (bx_nf (fun s => [.pn v0 (rList rInt) s, .is rInt u, .is (rList (rPair rInt rInt)) v_law_found355, .is rInt v_law_many337, .un, .is rInt v_law_spot354, .is rInt v_law_top344, .un]) (fun _ => rfl) (bx_for (Gt := fun (l356 : ((List (Int × Int)) × Int)) s (x359 : Int) => [.pn v0 (rList rInt) s, .is rInt u, .is (rList (rPair rInt rInt)) l356.1, .is rInt v_law_many337, .un, .is rInt l356.2, .is rInt v_law_top344, .is rInt x359]) (passes_of rfl) rfl (fun (l356 : ((List (Int × Int)) × Int)) s => [.pn v0 (rList rInt) s, .is rInt u, .is (rList (rPair rInt rInt)) l356.1, .is rInt v_law_many337, .un, .is rInt l356.2, .is rInt v_law_top344, .un]) (v_law_found355, v_law_spot354) (ei_rng1 (ex_var 3 cp_int fun _ => rfl) rfl f_range) (fun _ => (.eq (.eq (.eq (.eq (.eq (.eq (.eq (.eq .nil))))))))) (fun _ _ => trivial) (fun l356 _ => (eg_name (i := 7) rfl sc__law_td_shape.nd)) (fun l356 x359 => (bx_nf (fun s => [.pn v0 (rList rInt) s, .is rInt u, .is (rList (rPair rInt rInt)) l356.1, .is rInt v_law_many337, .un, .is rInt l356.2, .is rInt v_law_top344, .is rInt x359]) (fun _ => rfl) (bx_asg 4 sc__law_td_shape.nd (ex_bin op_add (vo_I0 fun i j => i + j) (fun _ _ => stl_ret _) ex_int (ex_callIo (E := E) 0 (fun q376 => q376.2.1) c__law_td_pick (hr.mono (by decide)) rfl g__law_td_pick k__law_td_pick b__law_td_pick (by exact passes_call (takes_of rfl rfl rfl rfl) fun _ _ _ _ h => h) (clo_list clo_int) (ea_cons (eo_pn (U := Unit) (a := ()) 0 fun _ => rfl) (ea_cons (eo_t (ex_ix (eo_t (ex_lst (r := rInt) (el_cons ex_int (el_cons (ex_bin op_sub (vo_I0 fun i j => i - j) (fun _ _ => stl_ret _) (ex_var 6 cp_int fun _ => rfl) ex_int) el_nil)))) (ex_callIo (E := E) 0 (fun q371 => q371.2.1) c__law_td_pick (hr.mono (by decide)) rfl g__law_td_pick k__law_td_pick b__law_td_pick (by exact passes_call (takes_of rfl rfl rfl rfl) fun _ _ _ _ h => h) (clo_list clo_int) (ea_cons (eo_pn (U := Unit) (a := ()) 0 fun _ => rfl) (ea_cons (eo_t ex_int) ea_nil)) (fun _ => rfl) (fun _ => rfl) (fun _ _ => rfl) (fun _ _ => (.cp cp_int (.tc cp_int) .nil)) (hWE hW) (wios hio fun _ => (.eq (.un (.un (.un (.eq (.un (.un (.un .nil)))))))))) cp_int fun _ _ => .t)) ea_nil)) (fun _ => rfl) (fun _ => rfl) (fun _ _ => rfl) (fun _ _ => (.cp cp_int (.tc cp_int) .nil)) (hWE hW) (wios hio fun _ => (.eq (.un (.un (.un (.eq (.un (.un (.un .nil))))))))))) (fun v_law_size360 => (bx_nf (fun s => [.pn v0 (rList rInt) s, .is rInt u, .is (rList (rPair rInt rInt)) l356.1, .is rInt v_law_many337, .is rInt v_law_size360, .is rInt l356.2, .is rInt v_law_top344, .is rInt x359]) (fun _ => rfl) (bx_app 2 (ex_tup2 (ex_var 5 cp_int fun _ => rfl) (ex_bin op_add (vo_I0 fun i j => i + j) (fun _ _ => stl_ret _) (ex_var 5 cp_int fun _ => rfl) (ex_var 4 cp_int fun _ => rfl))) (fun _ => rfl) (fun _ => rfl) fun v_law_found385 => (bx_nf (fun s => [.pn v0 (rList rInt) s, .is rInt u, .is (rList (rPair rInt rInt)) v_law_found385, .is rInt v_law_many337, .is rInt v_law_size360, .is rInt l356.2, .is rInt v_law_top344, .is rInt x359]) (fun _ => rfl) (bx_asg 5 sc__law_td_shape.nd (ex_bin op_add (vo_I0 fun i j => i + j) (fun _ _ => stl_ret _) (ex_bin op_add (vo_I0 fun i j => i + j) (fun _ _ => stl_ret _) (ex_var 5 cp_int fun _ => rfl) (ex_var 4 cp_int fun _ => rfl)) (ex_ix (eo_t (ex_lst (r := rInt) (el_cons ex_int (el_cons (ex_callIo (E := E) 0 (fun q395 => q395.2.1) c__law_td_pick (hr.mono (by decide)) rfl g__law_td_pick k__law_td_pick b__law_td_pick (by exact passes_call (takes_of rfl rfl rfl rfl) fun _ _ _ _ h => h) (clo_list clo_int) (ea_cons (eo_pn (U := Unit) (a := ()) 0 fun _ => rfl) (ea_cons (eo_t ex_int) ea_nil)) (fun _ => rfl) (fun _ => rfl) (fun _ _ => rfl) (fun _ _ => (.cp cp_int (.tc cp_int) .nil)) (hWE hW) (wios hio fun _ => (.eq (.un (.un (.un (.un (.un (.un (.un .nil)))))))))) el_nil)))) (ex_callIo (E := E) 0 (fun q403 => q403.2.1) c__law_td_pick (hr.mono (by decide)) rfl g__law_td_pick k__law_td_pick b__law_td_pick (by exact passes_call (takes_of rfl rfl rfl rfl) fun _ _ _ _ h => h) (clo_list clo_int) (ea_cons (eo_pn (U := Unit) (a := ()) 0 fun _ => rfl) (ea_cons (eo_t ex_int) ea_nil)) (fun _ => rfl) (fun _ => rfl) (fun _ _ => rfl) (fun _ _ => (.cp cp_int (.tc cp_int) .nil)) (hWE hW) (wios hio fun _ => (.eq (.un (.un (.un (.un (.un (.un (.un .nil)))))))))) cp_int fun _ _ => .t)) (fun v_law_spot386 => (bx_end (v_law_found385, v_law_spot386) fun _ => (.eq (.eq (.eq (.eq (.un (.eq (.eq (.un .nil)))))))))) inferInstance (fun _ => rfl)))))) inferInstance (fun _ => rfl)))) (fun l356 => (bx_nf (fun s => [.pn v0 (rList rInt) s, .is rInt u, .is (rList (rPair rInt rInt)) l356.1, .is rInt v_law_many337, .un, .is rInt l356.2, .is rInt v_law_top344, .un]) (fun _ => rfl) (bx_ret (ex_tup2 (ex_max2 ex_int (ex_bin op_add (vo_I0 fun i j => i + j) (fun _ _ => stl_ret _) (ex_var 5 cp_int fun _ => rfl) (ex_callIo (E := E) 0 (fun q410 => q410.2.1) c__law_td_pick (hr.mono (by decide)) rfl g__law_td_pick k__law_td_pick b__law_td_pick (by exact passes_call (takes_of rfl rfl rfl rfl) fun _ _ _ _ h => h) (clo_list clo_int) (ea_cons (eo_pn (U := Unit) (a := ()) 0 fun _ => rfl) (ea_cons (eo_t ex_int) ea_nil)) (fun _ => rfl) (fun _ => rfl) (fun _ _ => rfl) (fun _ _ => (.cp cp_int (.tc cp_int) .nil)) (hWE hW) (wios hio fun _ => (.eq (.un (.un (.un (.eq (.un (.un (.eq .nil))))))))))) rfl f_max) (ex_freeze (ex_mv 2 fun _ => rfl))) (wios hio fun _ => (.eq (.un (.eq (.un (.eq (.un (.un (.eq .nil)))))))))))) inferInstance inferInstance))) inferInstance inferInstance (fun _ => rfl) (fun _ => rfl)))) inferInstance (fun _ => rfl)))) inferInstance (fun _ => rfl)))⟩
theorem sc__law_td_wide_shape : FnScope ["_law_sack", "_law_found", "_law_size", "_law_spot", "_law_turn"] ["_law_sack"] (defScope (Hd.tp 14)) := ⟨rfl, rfl, rfl, by decide +kernel, rfl, by decide +kernel, by decide +kernel⟩
theorem ok__law_td_wide_shape (f_max : mg "max" = none) (f_range : mg "range" = none) {d__law_td_pick : FuncData} (c__law_td_pick : FnOk P w K mg base (L2.CX P w) 1 (ga K "_law_td_pick") d__law_td_pick ["_law_sack", "_law_many"] (SpI K 2 (rList rInt) (fun u : Int => [.is rInt u]) rInt m__law_td_pick)) (g__law_td_pick : mg "_law_td_pick" = some (.ref (ga K "_law_td_pick"))) (k__law_td_pick : PySem.W.keepIn K (.ref (ga K "_law_td_pick")) = true) (b__law_td_pick : Binds K d__law_td_pick ["_law_sack", "_law_many"] []) (FD : FunD K "_law_td_wide_shape" "_law_td_wide_shape" (defArgs (Hd.tp 14)) (defBody (Hd.tp 14)) (defScope (Hd.tp 14)) [] [] (ga K "_law_td_wide_shape") fd) : FnOk P w K mg base (L2.CX P w) 2 (ga K "_law_td_wide_shape") fd ["_law_sack"] (SpI K 1 (rList rInt) (fun u : Unit => []) (rPair rInt (sh (rList (rPair rInt rInt)))) m__law_td_wide_shape) :=
  fn_io (k := 1) FD sc__law_td_wide_shape o__law_td_wide_shape (fun _ => rfl) fun u v0 cdv A outer s H E hr F hio hW => ⟨_, (bx_nf (fun s => [.pn v0 (rList rInt) s, .un, .un, .un, .un]) (fun _ => rfl) (bx_par 3 1 sc__law_td_wide_shape.nd rfl (by decide) (ex_callIo (E := E) 0 (fun q421 => q421.2.1) c__law_td_pick (hr.mono (by decide)) rfl g__law_td_pick k__law_td_pick b__law_td_pick (by exact passes_call (takes_of rfl rfl rfl rfl) fun _ _ _ _ h => h) (clo_list clo_int) (ea_cons (eo_pn (U := Unit) (a := ()) 0 fun _ => rfl) (ea_cons (eo_t ex_int) ea_nil)) (fun _ => rfl) (fun _ => rfl) (fun _ _ => rfl) (fun _ _ => (.cp cp_int (.tc cp_int) .nil)) (hWE hW) (wios hio fun _ => (.eq (.eq (.eq (.eq (.eq .nil))))))) (ex_lst (r := (rPair rInt rInt)) el_nil) (fun v_law_spot424 v_law_found425 => (bx_nf (fun s => [.pn v0 (rList rInt) s, .is (rList (rPair rInt rInt)) v_law_found425, .un, .is rInt v_law_spot424, .un]) (fun _ => rfl) (bx_for (Gt := fun (l426 : ((List (Int × Int)) × Int)) s (x448 : Int) => [.pn v0 (rList rInt) s, .is (rList (rPair rInt rInt)) l426.1, .un, .is rInt l426.2, .is rInt x448]) (passes_of rfl) rfl (fun (l426 : ((List (Int × Int)) × Int)) s => [.pn v0 (rList rInt) s, .is (rList (rPair rInt rInt)) l426.1, .un, .is rInt l426.2, .un]) (v_law_found425, v_law_spot424) (ei_rng1 (ex_ix (eo_t (ex_lst (r := rInt) (el_cons (ex_callIo (E := E) 0 (fun q437 => q437.2.1) c__law_td_pick (hr.mono (by decide)) rfl g__law_td_pick k__law_td_pick b__law_td_pick (by exact passes_call (takes_of rfl rfl rfl rfl) fun _ _ _ _ h => h) (clo_list clo_int) (ea_cons (eo_pn (U := Unit) (a := ()) 0 fun _ => rfl) (ea_cons (eo_t ex_int) ea_nil)) (fun _ => rfl) (fun _ => rfl) (fun _ _ => rfl) (fun _ _ => (.cp cp_int (.tc cp_int) .nil)) (hWE hW) (wios hio fun _ => (.eq (.un (.eq (.un (.eq .nil))))))) (el_cons ex_int el_nil)))) (ex_callIo (E := E) 0 (fun q443 => q443.2.1) c__law_td_pick (hr.mono (by decide)) rfl g__law_td_pick k__law_td_pick b__law_td_pick (by exact passes_call (takes_of rfl rfl rfl rfl) fun _ _ _ _ h => h) (clo_list clo_int) (ea_cons (eo_pn (U := Unit) (a := ()) 0 fun _ => rfl) (ea_cons (eo_t ex_int) ea_nil)) (fun _ => rfl) (fun _ => rfl) (fun _ _ => rfl) (fun _ _ => (.cp cp_int (.tc cp_int) .nil)) (hWE hW) (wios hio fun _ => (.eq (.un (.eq (.un (.eq .nil))))))) cp_int fun _ _ => .t) rfl f_range) (fun _ => (.eq (.eq (.eq (.eq (.eq .nil)))))) (fun _ _ => trivial) (fun l426 _ => (eg_name (i := 4) rfl sc__law_td_wide_shape.nd)) (fun l426 x448 => (bx_nf (fun s => [.pn v0 (rList rInt) s, .is (rList (rPair rInt rInt)) l426.1, .un, .is rInt l426.2, .is rInt x448]) (fun _ => rfl) (bx_asg 2 sc__law_td_wide_shape.nd (ex_bin op_add (vo_I0 fun i j => i + j) (fun _ _ => stl_ret _) ex_int (ex_callIo (E := E) 0 (fun q452 => q452.2.1) c__law_td_pick (hr.mono (by decide)) rfl g__law_td_pick k__law_td_pick b__law_td_pick (by exact passes_call (takes_of rfl rfl rfl rfl) fun _ _ _ _ h => h) (clo_list clo_int) (ea_cons (eo_pn (U := Unit) (a := ()) 0 fun _ => rfl) (ea_cons (eo_t ex_int) ea_nil)) (fun _ => rfl) (fun _ => rfl) (fun _ _ => rfl) (fun _ _ => (.cp cp_int (.tc cp_int) .nil)) (hWE hW) (wios hio fun _ => (.eq (.un (.eq (.un (.un .nil)))))))) (fun v_law_size449 => (bx_nf (fun s => [.pn v0 (rList rInt) s, .is (rList (rPair rInt rInt)) l426.1, .is rInt v_law_size449, .is rInt l426.2, .is rInt x448]) (fun _ => rfl) (bx_app 1 (ex_tup2 (ex_var 3 cp_int fun _ => rfl) (ex_bin op_add (vo_I0 fun i j => i + j) (fun _ _ => stl_ret _) (ex_var 3 cp_int fun _ => rfl) (ex_var 2 cp_int fun _ => rfl))) (fun _ => rfl) (fun _ => rfl) fun v_law_found461 => (bx_nf (fun s => [.pn v0 (rList rInt) s, .is (rList (rPair rInt rInt)) v_law_found461, .is rInt v_law_size449, .is rInt l426.2, .is rInt x448]) (fun _ => rfl) (bx_asg 3 sc__law_td_wide_shape.nd (ex_bin op_add (vo_I0 fun i j => i + j) (fun _ _ => stl_ret _) (ex_bin op_add (vo_I0 fun i j => i + j) (fun _ _ => stl_ret _) (ex_var 3 cp_int fun _ => rfl) (ex_var 2 cp_int fun _ => rfl)) (ex_ix (eo_t (ex_lst (r := rInt) (el_cons ex_int (el_cons (ex_callIo (E := E) 0 (fun q471 => q471.2.1) c__law_td_pick (hr.mono (by decide)) rfl g__law_td_pick k__law_td_pick b__law_td_pick (by exact passes_call (takes_of rfl rfl rfl rfl) fun _ _ _ _ h => h) (clo_list clo_int) (ea_cons (eo_pn (U := Unit) (a := ()) 0 fun _ => rfl) (ea_cons (eo_t ex_int) ea_nil)) (fun _ => rfl) (fun _ => rfl) (fun _ _ => rfl) (fun _ _ => (.cp cp_int (.tc cp_int) .nil)) (hWE hW) (wios hio fun _ => (.eq (.un (.un (.un (.un .nil))))))) el_nil)))) (ex_callIo (E := E) 0 (fun q479 => q479.2.1) c__law_td_pick (hr.mono (by decide)) rfl g__law_td_pick k__law_td_pick b__law_td_pick (by exact passes_call (takes_of rfl rfl rfl rfl) fun _ _ _ _ h => h) (clo_list clo_int) (ea_cons (eo_pn (U := Unit) (a := ()) 0 fun _ => rfl) (ea_cons (eo_t ex_int) ea_nil)) (fun _ => rfl) (fun _ => rfl) (fun _ _ => rfl) (fun _ _ => (.cp cp_int (.tc cp_int) .nil)) (hWE hW) (wios hio fun _ => (.eq (.un (.un (.un (.un .nil))))))) cp_int fun _ _ => .t)) (fun v_law_spot462 => (bx_end (v_law_found461, v_law_spot462) fun _ => (.eq (.eq (.un (.eq (.un .nil))))))) inferInstance (fun _ => rfl)))))) inferInstance (fun _ => rfl)))) (fun l426 => (bx_nf (fun s => [.pn v0 (rList rInt) s, .is (rList (rPair rInt rInt)) l426.1, .un, .is rInt l426.2, .un]) (fun _ => rfl) (bx_ret (ex_tup2 (ex_max2 ex_int (ex_bin op_add (vo_I0 fun i j => i + j) (fun _ _ => stl_ret _) (ex_var 3 cp_int fun _ => rfl) (ex_callIo (E := E) 0 (fun q486 => q486.2.1) c__law_td_pick (hr.mono (by decide)) rfl g__law_td_pick k__law_td_pick b__law_td_pick (by exact passes_call (takes_of rfl rfl rfl rfl) fun _ _ _ _ h => h) (clo_list clo_int) (ea_cons (eo_pn (U := Unit) (a := ()) 0 fun _ => rfl) (ea_cons (eo_t ex_int) ea_nil)) (fun _ => rfl) (fun _ => rfl) (fun _ _ => rfl) (fun _ _ => (.cp cp_int (.tc cp_int) .nil)) (hWE hW) (wios hio fun _ => (.eq (.un (.eq (.un (.eq .nil)))))))) rfl f_max) (ex_freeze (ex_mv 1 fun _ => rfl))) (wios hio fun _ => (.eq (.eq (.eq (.un (.eq .nil))))))))) inferInstance inferInstance))) inferInstance inferInstance (fun _ => rfl) (fun _ => rfl)))⟩
theorem sc__law_td_tape : FnScope ["_law_shape", "_law_given", "_law_made"] ["_law_shape"] (defScope (Hd.tp 15)) := ⟨rfl, rfl, rfl, by decide +kernel, rfl, by decide +kernel, by decide +kernel⟩
theorem ok__law_td_tape (f_list : mg "list" = none) (t_mk : Mk K (tapeC K) (He.ma K (tapeC K) "__init__")) (g_Tape : mg "Tape" = some (.ref (tapeC K))) {d_Tape_DinitD : FuncData} (c_Tape_DinitD : FnOk P w K mg base (L2.CX P w) 3 (He.ma K (tapeC K) "__init__") d_Tape_DinitD ["self", "length", "files"] (SpI K 3 rSelf (fun u : (Int × (List (Int × Int))) => [.is rInt u.1, .is (sh (rList (rPair rInt rInt))) u.2]) rNon m_Tape_DinitD)) (b_Tape_DinitD : Binds K d_Tape_DinitD ["self", "length", "files"] []) (FD : FunD K "_law_td_tape" "_law_td_tape" (defArgs (Hd.tp 15)) (defBody (Hd.tp 15)) (defScope (Hd.tp 15)) [] [] (ga K "_law_td_tape") fd) : FnOk P w K mg base (L2.CX P w) 5 (ga K "_law_td_tape") fd ["_law_shape"] (SpP K 1 (fun u : (Int × (List (Int × Int))) => [.is (rPair rInt (sh (rList (rPair rInt rInt)))) u]) (sh rTape) m__law_td_tape) :=
  fn_pure (k := 4) FD sc__law_td_tape o__law_td_tape (fun _ => rfl) fun u cdv A outer s H E hr F hio hW => ⟨_, (bx_nf (fun s => [.is (rPair rInt (sh (rList (rPair rInt rInt)))) u, .un, .un]) (fun _ => rfl) (bx_asg 1 sc__law_td_tape.nd (ex_list (eo_t (ex_plc (eo_t (ex_var 0 (cp_pair cp_int cp_sh) fun _ => rfl)) plc2_1 cp_sh fun _ _ => .t)) (cp_pair cp_int cp_int) (fun _ _ => .ts) rfl f_list) (fun v_law_given495 => (bx_nf (fun s => [.is (rPair rInt (sh (rList (rPair rInt rInt)))) u, .is (rList (rPair rInt rInt)) v_law_given495, .un]) (fun _ => rfl) (bx_asg 2 sc__law_td_tape.nd (ex_makeE (E := E) (fun q502 => (q502.1, v_law_given495)) t_mk c_Tape_DinitD (hr.mono (by decide)) rfl g_Tape b_Tape_DinitD (by exact passes_call (takes_of rfl rfl rfl rfl) fun _ _ _ _ h => h) (ea_cons (eo_t (ex_plc (eo_t (ex_var 0 (cp_pair cp_int cp_sh) fun _ => rfl)) plc2_0 cp_int fun _ _ => .t)) (ea_cons (eo_own (U := Unit) (a := ()) 1 fun _ => rfl) ea_nil)) (fun _ => rfl) (fun _ _ => (.cp cp_int .t (.sh (.v rfl) .nil))) (hWE hW) (wio hio fun _ => (.un (.un (.eq .nil))))) (fun v_law_made498 => (bx_nf (fun s => [.is (rPair rInt (sh (rList (rPair rInt rInt)))) u, .is (rList (rPair rInt rInt)) v_law_given495, .is (sh rTape) v_law_made498]) (fun _ => rfl) (bx_app 1 (ex_tup2 ex_int ex_int) (fun _ => rfl) (fun _ => rfl) fun v_law_given507 => (bx_nf (fun s => [.is (rPair rInt (sh (rList (rPair rInt rInt)))) u, .is (rList (rPair rInt rInt)) v_law_given507, .is (sh rTape) v_law_made498]) (fun _ => rfl) (bx_ret (ex_var 2 cp_sh fun _ => rfl) (wio hio fun _ => (.un (.un (.un .nil))))))))) inferInstance (fun _ => rfl)))) inferInstance (fun _ => rfl)))⟩
theorem sc__law_td_mirror : FnScope ["_law_shape", "_law_begin", "_law_end"] ["_law_shape"] (defScope (Hd.tp 17)) := ⟨rfl, rfl, rfl, by decide +kernel, rfl, by decide +kernel, by decide +kernel⟩
theorem bk__law_td_mirror_0 : BlkOk ["_law_shape", "_law_begin", "_law_end"] (defScope (Hd.tp 17)) { kind := .function, names := [(".0", .local), ("_law_begin", .local), ("_law_end", .local), ("_law_shape", .free)], isGenerator := false, isCoroutine := false, more := [] } [("_law_begin", 1), ("_law_end", 2)] := blkOk_by (by decide +kernel)
theorem ok__law_td_mirror  (FD : FunD K "_law_td_mirror" "_law_td_mirror" (defArgs (Hd.tp 17)) (defBody (Hd.tp 17)) (defScope (Hd.tp 17)) [] [] (ga K "_law_td_mirror") fd) : FnOk P w K mg base (L2.CX P w) 1 (ga K "_law_td_mirror") fd ["_law_shape"] (SpP K 1 (fun u : (Int × (List (Int × Int))) => [.is (rPair rInt (sh (rList (rPair rInt rInt)))) u]) (rPair rInt (sh (rList (rPair rInt rInt)))) m__law_td_mirror) :=
  fn_pure (k := 0) FD sc__law_td_mirror o__law_td_mirror (fun _ => rfl) fun u cdv A outer s H E hr F hio hW => ⟨_, (bx_nf (fun s => [.is (rPair rInt (sh (rList (rPair rInt rInt)))) u, .un, .un]) (fun _ => rfl) (bx_ret (ex_tup2 (ex_plc (eo_t (ex_var 0 (cp_pair cp_int cp_sh) fun _ => rfl)) plc2_0 cp_int fun _ _ => .t) (ex_freeze (ex_lcU (Gt := fun s (x512 : (Int × Int)) => [.is (rPair rInt (sh (rList (rPair rInt rInt)))) u, .is rInt x512.1, .is rInt x512.2]) s rfl sc__law_td_mirror.nd (ei_sh (ex_freeze (ex_revL (eo_t (ex_plc (eo_t (ex_var 0 (cp_pair cp_int cp_sh) fun _ => rfl)) plc2_1 cp_sh fun _ _ => .t)) (cp_pair cp_int cp_int) fun _ _ => .ts)) (cp_pair cp_int cp_int)) (fun _ => trivial) bk__law_td_mirror_0 (fun _ => (.cons rfl (.cons rfl .nil))) (by exact fun _ h => h) (fun _ _ => (.eq (.un (.un .nil)))) (fun _ _ _ _ _ _ => (eg_pair rfl (eg_name (i := 1) rfl sc__law_td_mirror.nd) (fun _ => (eg_name (i := 2) rfl sc__law_td_mirror.nd)) inferInstance)) (fun _ _ _ _ _ x512 => ets_nil) (fun _ _ _ _ _ x512 => (ex_tup2 (ex_bin op_sub (vo_I0 fun i j => i - j) (fun _ _ => stl_ret _) (ex_plc (eo_t (ex_var 0 (cp_pair cp_int cp_sh) fun _ => rfl)) plc2_0 cp_int fun _ _ => .t) (ex_var 2 cp_int fun _ => rfl)) (ex_bin op_sub (vo_I0 fun i j => i - j) (fun _ _ => stl_ret _) (ex_plc (eo_t (ex_var 0 (cp_pair cp_int cp_sh) fun _ => rfl)) plc2_0 cp_int fun _ _ => .t) (ex_var 1 cp_int fun _ => rfl)))) inferInstance inferInstance))) (wio hio fun _ => (.un (.eq (.eq .nil))))))⟩
theorem sc__law_td_is_only : FnScope ["_law_caught", "_law_others"] ["_law_caught", "_law_others"] (defScope (Hd.tp 16)) := ⟨rfl, rfl, rfl, by decide +kernel, rfl, by decide +kernel, by decide +kernel⟩
theorem ok__law_td_is_only (f_ValueError : mg "ValueError" = none) (f_isinstance : mg "isinstance" = none) (t_ki_0 : kisV K [("InvalidTape", true), ("UnknownFile", true), ("InvalidFile", true)] (.ref (ga K "TapeError")) = true) (t_ki_1 : kisV K [("InvalidTape", true), ("UnknownFile", true), ("InvalidFile", true)] (.type "ValueError") = true) (t_xis : ∀ c, c ∈ (["InvalidTape", "UnknownFile", "InvalidFile"] : List Str) → XIs K c) (g_TapeError : mg "TapeError" = some (.ref (ga K "TapeError"))) (FD : FunD K "_law_td_is_only" "_law_td_is_only" (defArgs (Hd.tp 16)) (defBody (Hd.tp 16)) (defScope (Hd.tp 16)) [] [] (ga K "_law_td_is_only") fd) : FnOk P w K mg base (L2.CX P w) 1 (ga K "_law_td_is_only") fd ["_law_caught", "_law_others"] (SpP K 2 (fun u : ((Option Exn) × (List Bool)) => [.is (sh (rOpt rExc)) u.1, .is (sh (rList rBool)) u.2]) rBool m__law_td_is_only) :=
  fn_pure (k := 0) FD sc__law_td_is_only o__law_td_is_only (fun _ => rfl) fun u cdv A outer s H E hr F hio hW => ⟨_, (bx_nf (fun s => [.is (sh (rOpt rExc)) u.1, .is (sh (rList rBool)) u.2]) (fun _ => rfl) (bx_ret (ex_and (ex_isX t_xis t_ki_0 (.own _) (pe_glob (v := .ref (ga K "TapeError")) rfl g_TapeError rfl) (eo_t (ex_var 0 cp_sh fun _ => rfl)) (fun _ _ => .ts) rfl f_isinstance) (ex_and (ex_isX t_xis t_ki_1 (.ty _) (pe_bltn rfl f_ValueError PyProof.Rows.Boot.«ValueError» rfl) (eo_t (ex_var 0 cp_sh fun _ => rfl)) (fun _ _ => .ts) rfl f_isinstance) (ex_one (ex_ninB ex_bool (eo_t (ex_var 1 cp_sh fun _ => rfl)) fun _ _ => .ts)))) (wio hio fun _ => (.un (.un .nil)))))⟩
theorem sc__law_td_unknown : FnScope ["_law_made", "_law_index_here", "_law_mode", "_law_caught", "_law_others", "e"] ["_law_made", "_law_index_here", "_law_mode"] (defScope (Hd.tp 18)) := ⟨rfl, rfl, rfl, by decide +kernel, rfl, by decide +kernel, by decide +kernel⟩
theorem ok__law_td_unknown (f_isinstance : mg "isinstance" = none) (f_repr : mg "repr" = none) (t_cls : TapeCls K) (t_ix : Mth K "__getitem__") (h_ix : PySem.W.fnIn K (He.ma K (tapeC K) "__getitem__") = true) (t_without : L2.Meth K (tapeC K) "without" (He.ma K (tapeC K) "without")) (t_ki_2 : kisTV K [("InvalidTape", true), ("UnknownFile", false), ("InvalidFile", true)] [.ref (ga K "InvalidTape"), .ref (ga K "InvalidFile"), .ref (ga K "InvalidNumber"), .ref (ga K "InvalidStep"), .ref (ga K "InvalidAsks")] = true) (t_ki_3 : kisV K [("InvalidTape", false), ("UnknownFile", true), ("InvalidFile", false)] (.ref (ga K "UnknownFile")) = true) (t_xis : ∀ c, c ∈ (["InvalidTape", "UnknownFile", "InvalidFile"] : List Str) → XIs K c) (t_xm : ∀ c, ctIn (["InvalidTape", "UnknownFile", "InvalidFile"] : List Str) c = true → PySem.W.exmOne K (.ref (ga K c)) (.ref (ga K "TapeError")) = some true) (g_InvalidAsks : mg "InvalidAsks" = some (.ref (ga K "InvalidAsks"))) (g_InvalidFile : mg "InvalidFile" = some (.ref (ga K "InvalidFile"))) (g_InvalidNumber : mg "InvalidNumber" = some (.ref (ga K "InvalidNumber"))) (g_InvalidStep : mg "InvalidStep" = some (.ref (ga K "InvalidStep"))) (g_InvalidTape : mg "InvalidTape" = some (.ref (ga K "InvalidTape"))) (g_TapeError : mg "TapeError" = some (.ref (ga K "TapeError"))) (g_UnknownFile : mg "UnknownFile" = some (.ref (ga K "UnknownFile"))) {d_Tape_DgetitemD : FuncData} (c_Tape_DgetitemD : FnOk P w K mg base (L2.CX P w) 3 (He.ma K (tapeC K) "__getitem__") d_Tape_DgetitemD ["self", "index"] (SpP K 2 (fun u : ((Int × List (Int × Int)) × Int) => [.is (sh rTape) u.1, .is rInt u.2]) (rPair rInt rInt) m_Tape_DgetitemD)) (b_Tape_DgetitemD : Binds K d_Tape_DgetitemD ["self", "index"] []) {d_Tape_without : FuncData} (c_Tape_without : FnOk P w K mg base (L2.CX P w) 5 (He.ma K (tapeC K) "without") d_Tape_without ["self", "index"] (SpP K 2 (fun u : ((Int × List (Int × Int)) × Int) => [.is (sh rTape) u.1, .is rInt u.2]) (sh rTape) m_Tape_without)) (b_Tape_without : Binds K d_Tape_without ["self", "index"] []) {d__law_td_is_only : FuncData} (c__law_td_is_only : FnOk P w K mg base (L2.CX P w) 1 (ga K "_law_td_is_only") d__law_td_is_only ["_law_caught", "_law_others"] (SpP K 2 (fun u : ((Option Exn) × (List Bool)) => [.is (sh (rOpt rExc)) u.1, .is (sh (rList rBool)) u.2]) rBool m__law_td_is_only)) (g__law_td_is_only : mg "_law_td_is_only" = some (.ref (ga K "_law_td_is_only"))) (k__law_td_is_only : PySem.W.keepIn K (.ref (ga K "_law_td_is_only")) = true) (b__law_td_is_only : Binds K d__law_td_is_only ["_law_caught", "_law_others"] []) (kb_Tape_without_1_index : KBn K d_Tape_without ["self", "index"] 1 ["index"] (fun us ws => permL [0, 1] (us ++ ws)) (fun vs zs => permL [0, 1] (vs ++ zs))) (FD : FunD K "_law_td_unknown" "_law_td_unknown" (defArgs (Hd.tp 18)) (defBody (Hd.tp 18)) (defScope (Hd.tp 18)) [] [] (ga K "_law_td_unknown") fd) : FnG P w K mg base 7 (ga K "_law_td_unknown") fd ["_law_made", "_law_index_here", "_law_mode"] (SpP K 3 (fun u : ((Int × List (Int × Int)) × Int × Int) => [.is (sh rTape) u.1, .is rInt u.2.1, .is rInt u.2.2]) rBool m__law_td_unknown) :=
  fnG_pure (k := 6) FD sc__law_td_unknown o__law_td_unknown (fun _ => rfl) fun u cdv A outer s H E hr hgd F hio hW => ⟨_, (bx_nf (fun s => [.is (sh rTape) u.1, .is rInt u.2.1, .is rInt u.2.2, .un, .un, .un]) (fun _ => rfl) (bx_asg 3 sc__law_td_unknown.nd ex_noneO (fun v_law_caught533 => (bx_nf (fun s => [.is (sh rTape) u.1, .is rInt u.2.1, .is rInt u.2.2, .is (rOpt rExc) v_law_caught533, .un, .un]) (fun _ => rfl) (bx_keep (GJ := fun (n571 : (Option Exn)) s => [.is (sh rTape) u.1, .is rInt u.2.1, .is rInt u.2.2, .is (rOpt rExc) n571, .un, .un]) 5 3 (fun s => [.is (sh rTape) u.1, .is rInt u.2.1, .is rInt u.2.2, .is (rOpt rExc) v_law_caught533, .un, .un]) (ctIn (["InvalidTape", "UnknownFile", "InvalidFile"] : List Str)) (fun (ev534 : Exn) => ((some ev534) : (Option Exn))) rfl rfl rfl sc__law_td_unknown.nd ⟨rfl, by decide, .inl g_TapeError⟩ (takes_of rfl rfl rfl rfl) t_xm (fun W534 pn534 xe534 tk534 F534 hio534 hW534 => ⟨_, (bx_nf (fun s => [.is (sh rTape) u.1, .is rInt u.2.1, .is rInt u.2.2, .is (rOpt rExc) v_law_caught533, .un, .un]) (fun _ => rfl) (bx_if (GJ := fun (n591 : Unit) s => [.is (sh rTape) u.1, .is rInt u.2.1, .is rInt u.2.2, .is (rOpt rExc) v_law_caught533, .un, .un]) (et_cmp op_eq vo_eqI (fun _ _ => stl_ret _) (ex_var 2 cp_int fun _ => rfl) ex_int rfl) (bx_nf (fun s => [.is (sh rTape) u.1, .is rInt u.2.1, .is rInt u.2.2, .is (rOpt rExc) v_law_caught533, .un, .un]) (fun _ => rfl) (bx_expr (ex_tixS t_ix h_ix c_Tape_DgetitemD b_Tape_DgetitemD (hr.mono (by decide)) tk534 hW534 (eo_t (ex_var 0 cp_sh fun _ => rfl)) (ex_var 1 cp_int fun _ => rfl) (fun _ _ => .t) (wios hio534 fun _ => (.eq (.eq (.eq (.eq (.eq (.eq .nil)))))))) (bx_end () fun _ => (.eq (.eq (.eq (.eq (.eq (.eq .nil))))))))) (bx_nf (fun s => [.is (sh rTape) u.1, .is rInt u.2.1, .is rInt u.2.2, .is (rOpt rExc) v_law_caught533, .un, .un]) (fun _ => rfl) (bx_if (GJ := fun (n603 : Unit) s => [.is (sh rTape) u.1, .is rInt u.2.1, .is rInt u.2.2, .is (rOpt rExc) v_law_caught533, .un, .un]) (et_cmp op_eq vo_eqI (fun _ _ => stl_ret _) (ex_var 2 cp_int fun _ => rfl) ex_int rfl) (bx_nf (fun s => [.is (sh rTape) u.1, .is rInt u.2.1, .is rInt u.2.2, .is (rOpt rExc) v_law_caught533, .un, .un]) (fun _ => rfl) (bx_expr (ex_methIS t_cls t_without c_Tape_without b_Tape_without (hr.mono (by decide)) tk534 hW534 (eo_t (ex_var 0 cp_sh fun _ => rfl)) (ex_var 1 cp_int fun _ => rfl) (fun _ _ => .t) (fun _ _ => .t) (wios hio534 fun _ => (.eq (.eq (.eq (.eq (.eq (.eq .nil)))))))) (bx_end () fun _ => (.eq (.eq (.eq (.eq (.eq (.eq .nil))))))))) (bx_nf (fun s => [.is (sh rTape) u.1, .is rInt u.2.1, .is rInt u.2.2, .is (rOpt rExc) v_law_caught533, .un, .un]) (fun _ => rfl) (bx_expr (ex_methKS t_cls t_without c_Tape_without kb_Tape_without_1_index (hr.mono (by decide)) tk534 hW534 (eo_t (ex_var 0 cp_sh fun _ => rfl)) (ex_var 1 cp_int fun _ => rfl) (fun _ _ => .t) (fun _ _ => .t) (wios hio534 fun _ => (.eq (.eq (.eq (.eq (.eq (.eq .nil)))))))) (bx_end () fun _ => (.eq (.eq (.eq (.eq (.eq (.eq .nil))))))))) (fun n603 => (bx_end () fun _ => (.eq (.eq (.eq (.eq (.eq (.eq .nil)))))))) inferInstance)) (fun n591 => (bx_end v_law_caught533 fun _ => (.eq (.eq (.eq (.eq (.eq (.eq .nil)))))))) inferInstance))⟩) (wio hio fun _ => (.un (.un (.un (.un (.eq (.eq .nil))))))) (fun _ => rfl) (fun _ => rfl) (fun ev534 _ => (.eq (.eq (.eq (.eq (.eq (.eq .nil))))))) (fun n571 => (bx_frz 3 (fun _ => rfl) (bx_nf (fun s => [.is (sh rTape) u.1, .is rInt u.2.1, .is rInt u.2.2, .is (sh (rOpt rExc)) n571, .un, .un]) (fun _ => rfl) (bx_asg 4 sc__law_td_unknown.nd (ex_freeze (ex_lst (r := rBool) (el_cons (ex_isXT t_xis t_ki_2 (.cons (.own _) (.cons (.own _) (.cons (.own _) (.cons (.own _) (.cons (.own _) .nil))))) (pe_tup (pa_cons (pe_glob (v := .ref (ga K "InvalidTape")) rfl g_InvalidTape rfl) (pa_cons (pe_glob (v := .ref (ga K "InvalidFile")) rfl g_InvalidFile rfl) (pa_cons (pe_glob (v := .ref (ga K "InvalidNumber")) rfl g_InvalidNumber rfl) (pa_cons (pe_glob (v := .ref (ga K "InvalidStep")) rfl g_InvalidStep rfl) (pa_cons (pe_glob (v := .ref (ga K "InvalidAsks")) rfl g_InvalidAsks rfl) pa_nil (star1 rfl)) (star1 rfl)) (star1 rfl)) (star1 rfl)) (star1 rfl))) (fun _ _ _ q => ⟨by show 5 ≤ sizeLine; decide, fun p hp => q p hp⟩) (eo_t (ex_var 3 cp_sh fun _ => rfl)) (fun _ _ => .ts) rfl f_isinstance) el_nil))) (fun v_law_others608 => (bx_nf (fun s => [.is (sh rTape) u.1, .is rInt u.2.1, .is rInt u.2.2, .is (sh (rOpt rExc)) n571, .is (sh (rList rBool)) v_law_others608, .un]) (fun _ => rfl) (bx_ifr (GE_ := fun e _ => e.elim) (et_w (ew_or (et_not (et_val (ex_isX t_xis t_ki_3 (.own _) (pe_glob (v := .ref (ga K "UnknownFile")) rfl g_UnknownFile rfl) (eo_t (ex_var 3 cp_sh fun _ => rfl)) (fun _ _ => .ts) rfl f_isinstance))) (ew_or1 (et_not (et_val (ex_call (E := E) (fun q628 => (q628.1, q628.2.1)) c__law_td_is_only (hr.mono (by decide)) rfl g__law_td_is_only k__law_td_is_only b__law_td_is_only (by exact passes_call (takes_of rfl rfl rfl rfl) fun _ _ _ _ h => h) (ea_cons (eo_t (ex_var 3 cp_sh fun _ => rfl)) (ea_cons (eo_t (ex_var 4 cp_sh fun _ => rfl)) ea_nil)) (fun _ => rfl) (.inl ⟨clo_bool, fun _ _ => (.cp cp_sh .t (.cp cp_sh .t .nil))⟩) (hWE hW) (wio hio fun _ => (.un (.un (.un (.un (.un (.eq .nil))))))))))))) (bx_nf (fun s => [.is (sh rTape) u.1, .is rInt u.2.1, .is rInt u.2.2, .is (sh (rOpt rExc)) n571, .is (sh (rList rBool)) v_law_others608, .un]) (fun _ => rfl) (bx_ret ex_bool (wio hio fun _ => (.un (.un (.un (.un (.un (.eq .nil))))))))) (bx_nf (fun s => [.is (sh rTape) u.1, .is rInt u.2.1, .is rInt u.2.2, .is (sh (rOpt rExc)) n571, .is (sh (rList rBool)) v_law_others608, .un]) (fun _ => rfl) (bx_ret (ex_cmp op_eq vo_eqS (fun _ _ => stl_ret _) (ex_repr hgd hr.units (eo_t (ex_value t_xis (eo_t (ex_var 3 cp_sh fun _ => rfl)) fun _ _ => .t)) (fun _ _ => .mk en_Pay .ts) rfl f_repr) (ex_repr hgd hr.units (eo_t (ex_var 1 cp_int fun _ => rfl)) (fun _ _ => .mk enc_int .t) rfl f_repr) rfl) (wio hio fun _ => (.un (.un (.un (.un (.un (.eq .nil)))))))))))) inferInstance (fun _ => rfl))))) inferInstance inferInstance))) inferInstance (fun _ => rfl)))⟩
theorem sc__law_td_is_shape : FnScope ["_law_made", "_law_shape", "_law_spot"] ["_law_made", "_law_shape", "_law_spot"] (defScope (Hd.tp 19)) := ⟨rfl, rfl, rfl, by decide +kernel, rfl, by decide +kernel, by decide +kernel⟩
theorem ok__law_td_is_shape (f_isinstance : mg "isinstance" = none) (f_len : mg "len" = none) (f_list : mg "list" = none) (t_cls : TapeCls K) (t_length : Prp K (tapeC K) "length") (t_files : Prp K (tapeC K) "files") (t_ix : Mth K "__getitem__") (h_ix : PySem.W.fnIn K (He.ma K (tapeC K) "__getitem__") = true) (t_len : Mth K "__len__") (t_eq : L2.Meth K (tapeC K) "__eq__" (He.ma K (tapeC K) "__eq__")) (t_isi : SlX.SIsi K (tapeC K)) (t_mk : Mk K (tapeC K) (He.ma K (tapeC K) "__init__")) (g_Tape : mg "Tape" = some (.ref (tapeC K))) {d_Tape_DeqD : FuncData} (c_Tape_DeqD : FnOk P w K mg base (L2.CX P w) 1 (He.ma K (tapeC K) "__eq__") d_Tape_DeqD ["self", "other"] (SpP K 2 (fun u : ((Int × List (Int × Int)) × (Int × List (Int × Int))) => [.is (sh rTape) u.1, .is (sh rTape) u.2]) rBool m_Tape_DeqD)) (b_Tape_DeqD : Binds K d_Tape_DeqD ["self", "other"] []) {d_Tape_DgetitemD : FuncData} (c_Tape_DgetitemD : FnOk P w K mg base (L2.CX P w) 3 (He.ma K (tapeC K) "__getitem__") d_Tape_DgetitemD ["self", "index"] (SpP K 2 (fun u : ((Int × List (Int × Int)) × Int) => [.is (sh rTape) u.1, .is rInt u.2]) (rPair rInt rInt) m_Tape_DgetitemD)) (b_Tape_DgetitemD : Binds K d_Tape_DgetitemD ["self", "index"] []) {d_Tape_DinitD : FuncData} (c_Tape_DinitD : FnOk P w K mg base (L2.CX P w) 3 (He.ma K (tapeC K) "__init__") d_Tape_DinitD ["self", "length", "files"] (SpI K 3 rSelf (fun u : (Int × (List (Int × Int))) => [.is rInt u.1, .is (sh (rList (rPair rInt rInt))) u.2]) rNon m_Tape_DinitD)) (b_Tape_DinitD : Binds K d_Tape_DinitD ["self", "length", "files"] []) {d_Tape_DlenD : FuncData} (c_Tape_DlenD : FnOk P w K mg base (L2.CX P w) 1 (He.ma K (tapeC K) "__len__") d_Tape_DlenD ["self"] (SpP K 1 (fun u : (Int × List (Int × Int)) => [.is (sh rTape) u]) rInt m_Tape_DlenD)) (b_Tape_DlenD : Binds K d_Tape_DlenD ["self"] []) {d_Tape_files : FuncData} (c_Tape_files : FnOk P w K mg base (L2.CX P w) 1 (pgA K (tapeC K) "files") d_Tape_files ["self"] (SpP K 1 (fun u : (Int × List (Int × Int)) => [.is (sh rTape) u]) (rList (rPair rInt rInt)) m_Tape_files)) (b_Tape_files : Binds K d_Tape_files ["self"] []) {d_Tape_length : FuncData} (c_Tape_length : FnOk P w K mg base (L2.CX P w) 1 (pgA K (tapeC K) "length") d_Tape_length ["self"] (SpP K 1 (fun u : (Int × List (Int × Int)) => [.is (sh rTape) u]) rInt m_Tape_length)) (b_Tape_length : Binds K d_Tape_length ["self"] []) (FD : FunD K "_law_td_is_shape" "_law_td_is_shape" (defArgs (Hd.tp 19)) (defBody (Hd.tp 19)) (defScope (Hd.tp 19)) [] [] (ga K "_law_td_is_shape") fd) : FnG P w K mg base 5 (ga K "_law_td_is_shape") fd ["_law_made", "_law_shape", "_law_spot"] (SpP K 3 (fun u : ((Int × List (Int × Int)) × (Int × (List (Int × Int))) × Int) => [.is (sh rTape) u.1, .is (rPair rInt (sh (rList (rPair rInt rInt)))) u.2.1, .is rInt u.2.2]) rBool m__law_td_is_shape) :=
  fnG_pure (k := 4) FD sc__law_td_is_shape o__law_td_is_shape (fun _ => rfl) fun u cdv A outer s H E hr hgd F hio hW => ⟨_, (bx_nf (fun s => [.is (sh rTape) u.1, .is (rPair rInt (sh (rList (rPair rInt rInt)))) u.2.1, .is rInt u.2.2]) (fun _ => rfl) (bx_ifr (GE_ := fun e _ => e.elim) (et_w (ew_or (et_cmp op_ne vo_neI (fun _ _ => stl_ret _) (ex_prop t_cls t_length c_Tape_length b_Tape_length (hr.mono (by decide)) (eo_t (ex_var 0 cp_sh fun _ => rfl)) fun _ _ => .t) (ex_plc (eo_t (ex_var 1 (cp_pair cp_int cp_sh) fun _ => rfl)) plc2_0 cp_int fun _ _ => .t) rfl) (ew_or (et_cmp op_ne vo_neI (fun _ _ => stl_ret _) (ex_tlen t_len c_Tape_DlenD b_Tape_DlenD (hr.mono (by decide)) (eo_t (ex_var 0 cp_sh fun _ => rfl)) (fun _ _ => .t) rfl f_len) (ex_len (eo_t (ex_plc (eo_t (ex_var 1 (cp_pair cp_int cp_sh) fun _ => rfl)) plc2_1 cp_sh fun _ _ => .t)) (fun _ _ => .ts) rfl f_len) rfl) (ew_or1 (et_neD hr.units (eo_t (ex_prop t_cls t_files c_Tape_files b_Tape_files (hr.mono (by decide)) (eo_t (ex_var 0 cp_sh fun _ => rfl)) fun _ _ => .t)) (eo_t (ex_plc (eo_t (ex_var 1 (cp_pair cp_int cp_sh) fun _ => rfl)) plc2_1 cp_sh fun _ _ => .t)) (fun _ _ => .mk (en_L (en_P enc_int enc_int)) .t) (fun _ _ => .mk (en_L (en_P enc_int enc_int)) .ts)))))) (bx_nf (fun s => [.is (sh rTape) u.1, .is (rPair rInt (sh (rList (rPair rInt rInt)))) u.2.1, .is rInt u.2.2]) (fun _ => rfl) (bx_ret ex_bool (wio hio fun _ => (.un (.un (.un .nil)))))) (bx_nf (fun s => [.is (sh rTape) u.1, .is (rPair rInt (sh (rList (rPair rInt rInt)))) u.2.1, .is rInt u.2.2]) (fun _ => rfl) (bx_ifr (GE_ := fun e _ => e.elim) (et_w (ew_and (et_cmp op_lt (vo_B0 fun i j => decide (i < j)) (fun _ _ => stl_ret _) (ex_var 2 cp_int fun _ => rfl) (ex_len (eo_t (ex_plc (eo_t (ex_var 1 (cp_pair cp_int cp_sh) fun _ => rfl)) plc2_1 cp_sh fun _ _ => .t)) (fun _ _ => .ts) rfl f_len) rfl) (ew_and1 (et_neD hr.units (eo_t (ex_tix t_ix h_ix c_Tape_DgetitemD b_Tape_DgetitemD (hr.mono (by decide)) (eo_t (ex_var 0 cp_sh fun _ => rfl)) (ex_var 2 cp_int fun _ => rfl) fun _ _ => .t)) (eo_t (ex_ix (eo_t (ex_plc (eo_t (ex_var 1 (cp_pair cp_int cp_sh) fun _ => rfl)) plc2_1 cp_sh fun _ _ => .t)) (ex_var 2 cp_int fun _ => rfl) (cp_pair cp_int cp_int) fun _ _ => .ts)) (fun _ _ => .mk (en_P enc_int enc_int) .t) (fun _ _ => .mk (en_P enc_int enc_int) .t))))) (bx_nf (fun s => [.is (sh rTape) u.1, .is (rPair rInt (sh (rList (rPair rInt rInt)))) u.2.1, .is rInt u.2.2]) (fun _ => rfl) (bx_ret ex_bool (wio hio fun _ => (.un (.un (.un .nil)))))) (bx_nf (fun s => [.is (sh rTape) u.1, .is (rPair rInt (sh (rList (rPair rInt rInt)))) u.2.1, .is rInt u.2.2]) (fun _ => rfl) (bx_ret (ex_and (ex_eqTape t_eq c_Tape_DeqD b_Tape_DeqD (hr.mono (by decide)) (eo_t (ex_var 0 cp_sh fun _ => rfl)) (eo_t (ex_make (E := E) (fun q710 => (q710.1, q710.2.1)) t_mk c_Tape_DinitD (hr.mono (by decide)) rfl g_Tape b_Tape_DinitD (by exact passes_call (takes_of rfl rfl rfl rfl) fun _ _ _ _ h => h) (ea_cons (eo_t (ex_plc (eo_t (ex_var 1 (cp_pair cp_int cp_sh) fun _ => rfl)) plc2_0 cp_int fun _ _ => .t)) (ea_cons (eo_t (ex_freeze (ex_list (eo_t (ex_plc (eo_t (ex_var 1 (cp_pair cp_int cp_sh) fun _ => rfl)) plc2_1 cp_sh fun _ _ => .t)) (cp_pair cp_int cp_int) (fun _ _ => .ts) rfl f_list))) ea_nil)) (fun _ => rfl) (fun _ _ => (.cp cp_int (.tc cp_int) (.cp cp_sh (.tc cp_sh) .nil))) (hWE hW) (wio hio fun _ => (.un (.un (.un .nil)))))) (fun _ _ => .t) (fun _ _ => .t) (wio hio fun _ => (.un (.un (.un .nil))))) (ex_one (ex_isTape t_cls t_isi (eo_t (ex_var 0 cp_sh fun _ => rfl)) (fun _ _ => .t) rfl f_isinstance rfl g_Tape))) (wio hio fun _ => (.un (.un (.un .nil))))))))))⟩
theorem sc__law_td_right : FnScope ["_law_sack", "_law_came", "_law_elder", "_law_kept", "_law_made", "_law_many", "_law_mode", "_law_odd", "_law_owed", "_law_pair", "_law_shape", "_law_spot", "_law_thing", "_law_turn"] ["_law_sack"] (defScope (Hd.tp 20)) := ⟨rfl, rfl, rfl, by decide +kernel, rfl, by decide +kernel, by decide +kernel⟩
theorem bk__law_td_right_0 : BlkOk ["_law_sack", "_law_came", "_law_elder", "_law_kept", "_law_made", "_law_many", "_law_mode", "_law_odd", "_law_owed", "_law_pair", "_law_shape", "_law_spot", "_law_thing", "_law_turn"] (defScope (Hd.tp 20)) { kind := .function, names := [(".0", .local), ("_law_pair", .local)], isGenerator := false, isCoroutine := false, more := [] } [("_law_pair", 9)] := blkOk_by (by decide +kernel)
theorem ok__law_td_right (f_len : mg "len" = none) (f_range : mg "range" = none) (t_cls : TapeCls K) (t_length : Prp K (tapeC K) "length") (t_files : Prp K (tapeC K) "files") (t_eq : L2.Meth K (tapeC K) "__eq__" (He.ma K (tapeC K) "__eq__")) (t_turned : L2.Meth K (tapeC K) "turned" (He.ma K (tapeC K) "turned")) (t_without : L2.Meth K (tapeC K) "without" (He.ma K (tapeC K) "without")) (t_nec : NeCls K (tapeC K)) {d_Tape_DeqD : FuncData} (c_Tape_DeqD : FnOk P w K mg base (L2.CX P w) 1 (He.ma K (tapeC K) "__eq__") d_Tape_DeqD ["self", "other"] (SpP K 2 (fun u : ((Int × List (Int × Int)) × (Int × List (Int × Int))) => [.is (sh rTape) u.1, .is (sh rTape) u.2]) rBool m_Tape_DeqD)) (b_Tape_DeqD : Binds K d_Tape_DeqD ["self", "other"] []) {d_Tape_files : FuncData} (c_Tape_files : FnOk P w K mg base (L2.CX P w) 1 (pgA K (tapeC K) "files") d_Tape_files ["self"] (SpP K 1 (fun u : (Int × List (Int × Int)) => [.is (sh rTape) u]) (rList (rPair rInt rInt)) m_Tape_files)) (b_Tape_files : Binds K d_Tape_files ["self"] []) {d_Tape_length : FuncData} (c_Tape_length : FnOk P w K mg base (L2.CX P w) 1 (pgA K (tapeC K) "length") d_Tape_length ["self"] (SpP K 1 (fun u : (Int × List (Int × Int)) => [.is (sh rTape) u]) rInt m_Tape_length)) (b_Tape_length : Binds K d_Tape_length ["self"] []) {d_Tape_turned : FuncData} (c_Tape_turned : FnOk P w K mg base (L2.CX P w) 5 (He.ma K (tapeC K) "turned") d_Tape_turned ["self"] (SpP K 1 (fun u : (Int × List (Int × Int)) => [.is (sh rTape) u]) (sh rTape) m_Tape_turned)) (b_Tape_turned : Binds K d_Tape_turned ["self"] []) {d_Tape_without : FuncData} (c_Tape_without : FnOk P w K mg base (L2.CX P w) 5 (He.ma K (tapeC K) "without") d_Tape_without ["self", "index"] (SpP K 2 (fun u : ((Int × List (Int × Int)) × Int) => [.is (sh rTape) u.1, .is rInt u.2]) (sh rTape) m_Tape_without)) (b_Tape_without : Binds K d_Tape_without ["self", "index"] []) {d__law_td_is_shape : FuncData} (c__law_td_is_shape : FnG P w K mg base 5 (ga K "_law_td_is_shape") d__law_td_is_shape ["_law_made", "_law_shape", "_law_spot"] (SpP K 3 (fun u : ((Int × List (Int × Int)) × (Int × (List (Int × Int))) × Int) => [.is (sh rTape) u.1, .is (rPair rInt (sh (rList (rPair rInt rInt)))) u.2.1, .is rInt u.2.2]) rBool m__law_td_is_shape)) (g__law_td_is_shape : mg "_law_td_is_shape" = some (.ref (ga K "_law_td_is_shape"))) (k__law_td_is_shape : PySem.W.keepIn K (.ref (ga K "_law_td_is_shape")) = true) (b__law_td_is_shape : Binds K d__law_td_is_shape ["_law_made", "_law_shape", "_law_spot"] []) {d__law_td_mirror : FuncData} (c__law_td_mirror : FnOk P w K mg base (L2.CX P w) 1 (ga K "_law_td_mirror") d__law_td_mirror ["_law_shape"] (SpP K 1 (fun u : (Int × (List (Int × Int))) => [.is (rPair rInt (sh (rList (rPair rInt rInt)))) u]) (rPair rInt (sh (rList (rPair rInt rInt)))) m__law_td_mirror)) (g__law_td_mirror : mg "_law_td_mirror" = some (.ref (ga K "_law_td_mirror"))) (k__law_td_mirror : PySem.W.keepIn K (.ref (ga K "_law_td_mirror")) = true) (b__law_td_mirror : Binds K d__law_td_mirror ["_law_shape"] []) {d__law_td_pick : FuncData} (c__law_td_pick : FnOk P w K mg base (L2.CX P w) 1 (ga K "_law_td_pick") d__law_td_pick ["_law_sack", "_law_many"] (SpI K 2 (rList rInt) (fun u : Int => [.is rInt u]) rInt m__law_td_pick)) (g__law_td_pick : mg "_law_td_pick" = some (.ref (ga K "_law_td_pick"))) (k__law_td_pick : PySem.W.keepIn K (.ref (ga K "_law_td_pick")) = true) (b__law_td_pick : Binds K d__law_td_pick ["_law_sack", "_law_many"] []) {d__law_td_shape : FuncData} (c__law_td_shape : FnOk P w K mg base (L2.CX P w) 2 (ga K "_law_td_shape") d__law_td_shape ["_law_sack", "_law_most"] (SpI K 2 (rList rInt) (fun u : Int => [.is rInt u]) (rPair rInt (sh (rList (rPair rInt rInt)))) m__law_td_shape)) (g__law_td_shape : mg "_law_td_shape" = some (.ref (ga K "_law_td_shape"))) (k__law_td_shape : PySem.W.keepIn K (.ref (ga K "_law_td_shape")) = true) (b__law_td_shape : Binds K d__law_td_shape ["_law_sack", "_law_most"] []) {d__law_td_tape : FuncData} (c__law_td_tape : FnOk P w K mg base (L2.CX P w) 5 (ga K "_law_td_tape") d__law_td_tape ["_law_shape"] (SpP K 1 (fun u : (Int × (List (Int × Int))) => [.is (rPair rInt (sh (rList (rPair rInt rInt)))) u]) (sh rTape) m__law_td_tape)) (g__law_td_tape : mg "_law_td_tape" = some (.ref (ga K "_law_td_tape"))) (k__law_td_tape : PySem.W.keepIn K (.ref (ga K "_law_td_tape")) = true) (b__law_td_tape : Binds K d__law_td_tape ["_law_shape"] []) {d__law_td_unknown : FuncData} (c__law_td_unknown : FnG P w K mg base 7 (ga K "_law_td_unknown") d__law_td_unknown ["_law_made", "_law_index_here", "_law_mode"] (SpP K 3 (fun u : ((Int × List (Int × Int)) × Int × Int) => [.is (sh rTape) u.1, .is rInt u.2.1, .is rInt u.2.2]) rBool m__law_td_unknown)) (g__law_td_unknown : mg "_law_td_unknown" = some (.ref (ga K "_law_td_unknown"))) (k__law_td_unknown : PySem.W.keepIn K (.ref (ga K "_law_td_unknown")) = true) (b__law_td_unknown : Binds K d__law_td_unknown ["_law_made", "_law_index_here", "_law_mode"] []) {d__law_td_wide_shape : FuncData} (c__law_td_wide_shape : FnOk P w K mg base (L2.CX P w) 2 (ga K "_law_td_wide_shape") d__law_td_wide_shape ["_law_sack"] (SpI K 1 (rList rInt) (fun u : Unit => []) (rPair rInt (sh (rList (rPair rInt rInt)))) m__law_td_wide_shape)) (g__law_td_wide_shape : mg "_law_td_wide_shape" = some (.ref (ga K "_law_td_wide_shape"))) (k__law_td_wide_shape : PySem.W.keepIn K (.ref (ga K "_law_td_wide_shape")) = true) (b__law_td_wide_shape : Binds K d__law_td_wide_shape ["_law_sack"] []) (kb_Tape_without_1_index : KBn K d_Tape_without ["self", "index"] 1 ["index"] (fun us ws => permL [0, 1] (us ++ ws)) (fun vs zs => permL [0, 1] (vs ++ zs))) (FD : FunD K "_law_td_right" "_law_td_right" (defArgs (Hd.tp 20)) (defBody (Hd.tp 20)) (defScope (Hd.tp 20)) [] [] (ga K "_law_td_right") fd) : FnG P w K mg base 8 (ga K "_law_td_right") fd ["_law_sack"] (SpI K 1 (rList rInt) (fun u : Unit => []) rBool m__law_td_right) :=
  fnG_io (k := 7) FD sc__law_td_right o__law_td_right (fun _ => rfl) fun u v0 cdv A outer s H E hr hgd F hio hW => ⟨_, (bx_nf (fun s => [.pn v0 (rList rInt) s, .un, .un, .un, .un, .un, .un, .un, .un, .un, .un, .un, .un, .un]) (fun _ => rfl) (bx_asg 10 sc__law_td_right.nd (ex_if (et_cmp op_eq vo_eqI (fun _ _ => stl_ret _) (ex_callIo (E := E) 0 (fun q724 => q724.2.1) c__law_td_pick (hr.mono (by decide)) rfl g__law_td_pick k__law_td_pick b__law_td_pick (by exact passes_call (takes_of rfl rfl rfl rfl) fun _ _ _ _ h => h) (clo_list clo_int) (ea_cons (eo_pn (U := Unit) (a := ()) 0 fun _ => rfl) (ea_cons (eo_t ex_int) ea_nil)) (fun _ => rfl) (fun _ => rfl) (fun _ _ => rfl) (fun _ _ => (.cp cp_int (.tc cp_int) .nil)) (hWE hW) (wios hio fun _ => (.eq (.eq (.eq (.eq (.eq (.eq (.eq (.eq (.eq (.eq (.eq (.eq (.eq (.eq .nil)))))))))))))))) ex_int rfl) (ex_callIo (E := E) 0 (fun q726 => ()) c__law_td_wide_shape (hr.mono (by decide)) rfl g__law_td_wide_shape k__law_td_wide_shape b__law_td_wide_shape (by exact passes_call (takes_of rfl rfl rfl rfl) fun _ _ _ _ h => h) (clo_list clo_int) (ea_cons (eo_pn (U := Unit) (a := ()) 0 fun _ => rfl) ea_nil) (fun _ => rfl) (fun _ => rfl) (fun _ _ => rfl) (fun _ _ => .nil) (hWE hW) (wios hio fun _ => (.eq (.eq (.eq (.eq (.eq (.eq (.eq (.eq (.eq (.eq (.eq (.eq (.eq (.eq .nil)))))))))))))))) (ex_callIo (E := E) 0 (fun q730 => q730.2.1) c__law_td_shape (hr.mono (by decide)) rfl g__law_td_shape k__law_td_shape b__law_td_shape (by exact passes_call (takes_of rfl rfl rfl rfl) fun _ _ _ _ h => h) (clo_list clo_int) (ea_cons (eo_pn (U := Unit) (a := ()) 0 fun _ => rfl) (ea_cons (eo_t ex_int) ea_nil)) (fun _ => rfl) (fun _ => rfl) (fun _ _ => rfl) (fun _ _ => (.cp cp_int (.tc cp_int) .nil)) (hWE hW) (wios hio fun _ => (.eq (.eq (.eq (.eq (.eq (.eq (.eq (.eq (.eq (.eq (.eq (.eq (.eq (.eq .nil))))))))))))))))) (fun v_law_shape715 => (bx_nf (fun s => [.pn v0 (rList rInt) s, .un, .un, .un, .un, .un, .un, .un, .un, .un, .is (rPair rInt (sh (rList (rPair rInt rInt)))) v_law_shape715, .un, .un, .un]) (fun _ => rfl) (bx_asg 4 sc__law_td_right.nd (ex_call (E := E) (fun q736 => q736.1) c__law_td_tape (hr.mono (by decide)) rfl g__law_td_tape k__law_td_tape b__law_td_tape (by exact passes_call (takes_of rfl rfl rfl rfl) fun _ _ _ _ h => h) (ea_cons (eo_t (ex_var 10 (cp_pair cp_int cp_sh) fun _ => rfl)) ea_nil) (fun _ => rfl) (.inr fun _ _ => (.cp (cp_pair cp_int cp_sh) (.tc (cp_pair cp_int cp_sh)) .nil)) (hWE hW) (wios hio fun _ => (.eq (.eq (.eq (.eq (.eq (.eq (.eq (.eq (.eq (.eq (.un (.eq (.eq (.eq .nil)))))))))))))))) (fun v_law_made733 => (bx_nf (fun s => [.pn v0 (rList rInt) s, .un, .un, .un, .is (sh rTape) v_law_made733, .un, .un, .un, .un, .un, .is (rPair rInt (sh (rList (rPair rInt rInt)))) v_law_shape715, .un, .un, .un]) (fun _ => rfl) (bx_asg 3 sc__law_td_right.nd (ex_lst (r := (rPair (sh rTape) (rPair rInt (sh (rList (rPair rInt rInt)))))) (el_cons (ex_tup2 (ex_var 4 cp_sh fun _ => rfl) (ex_var 10 (cp_pair cp_int cp_sh) fun _ => rfl)) el_nil)) (fun v_law_kept737 => (bx_nf (fun s => [.pn v0 (rList rInt) s, .un, .un, .is (rList (rPair (sh rTape) (rPair rInt (sh (rList (rPair rInt rInt)))))) v_law_kept737, .is (sh rTape) v_law_made733, .un, .un, .un, .un, .un, .is (rPair rInt (sh (rList (rPair rInt rInt)))) v_law_shape715, .un, .un, .un]) (fun _ => rfl) (bx_for (Gt := fun (l743 : ((List ((Int × List (Int × Int)) × (Int × (List (Int × Int))))) × (Int × (List (Int × Int))))) s (x752 : Int) => [.pn v0 (rList rInt) s, .un, .un, .is (rList (rPair (sh rTape) (rPair rInt (sh (rList (rPair rInt rInt)))))) l743.1, .is (sh rTape) v_law_made733, .un, .un, .un, .un, .un, .is (rPair rInt (sh (rList (rPair rInt rInt)))) l743.2, .un, .un, .is rInt x752]) (passes_of rfl) rfl (fun (l743 : ((List ((Int × List (Int × Int)) × (Int × (List (Int × Int))))) × (Int × (List (Int × Int))))) s => [.pn v0 (rList rInt) s, .un, .un, .is (rList (rPair (sh rTape) (rPair rInt (sh (rList (rPair rInt rInt)))))) l743.1, .is (sh rTape) v_law_made733, .un, .un, .un, .un, .un, .is (rPair rInt (sh (rList (rPair rInt rInt)))) l743.2, .un, .un, .un]) (v_law_kept737, v_law_shape715) (ei_rng1 (ex_bin op_add (vo_I0 fun i j => i + j) (fun _ _ => stl_ret _) ex_int (ex_callIo (E := E) 0 (fun q746 => q746.2.1) c__law_td_pick (hr.mono (by decide)) rfl g__law_td_pick k__law_td_pick b__law_td_pick (by exact passes_call (takes_of rfl rfl rfl rfl) fun _ _ _ _ h => h) (clo_list clo_int) (ea_cons (eo_pn (U := Unit) (a := ()) 0 fun _ => rfl) (ea_cons (eo_t ex_int) ea_nil)) (fun _ => rfl) (fun _ => rfl) (fun _ _ => rfl) (fun _ _ => (.cp cp_int (.tc cp_int) .nil)) (hWE hW) (wios hio fun _ => (.eq (.eq (.eq (.un (.un (.eq (.eq (.eq (.eq (.eq (.un (.eq (.eq (.eq .nil))))))))))))))))) rfl f_range) (fun _ => (.eq (.eq (.eq (.eq (.eq (.eq (.eq (.eq (.eq (.eq (.eq (.eq (.eq (.eq .nil))))))))))))))) (fun _ _ => trivial) (fun l743 _ => (eg_name (i := 13) rfl sc__law_td_right.nd)) (fun l743 x752 => (bx_nf (fun s => [.pn v0 (rList rInt) s, .un, .un, .is (rList (rPair (sh rTape) (rPair rInt (sh (rList (rPair rInt rInt)))))) l743.1, .is (sh rTape) v_law_made733, .un, .un, .un, .un, .un, .is (rPair rInt (sh (rList (rPair rInt rInt)))) l743.2, .un, .un, .is rInt x752]) (fun _ => rfl) (bx_tgt (Gt := fun s (w779 : ((Int × List (Int × Int)) × (Int × (List (Int × Int))))) => [.pn v0 (rList rInt) s, .un, .is (sh rTape) w779.1, .is (rList (rPair (sh rTape) (rPair rInt (sh (rList (rPair rInt rInt)))))) l743.1, .is (sh rTape) v_law_made733, .un, .un, .un, .un, .un, .is (rPair rInt (sh (rList (rPair rInt rInt)))) w779.2, .un, .un, .is rInt x752]) (ex_ix (eo_own (U := Unit) (a := ()) 3 fun _ => rfl) (ex_ix (eo_t (ex_lst (r := rInt) (el_cons (ex_bin op_sub (vo_I0 fun i j => i - j) (fun _ _ => stl_ret _) (ex_len (eo_own (U := Unit) (a := ()) 3 fun _ => rfl) (fun _ _ => (.v rfl)) rfl f_len) ex_int) (el_cons (ex_callIo (E := E) 0 (fun q763 => q763.2.1) c__law_td_pick (hr.mono (by decide)) rfl g__law_td_pick k__law_td_pick b__law_td_pick (by exact passes_call (takes_of rfl rfl rfl rfl) fun _ _ _ _ h => h) (clo_list clo_int) (ea_cons (eo_pn (U := Unit) (a := ()) 0 fun _ => rfl) (ea_cons (eo_t (ex_len (eo_own (U := Unit) (a := ()) 3 fun _ => rfl) (fun _ _ => (.v rfl)) rfl f_len)) ea_nil)) (fun _ => rfl) (fun _ => rfl) (fun _ _ => rfl) (fun _ _ => (.cp cp_int (.tc cp_int) .nil)) (hWE hW) (wios hio fun _ => (.eq (.eq (.eq (.un (.un (.eq (.eq (.eq (.eq (.eq (.un (.eq (.eq (.un .nil)))))))))))))))) el_nil)))) (ex_callIo (E := E) 0 (fun q775 => q775.2.1) c__law_td_pick (hr.mono (by decide)) rfl g__law_td_pick k__law_td_pick b__law_td_pick (by exact passes_call (takes_of rfl rfl rfl rfl) fun _ _ _ _ h => h) (clo_list clo_int) (ea_cons (eo_pn (U := Unit) (a := ()) 0 fun _ => rfl) (ea_cons (eo_t ex_int) ea_nil)) (fun _ => rfl) (fun _ => rfl) (fun _ _ => rfl) (fun _ _ => (.cp cp_int (.tc cp_int) .nil)) (hWE hW) (wios hio fun _ => (.eq (.eq (.eq (.un (.un (.eq (.eq (.eq (.eq (.eq (.un (.eq (.eq (.un .nil)))))))))))))))) cp_int fun _ _ => .t) (cp_pair cp_sh (cp_pair cp_int cp_sh)) fun _ _ => (.v rfl)) (fun _ => (eg_pair rfl (eg_name (i := 2) rfl sc__law_td_right.nd) (fun _ => (eg_name (i := 10) rfl sc__law_td_right.nd)) inferInstance)) (fun w779 => (bx_nf (fun s => [.pn v0 (rList rInt) s, .un, .is (sh rTape) w779.1, .is (rList (rPair (sh rTape) (rPair rInt (sh (rList (rPair rInt rInt)))))) l743.1, .is (sh rTape) v_law_made733, .un, .un, .un, .un, .un, .is (rPair rInt (sh (rList (rPair rInt rInt)))) w779.2, .un, .un, .is rInt x752]) (fun _ => rfl) (bx_par 5 6 sc__law_td_right.nd rfl (by decide) (ex_len (eo_t (ex_plc (eo_t (ex_var 10 (cp_pair cp_int cp_sh) fun _ => rfl)) plc2_1 cp_sh fun _ _ => .t)) (fun _ _ => .ts) rfl f_len) (ex_callIo (E := E) 0 (fun q784 => q784.2.1) c__law_td_pick (hr.mono (by decide)) rfl g__law_td_pick k__law_td_pick b__law_td_pick (by exact passes_call (takes_of rfl rfl rfl rfl) fun _ _ _ _ h => h) (clo_list clo_int) (ea_cons (eo_pn (U := Unit) (a := ()) 0 fun _ => rfl) (ea_cons (eo_t ex_int) ea_nil)) (fun _ => rfl) (fun _ => rfl) (fun _ _ => rfl) (fun _ _ => (.cp cp_int (.tc cp_int) .nil)) (hWE hW) (wios hio fun _ => (.eq (.eq (.un (.un (.un (.eq (.eq (.eq (.eq (.eq (.un (.eq (.eq (.un .nil)))))))))))))))) (fun v_law_many786 v_law_mode787 => (bx_nf (fun s => [.pn v0 (rList rInt) s, .un, .is (sh rTape) w779.1, .is (rList (rPair (sh rTape) (rPair rInt (sh (rList (rPair rInt rInt)))))) l743.1, .is (sh rTape) v_law_made733, .is rInt v_law_many786, .is rInt v_law_mode787, .un, .un, .un, .is (rPair rInt (sh (rList (rPair rInt rInt)))) w779.2, .un, .un, .is rInt x752]) (fun _ => rfl) (bx_asg 11 sc__law_td_right.nd (ex_callIo (E := E) 0 (fun q793 => q793.2.1) c__law_td_pick (hr.mono (by decide)) rfl g__law_td_pick k__law_td_pick b__law_td_pick (by exact passes_call (takes_of rfl rfl rfl rfl) fun _ _ _ _ h => h) (clo_list clo_int) (ea_cons (eo_pn (U := Unit) (a := ()) 0 fun _ => rfl) (ea_cons (eo_t (ex_bin op_add (vo_I0 fun i j => i + j) (fun _ _ => stl_ret _) (ex_var 5 cp_int fun _ => rfl) ex_int)) ea_nil)) (fun _ => rfl) (fun _ => rfl) (fun _ _ => rfl) (fun _ _ => (.cp cp_int (.tc cp_int) .nil)) (hWE hW) (wios hio fun _ => (.eq (.eq (.un (.un (.un (.un (.un (.eq (.eq (.eq (.un (.eq (.eq (.un .nil)))))))))))))))) (fun v_law_spot788 => (bx_nf (fun s => [.pn v0 (rList rInt) s, .un, .is (sh rTape) w779.1, .is (rList (rPair (sh rTape) (rPair rInt (sh (rList (rPair rInt rInt)))))) l743.1, .is (sh rTape) v_law_made733, .is rInt v_law_many786, .is rInt v_law_mode787, .un, .un, .un, .is (rPair rInt (sh (rList (rPair rInt rInt)))) w779.2, .is rInt v_law_spot788, .un, .is rInt x752]) (fun _ => rfl) (bx_if (GJ := fun (n982 : (List ((Int × List (Int × Int)) × (Int × (List (Int × Int)))))) s => [.pn v0 (rList rInt) s, .un, .is (sh rTape) w779.1, .is (rList (rPair (sh rTape) (rPair rInt (sh (rList (rPair rInt rInt)))))) n982, .is (sh rTape) v_law_made733, .is rInt v_law_many786, .is rInt v_law_mode787, .un, .un, .un, .is (rPair rInt (sh (rList (rPair rInt rInt)))) w779.2, .is rInt v_law_spot788, .un, .is rInt x752]) (et_w (ew_or (et_cmp op_eq vo_eqI (fun _ _ => stl_ret _) (ex_var 6 cp_int fun _ => rfl) ex_int rfl) (ew_or1 (et_cmp op_eq vo_eqI (fun _ _ => stl_ret _) (ex_var 11 cp_int fun _ => rfl) (ex_var 5 cp_int fun _ => rfl) rfl)))) (bx_nf (fun s => [.pn v0 (rList rInt) s, .un, .is (sh rTape) w779.1, .is (rList (rPair (sh rTape) (rPair rInt (sh (rList (rPair rInt rInt)))))) l743.1, .is (sh rTape) v_law_made733, .is rInt v_law_many786, .is rInt v_law_mode787, .un, .un, .un, .is (rPair rInt (sh (rList (rPair rInt rInt)))) w779.2, .is rInt v_law_spot788, .un, .is rInt x752]) (fun _ => rfl) (bx_asg 7 sc__law_td_right.nd (ex_freeze (ex_lst (r := rInt) (el_cons (ex_var 5 cp_int fun _ => rfl) (el_cons (ex_bin op_add (vo_I0 fun i j => i + j) (fun _ _ => stl_ret _) (ex_var 5 cp_int fun _ => rfl) ex_int) (el_cons (ex_neg ex_int) (el_cons (ex_bin op_sub (vo_I0 fun i j => i - j) (fun _ _ => stl_ret _) (ex_neg ex_int) (ex_var 5 cp_int fun _ => rfl)) (el_cons (ex_bin op_sub (vo_I0 fun i j => i - j) (fun _ _ => stl_ret _) (ex_neg ex_int) (ex_callIo (E := E) 0 (fun q998 => q998.2.1) c__law_td_pick (hr.mono (by decide)) rfl g__law_td_pick k__law_td_pick b__law_td_pick (by exact passes_call (takes_of rfl rfl rfl rfl) fun _ _ _ _ h => h) (clo_list clo_int) (ea_cons (eo_pn (U := Unit) (a := ()) 0 fun _ => rfl) (ea_cons (eo_t (ex_bin op_powV vo_pow stl_pow ex_int ex_int)) ea_nil)) (fun _ => rfl) (fun _ => rfl) (fun _ _ => rfl) (fun _ _ => (.cp cp_int (.tc cp_int) .nil)) (hWE hW) (wios hio fun _ => (.eq (.eq (.un (.un (.un (.un (.un (.eq (.eq (.eq (.un (.un (.eq (.un .nil))))))))))))))))) (el_cons (ex_bin op_add (vo_I0 fun i j => i + j) (fun _ _ => stl_ret _) (ex_var 5 cp_int fun _ => rfl) (ex_bin op_powV vo_pow stl_pow ex_int ex_int)) el_nil)))))))) (fun v_law_odd983 => (bx_nf (fun s => [.pn v0 (rList rInt) s, .un, .is (sh rTape) w779.1, .is (rList (rPair (sh rTape) (rPair rInt (sh (rList (rPair rInt rInt)))))) l743.1, .is (sh rTape) v_law_made733, .is rInt v_law_many786, .is rInt v_law_mode787, .is (sh (rList rInt)) v_law_odd983, .un, .un, .is (rPair rInt (sh (rList (rPair rInt rInt)))) w779.2, .is rInt v_law_spot788, .un, .is rInt x752]) (fun _ => rfl) (bx_ifr (GE_ := fun e _ => e.elim) (et_not (et_val (ex_callG (E := E) hgd (fun q1052 => (q1052.1, q1052.2.1, q1052.2.2.1)) c__law_td_unknown (hr.mono (by decide)) rfl g__law_td_unknown k__law_td_unknown b__law_td_unknown (by exact passes_call (takes_of rfl rfl rfl rfl) fun _ _ _ _ h => h) (ea_cons (eo_t (ex_var 2 cp_sh fun _ => rfl)) (ea_cons (eo_t (ex_ix (eo_t (ex_var 7 cp_sh fun _ => rfl)) (ex_callIo (E := E) 0 (fun q1039 => q1039.2.1) c__law_td_pick (hr.mono (by decide)) rfl g__law_td_pick k__law_td_pick b__law_td_pick (by exact passes_call (takes_of rfl rfl rfl rfl) fun _ _ _ _ h => h) (clo_list clo_int) (ea_cons (eo_pn (U := Unit) (a := ()) 0 fun _ => rfl) (ea_cons (eo_t ex_int) ea_nil)) (fun _ => rfl) (fun _ => rfl) (fun _ _ => rfl) (fun _ _ => (.cp cp_int (.tc cp_int) .nil)) (hWE hW) (wios hio fun _ => (.eq (.eq (.un (.un (.un (.un (.un (.un (.eq (.eq (.un (.un (.eq (.un .nil)))))))))))))))) cp_int fun _ _ => .ts)) (ea_cons (eo_t (ex_callIo (E := E) 0 (fun q1044 => q1044.2.1) c__law_td_pick (hr.mono (by decide)) rfl g__law_td_pick k__law_td_pick b__law_td_pick (by exact passes_call (takes_of rfl rfl rfl rfl) fun _ _ _ _ h => h) (clo_list clo_int) (ea_cons (eo_pn (U := Unit) (a := ()) 0 fun _ => rfl) (ea_cons (eo_t ex_int) ea_nil)) (fun _ => rfl) (fun _ => rfl) (fun _ _ => rfl) (fun _ _ => (.cp cp_int (.tc cp_int) .nil)) (hWE hW) (wios hio fun _ => (.eq (.eq (.un (.un (.un (.un (.un (.un (.eq (.eq (.un (.un (.eq (.un .nil))))))))))))))))) ea_nil))) (fun _ => rfl) (.inl ⟨clo_bool, fun _ _ => (.cp cp_sh .t (.cp cp_int .t (.cp cp_int .t .nil)))⟩) (hWE hW) (wios hio fun _ => (.eq (.eq (.un (.un (.un (.un (.un (.un (.eq (.eq (.un (.un (.eq (.un .nil)))))))))))))))))) (bx_nf (fun s => [.pn v0 (rList rInt) s, .un, .is (sh rTape) w779.1, .is (rList (rPair (sh rTape) (rPair rInt (sh (rList (rPair rInt rInt)))))) l743.1, .is (sh rTape) v_law_made733, .is rInt v_law_many786, .is rInt v_law_mode787, .is (sh (rList rInt)) v_law_odd983, .un, .un, .is (rPair rInt (sh (rList (rPair rInt rInt)))) w779.2, .is rInt v_law_spot788, .un, .is rInt x752]) (fun _ => rfl) (bx_ret ex_bool (wios hio fun _ => (.eq (.eq (.un (.un (.un (.un (.un (.un (.eq (.eq (.un (.un (.eq (.un .nil))))))))))))))))) (bx_end l743.1 fun _ => (.eq (.eq (.eq (.eq (.eq (.eq (.eq (.un (.eq (.eq (.eq (.eq (.eq (.eq .nil)))))))))))))))))) inferInstance (fun _ => rfl))) (bx_nf (fun s => [.pn v0 (rList rInt) s, .un, .is (sh rTape) w779.1, .is (rList (rPair (sh rTape) (rPair rInt (sh (rList (rPair rInt rInt)))))) l743.1, .is (sh rTape) v_law_made733, .is rInt v_law_many786, .is rInt v_law_mode787, .un, .un, .un, .is (rPair rInt (sh (rList (rPair rInt rInt)))) w779.2, .is rInt v_law_spot788, .un, .is rInt x752]) (fun _ => rfl) (bx_if (GJ := fun (n1111 : (List ((Int × List (Int × Int)) × (Int × (List (Int × Int)))))) s => [.pn v0 (rList rInt) s, .un, .is (sh rTape) w779.1, .is (rList (rPair (sh rTape) (rPair rInt (sh (rList (rPair rInt rInt)))))) n1111, .is (sh rTape) v_law_made733, .is rInt v_law_many786, .is rInt v_law_mode787, .un, .un, .un, .is (rPair rInt (sh (rList (rPair rInt rInt)))) w779.2, .is rInt v_law_spot788, .un, .is rInt x752]) (et_cmp op_eq vo_eqI (fun _ _ => stl_ret _) (ex_var 6 cp_int fun _ => rfl) ex_int rfl) (bx_nf (fun s => [.pn v0 (rList rInt) s, .un, .is (sh rTape) w779.1, .is (rList (rPair (sh rTape) (rPair rInt (sh (rList (rPair rInt rInt)))))) l743.1, .is (sh rTape) v_law_made733, .is rInt v_law_many786, .is rInt v_law_mode787, .un, .un, .un, .is (rPair rInt (sh (rList (rPair rInt rInt)))) w779.2, .is rInt v_law_spot788, .un, .is rInt x752]) (fun _ => rfl) (bx_app 3 (ex_tup2 (ex_meth0 (E := E) t_cls t_turned c_Tape_turned b_Tape_turned (hr.mono (by decide)) (by exact passes_call (takes_of rfl rfl rfl rfl) fun _ _ _ _ h => h) (eo_t (ex_var 2 cp_sh fun _ => rfl)) (fun _ _ => .t) (hWE hW) (wios hio fun _ => (.eq (.eq (.un (.un (.un (.un (.un (.eq (.eq (.eq (.un (.un (.eq (.un .nil)))))))))))))))) (ex_call (E := E) (fun q1115 => q1115.1) c__law_td_mirror (hr.mono (by decide)) rfl g__law_td_mirror k__law_td_mirror b__law_td_mirror (by exact passes_call (takes_of rfl rfl rfl rfl) fun _ _ _ _ h => h) (ea_cons (eo_t (ex_var 10 (cp_pair cp_int cp_sh) fun _ => rfl)) ea_nil) (fun _ => rfl) (.inr fun _ _ => (.cp (cp_pair cp_int cp_sh) (.tc (cp_pair cp_int cp_sh)) .nil)) (hWE hW) (wios hio fun _ => (.eq (.eq (.un (.un (.un (.un (.un (.eq (.eq (.eq (.un (.un (.eq (.un .nil))))))))))))))))) (fun _ => rfl) (fun _ => rfl) fun v_law_kept1119 => (bx_nf (fun s => [.pn v0 (rList rInt) s, .un, .is (sh rTape) w779.1, .is (rList (rPair (sh rTape) (rPair rInt (sh (rList (rPair rInt rInt)))))) v_law_kept1119, .is (sh rTape) v_law_made733, .is rInt v_law_many786, .is rInt v_law_mode787, .un, .un, .un, .is (rPair rInt (sh (rList (rPair rInt rInt)))) w779.2, .is rInt v_law_spot788, .un, .is rInt x752]) (fun _ => rfl) (bx_ifr (GE_ := fun e _ => e.elim) (et_neTape t_nec t_eq c_Tape_DeqD b_Tape_DeqD (hr.mono (by decide)) (eo_t (ex_meth0 (E := E) t_cls t_turned c_Tape_turned b_Tape_turned (hr.mono (by decide)) (by exact passes_call (takes_of rfl rfl rfl rfl) fun _ _ _ _ h => h) (eo_t (ex_plc (eo_t (ex_ix (eo_own (U := Unit) (a := ()) 3 fun _ => rfl) (ex_neg ex_int) (cp_pair cp_sh (cp_pair cp_int cp_sh)) fun _ _ => (.v rfl))) plc2_0 cp_sh fun _ _ => .t)) (fun _ _ => .t) (hWE hW) (wios hio fun _ => (.eq (.eq (.un (.un (.un (.un (.un (.eq (.eq (.eq (.un (.un (.eq (.un .nil))))))))))))))))) (eo_t (ex_var 2 cp_sh fun _ => rfl)) (fun _ _ => .t) (fun _ _ => .t)) (bx_nf (fun s => [.pn v0 (rList rInt) s, .un, .is (sh rTape) w779.1, .is (rList (rPair (sh rTape) (rPair rInt (sh (rList (rPair rInt rInt)))))) v_law_kept1119, .is (sh rTape) v_law_made733, .is rInt v_law_many786, .is rInt v_law_mode787, .un, .un, .un, .is (rPair rInt (sh (rList (rPair rInt rInt)))) w779.2, .is rInt v_law_spot788, .un, .is rInt x752]) (fun _ => rfl) (bx_ret ex_bool (wios hio fun _ => (.eq (.eq (.un (.un (.un (.un (.un (.eq (.eq (.eq (.un (.un (.eq (.un .nil))))))))))))))))) (bx_end v_law_kept1119 fun _ => (.eq (.eq (.eq (.eq (.eq (.eq (.eq (.eq (.eq (.eq (.eq (.eq (.eq (.eq .nil))))))))))))))))))) (bx_nf (fun s => [.pn v0 (rList rInt) s, .un, .is (sh rTape) w779.1, .is (rList (rPair (sh rTape) (rPair rInt (sh (rList (rPair rInt rInt)))))) l743.1, .is (sh rTape) v_law_made733, .is rInt v_law_many786, .is rInt v_law_mode787, .un, .un, .un, .is (rPair rInt (sh (rList (rPair rInt rInt)))) w779.2, .is rInt v_law_spot788, .un, .is rInt x752]) (fun _ => rfl) (bx_asg 1 sc__law_td_right.nd (ex_if (et_cmp op_eq vo_eqI (fun _ _ => stl_ret _) (ex_var 6 cp_int fun _ => rfl) ex_int rfl) (ex_methKS t_cls t_without c_Tape_without kb_Tape_without_1_index (hr.mono (by decide)) (takes_of rfl rfl rfl rfl) hW (eo_t (ex_var 2 cp_sh fun _ => rfl)) (ex_var 11 cp_int fun _ => rfl) (fun _ _ => .t) (fun _ _ => .t) (wios hio fun _ => (.eq (.eq (.un (.un (.un (.un (.un (.eq (.eq (.eq (.un (.un (.eq (.un .nil)))))))))))))))) (ex_methI (E := E) t_cls t_without c_Tape_without b_Tape_without (hr.mono (by decide)) (by exact passes_call (takes_of rfl rfl rfl rfl) fun _ _ _ _ h => h) (eo_t (ex_var 2 cp_sh fun _ => rfl)) (ex_var 11 cp_int fun _ => rfl) (fun _ _ => .t) (fun _ _ => .t) (hWE hW) (wios hio fun _ => (.eq (.eq (.un (.un (.un (.un (.un (.eq (.eq (.eq (.un (.un (.eq (.un .nil))))))))))))))))) (fun v_law_came1135 => (bx_nf (fun s => [.pn v0 (rList rInt) s, .is (sh rTape) v_law_came1135, .is (sh rTape) w779.1, .is (rList (rPair (sh rTape) (rPair rInt (sh (rList (rPair rInt rInt)))))) l743.1, .is (sh rTape) v_law_made733, .is rInt v_law_many786, .is rInt v_law_mode787, .un, .un, .un, .is (rPair rInt (sh (rList (rPair rInt rInt)))) w779.2, .is rInt v_law_spot788, .un, .is rInt x752]) (fun _ => rfl) (bx_app 3 (ex_tup2 (ex_var 1 cp_sh fun _ => rfl) (ex_tup2 (ex_plc (eo_t (ex_var 10 (cp_pair cp_int cp_sh) fun _ => rfl)) plc2_0 cp_int fun _ _ => .t) (ex_freeze (ex_cat (eo_t (ex_slice (eo_t (ex_plc (eo_t (ex_var 10 (cp_pair cp_int cp_sh) fun _ => rfl)) plc2_1 cp_sh fun _ _ => .t)) ep_none (ep_some (ex_var 11 cp_int fun _ => rfl)) (cp_pair cp_int cp_int) fun _ _ => .ts)) (eo_t (ex_slice (eo_t (ex_plc (eo_t (ex_var 10 (cp_pair cp_int cp_sh) fun _ => rfl)) plc2_1 cp_sh fun _ _ => .t)) (ep_some (ex_bin op_add (vo_I0 fun i j => i + j) (fun _ _ => stl_ret _) (ex_var 11 cp_int fun _ => rfl) ex_int)) ep_none (cp_pair cp_int cp_int) fun _ _ => .ts)) (cp_pair cp_int cp_int) (fun _ _ => .t) (fun _ _ => .t))))) (fun _ => rfl) (fun _ => rfl) fun v_law_kept1163 => (bx_end v_law_kept1163 fun _ => (.eq (.un (.eq (.eq (.eq (.eq (.eq (.eq (.eq (.eq (.eq (.eq (.eq (.eq .nil)))))))))))))))))) inferInstance (fun _ => rfl))) (fun n1111 => (bx_end n1111 fun _ => (.eq (.eq (.eq (.eq (.eq (.eq (.eq (.eq (.eq (.eq (.eq (.eq (.eq (.eq .nil)))))))))))))))) inferInstance)) (fun n982 => (bx_nf (fun s => [.pn v0 (rList rInt) s, .un, .is (sh rTape) w779.1, .is (rList (rPair (sh rTape) (rPair rInt (sh (rList (rPair rInt rInt)))))) n982, .is (sh rTape) v_law_made733, .is rInt v_law_many786, .is rInt v_law_mode787, .un, .un, .un, .is (rPair rInt (sh (rList (rPair rInt rInt)))) w779.2, .is rInt v_law_spot788, .un, .is rInt x752]) (fun _ => rfl) (bx_appT (ex_prop t_cls t_files c_Tape_files b_Tape_files (hr.mono (by decide)) (eo_t (ex_var 2 cp_sh fun _ => rfl)) fun _ _ => .t) (ex_tup2 ex_int ex_int) (bx_nf (fun s => [.pn v0 (rList rInt) s, .un, .is (sh rTape) w779.1, .is (rList (rPair (sh rTape) (rPair rInt (sh (rList (rPair rInt rInt)))))) n982, .is (sh rTape) v_law_made733, .is rInt v_law_many786, .is rInt v_law_mode787, .un, .un, .un, .is (rPair rInt (sh (rList (rPair rInt rInt)))) w779.2, .is rInt v_law_spot788, .un, .is rInt x752]) (fun _ => rfl) (bx_for (Gt := fun (l1169 : Unit) s (x1178 : ((Int × List (Int × Int)) × (Int × (List (Int × Int))))) => [.pn v0 (rList rInt) s, .un, .is (sh rTape) w779.1, .is (rList (rPair (sh rTape) (rPair rInt (sh (rList (rPair rInt rInt)))))) n982, .is (sh rTape) v_law_made733, .is rInt v_law_many786, .is rInt v_law_mode787, .un, .is (rPair rInt (sh (rList (rPair rInt rInt)))) x1178.2, .un, .is (rPair rInt (sh (rList (rPair rInt rInt)))) w779.2, .is rInt v_law_spot788, .is (sh rTape) x1178.1, .is rInt x752]) (passes_of rfl) rfl (fun (l1169 : Unit) s => [.pn v0 (rList rInt) s, .un, .is (sh rTape) w779.1, .is (rList (rPair (sh rTape) (rPair rInt (sh (rList (rPair rInt rInt)))))) n982, .is (sh rTape) v_law_made733, .is rInt v_law_many786, .is rInt v_law_mode787, .un, .un, .un, .is (rPair rInt (sh (rList (rPair rInt rInt)))) w779.2, .is rInt v_law_spot788, .un, .is rInt x752]) () (ei_tup (ex_tupL2 (ex_tup2 (ex_ix (eo_own (U := Unit) (a := ()) 3 fun _ => rfl) (ex_neg ex_int) (cp_pair cp_sh (cp_pair cp_int cp_sh)) fun _ _ => (.v rfl)) (ex_tup2 (ex_var 2 cp_sh fun _ => rfl) (ex_var 10 (cp_pair cp_int cp_sh) fun _ => rfl)))) (cp_pair cp_sh (cp_pair cp_int cp_sh))) (fun _ => (.eq (.eq (.eq (.eq (.eq (.eq (.eq (.eq (.eq (.eq (.eq (.eq (.eq (.eq .nil))))))))))))))) (fun _ _ => trivial) (fun l1169 _ => (eg_pair rfl (eg_name (i := 12) rfl sc__law_td_right.nd) (fun _ => (eg_name (i := 8) rfl sc__law_td_right.nd)) inferInstance)) (fun l1169 x1178 => (bx_nf (fun s => [.pn v0 (rList rInt) s, .un, .is (sh rTape) w779.1, .is (rList (rPair (sh rTape) (rPair rInt (sh (rList (rPair rInt rInt)))))) n982, .is (sh rTape) v_law_made733, .is rInt v_law_many786, .is rInt v_law_mode787, .un, .is (rPair rInt (sh (rList (rPair rInt rInt)))) x1178.2, .un, .is (rPair rInt (sh (rList (rPair rInt rInt)))) w779.2, .is rInt v_law_spot788, .is (sh rTape) x1178.1, .is rInt x752]) (fun _ => rfl) (bx_ifr (GE_ := fun e _ => e.elim) (et_not (et_val (ex_callG (E := E) hgd (fun q1201 => (q1201.1, q1201.2.1, q1201.2.2.1)) c__law_td_is_shape (hr.mono (by decide)) rfl g__law_td_is_shape k__law_td_is_shape b__law_td_is_shape (by exact passes_call (takes_of rfl rfl rfl rfl) fun _ _ _ _ h => h) (ea_cons (eo_t (ex_var 12 cp_sh fun _ => rfl)) (ea_cons (eo_t (ex_var 8 (cp_pair cp_int cp_sh) fun _ => rfl)) (ea_cons (eo_t (ex_callIo (E := E) 0 (fun q1193 => q1193.2.1) c__law_td_pick (hr.mono (by decide)) rfl g__law_td_pick k__law_td_pick b__law_td_pick (by exact passes_call (takes_of rfl rfl rfl rfl) fun _ _ _ _ h => h) (clo_list clo_int) (ea_cons (eo_pn (U := Unit) (a := ()) 0 fun _ => rfl) (ea_cons (eo_t ex_int) ea_nil)) (fun _ => rfl) (fun _ => rfl) (fun _ _ => rfl) (fun _ _ => (.cp cp_int (.tc cp_int) .nil)) (hWE hW) (wios hio fun _ => (.eq (.eq (.un (.un (.un (.un (.un (.eq (.un (.eq (.un (.un (.un (.un .nil))))))))))))))))) ea_nil))) (fun _ => rfl) (.inl ⟨clo_bool, fun _ _ => (.cp cp_sh .t (.cp (cp_pair cp_int cp_sh) .t (.cp cp_int .t .nil)))⟩) (hWE hW) (wios hio fun _ => (.eq (.eq (.un (.un (.un (.un (.un (.eq (.un (.eq (.un (.un (.un (.un .nil)))))))))))))))))) (bx_nf (fun s => [.pn v0 (rList rInt) s, .un, .is (sh rTape) w779.1, .is (rList (rPair (sh rTape) (rPair rInt (sh (rList (rPair rInt rInt)))))) n982, .is (sh rTape) v_law_made733, .is rInt v_law_many786, .is rInt v_law_mode787, .un, .is (rPair rInt (sh (rList (rPair rInt rInt)))) x1178.2, .un, .is (rPair rInt (sh (rList (rPair rInt rInt)))) w779.2, .is rInt v_law_spot788, .is (sh rTape) x1178.1, .is rInt x752]) (fun _ => rfl) (bx_ret ex_bool (wios hio fun _ => (.eq (.eq (.un (.un (.un (.un (.un (.eq (.un (.eq (.un (.un (.un (.un .nil))))))))))))))))) (bx_end () fun _ => (.eq (.eq (.eq (.eq (.eq (.eq (.eq (.eq (.un (.eq (.eq (.eq (.un (.eq .nil)))))))))))))))))) (fun l1169 => (bx_end (n982, w779.2) fun _ => (.eq (.eq (.un (.eq (.eq (.un (.un (.eq (.eq (.eq (.eq (.un (.eq (.un .nil)))))))))))))))) inferInstance inferInstance))))) inferInstance))) inferInstance (fun _ => rfl)))) inferInstance inferInstance (fun _ => rfl) (fun _ => rfl)))) inferInstance inferInstance))) (fun l743 => (bx_nf (fun s => [.pn v0 (rList rInt) s, .un, .un, .is (rList (rPair (sh rTape) (rPair rInt (sh (rList (rPair rInt rInt)))))) l743.1, .is (sh rTape) v_law_made733, .un, .un, .un, .un, .un, .is (rPair rInt (sh (rList (rPair rInt rInt)))) l743.2, .un, .un, .un]) (fun _ => rfl) (bx_ret (ex_eqE hr.units (eo_t (ex_pin 3 (fun _ => rfl) (fun _ => rfl) fun pw1205 => (ex_lcU (Gt := fun s (x1206 : ((Int × List (Int × Int)) × (Int × (List (Int × Int))))) => [.pn v0 (rList rInt) s, .un, .un, .pn pw1205 (rList (rPair (sh rTape) (rPair rInt (sh (rList (rPair rInt rInt)))))) l743.1, .is (sh rTape) v_law_made733, .un, .un, .un, .un, .is (rPair (sh rTape) (rPair rInt (sh (rList (rPair rInt rInt))))) x1206, .is (rPair rInt (sh (rList (rPair rInt rInt)))) l743.2, .un, .un, .un]) s rfl sc__law_td_right.nd (ei_pin 3 (fun _ => rfl) (cp_pair cp_sh (cp_pair cp_int cp_sh))) (fun _ => rfl) bk__law_td_right_0 (fun _ => (.cons rfl .nil)) (by exact fun _ h => h) (fun _ _ => (.eq (.eq (.eq (.eq (.eq (.eq (.eq (.eq (.eq (.un (.eq (.eq (.eq (.eq .nil))))))))))))))) (fun _ _ _ _ _ _ => (eg_name (i := 9) rfl sc__law_td_right.nd)) (fun _ _ _ _ _ x1206 => (ets_one (et_w (ew_or (et_neD hr.units (eo_t (ex_prop t_cls t_files c_Tape_files b_Tape_files (hr.mono (by decide)) (eo_t (ex_plc (eo_t (ex_var 9 (cp_pair cp_sh (cp_pair cp_int cp_sh)) fun _ => rfl)) plc2_0 cp_sh fun _ _ => .t)) fun _ _ => .t)) (eo_t (ex_plc (eo_t (ex_plc (eo_t (ex_var 9 (cp_pair cp_sh (cp_pair cp_int cp_sh)) fun _ => rfl)) plc2_1 (cp_pair cp_int cp_sh) fun _ _ => .t)) plc2_1 cp_sh fun _ _ => .t)) (fun _ _ => .mk (en_L (en_P enc_int enc_int)) .t) (fun _ _ => .mk (en_L (en_P enc_int enc_int)) .ts)) (ew_or1 (et_cmp op_ne vo_neI (fun _ _ => stl_ret _) (ex_prop t_cls t_length c_Tape_length b_Tape_length (hr.mono (by decide)) (eo_t (ex_plc (eo_t (ex_var 9 (cp_pair cp_sh (cp_pair cp_int cp_sh)) fun _ => rfl)) plc2_0 cp_sh fun _ _ => .t)) fun _ _ => .t) (ex_plc (eo_t (ex_plc (eo_t (ex_var 9 (cp_pair cp_sh (cp_pair cp_int cp_sh)) fun _ => rfl)) plc2_1 (cp_pair cp_int cp_sh) fun _ _ => .t)) plc2_0 cp_int fun _ _ => .t) rfl)))))) (fun _ _ _ _ _ x1206 => (ex_var 9 (cp_pair cp_sh (cp_pair cp_int cp_sh)) fun _ => rfl)) inferInstance inferInstance))) (eo_t (ex_lst (r := (rPair (sh rTape) (rPair rInt (sh (rList (rPair rInt rInt)))))) el_nil)) (fun _ _ => .t) (fun _ _ => .t)) (wios hio fun _ => (.eq (.eq (.eq (.un (.un (.eq (.eq (.eq (.eq (.eq (.un (.eq (.eq (.eq .nil)))))))))))))))))) inferInstance inferInstance))) inferInstance (fun _ => rfl)))) inferInstance (fun _ => rfl)))) inferInstance (fun _ => rfl)))⟩
theorem sc_law : FnScope ["_law_script", "_law_rank"] ["_law_script"] (defScope (Hd.tp 21)) := ⟨rfl, rfl, rfl, by decide +kernel, rfl, by decide +kernel, by decide +kernel⟩
theorem ok_law (f_len : mg "len" = none) (f_max : mg "max" = none) (f_min : mg "min" = none) (f_range : mg "range" = none) {d__law_td_right : FuncData} (c__law_td_right : FnG P w K mg base 8 (ga K "_law_td_right") d__law_td_right ["_law_sack"] (SpI K 1 (rList rInt) (fun u : Unit => []) rBool m__law_td_right)) (g__law_td_right : mg "_law_td_right" = some (.ref (ga K "_law_td_right"))) (k__law_td_right : PySem.W.keepIn K (.ref (ga K "_law_td_right")) = true) (b__law_td_right : Binds K d__law_td_right ["_law_sack"] []) {d__law_td_sack : FuncData} (c__law_td_sack : FnOk P w K mg base (L2.CX P w) 1 (ga K "_law_td_sack") d__law_td_sack ["_law_script", "_law_rank"] (SpP K 2 (fun u : ((List Int) × Int) => [.is rScr u.1, .is rInt u.2]) (rList rInt) m__law_td_sack)) (g__law_td_sack : mg "_law_td_sack" = some (.ref (ga K "_law_td_sack"))) (k__law_td_sack : PySem.W.keepIn K (.ref (ga K "_law_td_sack")) = true) (b__law_td_sack : Binds K d__law_td_sack ["_law_script", "_law_rank"] []) (FD : FunD K "law" "law" (defArgs (Hd.tp 21)) (defBody (Hd.tp 21)) (defScope (Hd.tp 21)) [] [] (ga K "law") fd) : FnG P w K mg base 9 (ga K "law") fd ["_law_script"] (SpP K 1 (fun u : (List Int) => [.is rScr u]) rBool m_law) :=
  fnG_pure (k := 8) FD sc_law o_law (fun _ => rfl) fun u cdv A outer s H E hr hgd F hio hW => ⟨_, (bx_nf (fun s => [.is rScr u, .un]) (fun _ => rfl) (bx_for (Gt := fun (l1228 : Unit) s (x1236 : Int) => [.is rScr u, .is rInt x1236]) (passes_of rfl) rfl (fun (l1228 : Unit) s => [.is rScr u, .un]) () (ei_rng1 (ex_max2 ex_int (ex_min2 ex_int (ex_lenScr (eo_t (ex_var 0 cp_scr fun _ => rfl)) (fun _ _ => .t) rfl f_len) rfl f_min) rfl f_max) rfl f_range) (fun _ => (.eq (.eq .nil))) (fun _ _ => trivial) (fun l1228 _ => (eg_name (i := 1) rfl sc_law.nd)) (fun l1228 x1236 => (bx_nf (fun s => [.is rScr u, .is rInt x1236]) (fun _ => rfl) (bx_ifr (GE_ := fun e _ => e.elim) (et_not (et_val (ex_callIoTG (E := E) hgd (fun q1247 => ()) c__law_td_right (hr.mono (by decide)) rfl g__law_td_right k__law_td_right b__law_td_right (by exact passes_call (takes_of rfl rfl rfl rfl) fun _ _ _ _ h => h) (clo_list clo_int) (ea_cons (eo_t (ex_call (E := E) (fun q1252 => (q1252.1, q1252.2.1)) c__law_td_sack (hr.mono (by decide)) rfl g__law_td_sack k__law_td_sack b__law_td_sack (by exact passes_call (takes_of rfl rfl rfl rfl) fun _ _ _ _ h => h) (ea_cons (eo_t (ex_var 0 cp_scr fun _ => rfl)) (ea_cons (eo_t (ex_var 1 cp_int fun _ => rfl)) ea_nil)) (fun _ => rfl) (.inl ⟨(clo_list clo_int), fun _ _ => (.cp cp_scr .t (.cp cp_int .t .nil))⟩) (hWE hW) (wio hio fun _ => (.un (.un .nil))))) ea_nil) (fun _ => rfl) (fun _ _ => .nil) (hWE hW) (wio hio fun _ => (.un (.un .nil)))))) (bx_nf (fun s => [.is rScr u, .is rInt x1236]) (fun _ => rfl) (bx_ret ex_bool (wio hio fun _ => (.un (.un .nil))))) (bx_end () fun _ => (.eq (.un .nil)))))) (fun l1228 => (bx_nf (fun s => [.is rScr u, .un]) (fun _ => rfl) (bx_ret ex_bool (wio hio fun _ => (.un (.eq .nil)))))) inferInstance inferInstance))⟩
end
end Tk

set_option Elab.async false
set_option linter.all false
set_option maxRecDepth 100000
set_option maxHeartbeats 4000000
namespace Td
section
variable {S T U : Type}
theorem bnd_ret (a : T) (f : T → SM S U) : bnd (ret a) f = f a := (rfl)
theorem bnd_assoc {V : Type} (m : SM S T) (f : T → SM S U) (g : U → SM S V) : bnd (bnd m f) g = bnd m fun a => bnd (f a) g := by
  funext s
  unfold bnd
  cases m s <;> rfl
theorem grd_t {c : Prop} [Decidable c] (h : c) : (grd c : SM S Unit) = ret () := by
  funext s
  unfold grd
  rw [if_pos h]; rfl
theorem lft_ret (a : T) : (lft (ret a) : SM S T) = ret a := (rfl)
theorem nxc_ret (a : T) : (nxc (ret a) : SM S T) = ret a := (rfl)
theorem esc_ret {N L R : Type} (b : R) : (esc (ret (.rt b)) : SM S (Fl N L R)) = ret (.rt b) := (rfl)
theorem runB_rt {R : Type} (b : R) : runB (ret (.rt b) : SM S (Fl Empty Empty R)) = ret b := (rfl)
theorem runB_bnd {R : Type} (m : SM S T) (k : T → SM S (Fl Empty Empty R)) : runB (bnd m k) = bnd m fun a => runB (k a) := by unfold runB; rw [bnd_assoc]
theorem bnd_ite {c : Prop} [Decidable c] (a b : SM S T) (f : T → SM S U) : bnd (if c then a else b) f = if c then bnd a f else bnd b f := by split <;> rfl
theorem esc_bnd {N L R : Type} (m : SM S T) (k : T → SM S (Fl Empty L R)) : (esc (bnd m k) : SM S (Fl N L R)) = bnd m fun a => esc (k a) := by unfold esc; rw [bnd_assoc]
theorem thn_nx {N N' L R : Type} (n : N) (f : N → SM S (Fl N' L R)) : thn_ (ret (.nx n)) f = f n := (rfl)
theorem lpM_dn {N L L' R : Type} (l : L) (k : L → SM S (Fl N L' R)) : lpM (ret (.dn l)) k = k l := (rfl)
/-- what holds behind a computation that raises nothing -/
@[irreducible] def Hw (m : SM S T) (s : S) (P : T → S → Prop) : Prop := (m s).wp P fun _ _ => False
theorem hw_ret {a : T} {s : S} {P : T → S → Prop} (h : P a s) : Hw (ret a) s P := by unfold Hw; exact h
theorem hw_bnd {m : SM S T} {k : T → SM S U} {s : S} {P : U → S → Prop} (h : Hw m s fun a s' => Hw (k a) s' P) : Hw (bnd m k) s P := by
  unfold Hw at h ⊢
  refine bnd_wp (wp_mono h (fun a s' z => ?_) fun _ _ z => z)
  exact z
theorem hw_mono {m : SM S T} {s : S} {P P' : T → S → Prop} (h : Hw m s P) (k : ∀ a s, P a s → P' a s) : Hw m s P' := by unfold Hw at h ⊢; exact wp_mono h k fun _ _ z => z
theorem hw_ok {m : SM S T} {s : S} {P : T → S → Prop} (h : Hw m s P) : ∃ a s', m s = .ok a s' ∧ P a s' := by
  unfold Hw at h
  cases e : m s with
  | ok a s' => rw [e] at h; exact ⟨a, s', rfl, h⟩
  | exc e' s' => rw [e] at h; exact h.elim
  | stuck => rw [e] at h; exact h.elim
/-- a for with an invariant -/
theorem hw_for {A L R : Type} {f : L → A → SM S (Fl L L R)} (J : Nat → L → S → Prop) (Rt : R → S → Prop) : ∀ (xs : List A) (i : Nat) (l : L) (s : S), J i l s →
    (∀ j a l s, xs[j]? = some a → J (i + j) l s → Hw (f l a) s fun fl s' => match fl with | .nx l' => J (i + j + 1) l' s' | .ct l' => J (i + j + 1) l' s' | .bk _ => False | .rt b => Rt b s') →
    Hw (forM_ xs f l) s fun e s' => match e with | .dn l' => J (i + xs.length) l' s' | .rt b => Rt b s'
  | [], i, l, s, h, _ => hw_ret h
  | x :: xs, i, l, s, h, k => by
    refine hw_bnd (hw_mono (k 0 x l s rfl h) fun fl s' hf => ?_)
    have next : ∀ l', J (i + 1) l' s' → Hw (forM_ xs f l') s' fun e s' => match e with | .dn l' => J (i + (xs.length + 1)) l' s' | .rt b => Rt b s' := fun l' hl => by
      have z := hw_for J Rt xs (i + 1) l' s' hl fun j a l s e hj => by
        have y := k (j + 1) a l s (by simpa using e) (by rw [show i + (j + 1) = i + 1 + j by omega]; exact hj)
        rw [show i + (j + 1) + 1 = i + 1 + j + 1 by omega] at y
        exact y
      rw [show i + 1 + xs.length = i + (xs.length + 1) by omega] at z
      exact z
    cases fl with
    | nx l' => exact next l' hf
    | ct l' => exact next l' hf
    | bk l' => exact hf.elim
    | rt b => exact hw_ret hf
end
theorem log2_lt {x : Int} {k : Nat} (h0 : 0 ≤ x) (h : x < 2 ^ k) (hk : 0 < k) : x.natAbs.log2 < k := by
  refine PySem.Flt.log2_lt_of hk ?_
  have e : ((x.natAbs : Nat) : Int) = x := Int.natAbs_of_nonneg h0
  have : ((x.natAbs : Nat) : Int) < ((2 ^ k : Nat) : Int) := by rw [e]; push_cast; exact h
  exact_mod_cast this
/-- a sack of draws, at most n drawn -/
def Gd (n : Nat) (s : List Int) : Prop := ∃ a b c : Int, s = [a, b, c] ∧ 0 ≤ a ∧ (0 ≤ b ∧ b < 10 ^ 37) ∧ 0 ≤ c ∧ c ≤ n
end Td
set_option Elab.async false
set_option linter.all false
set_option maxRecDepth 100000
set_option maxHeartbeats 4000000
namespace Td
section
variable {S A B C L R : Type}
/-- a comprehension whose items are plain -/
theorem lcM_ret {f : A → SM S (Option B)} (g : A → Option B) : ∀ (xs : List A) (acc : List B), (∀ x, x ∈ xs → f x = ret (g x)) → acc.length + xs.length ≤ PySem.sizeLine → lcM f acc xs = ret (acc ++ xs.filterMap g)
  | [], acc, _, _ => by unfold lcM; simp
  | x :: xs, acc, h, hz => by
    unfold lcM
    rw [h x (List.mem_cons_self ..), nxc_ret, bnd_ret]
    rw [List.length_cons] at hz
    cases e : g x with
    | none =>
      rw [List.filterMap_cons_none e]
      exact lcM_ret g xs acc (fun y hy => h y (List.mem_cons_of_mem _ hy)) (by omega)
    | some b =>
      simp only
      rw [grd_t (by omega), bnd_ret, lcM_ret g xs (acc ++ [b]) (fun y hy => h y (List.mem_cons_of_mem _ hy)) (by simp; omega), List.filterMap_cons_some e, List.append_assoc]
      rfl
theorem lcIt_t (b : B) : lcIt (ret true : SM S Bool) (ret b) = ret (some b) := (rfl)
end
end Td
set_option Elab.async false
set_option linter.all false
set_option maxRecDepth 100000
set_option maxHeartbeats 4000000
namespace Td
section
variable {S T U N N' L L' R : Type}
theorem hw_step {m : SM S T} {k : T → SM S U} {s s' : S} {a : T} {P : U → S → Prop} (e : m s = .ok a s') (h : Hw (k a) s' P) : Hw (bnd m k) s P := by
  unfold Hw at h ⊢
  unfold bnd
  rw [e]
  exact h
/-- a first part, then the rest -/
theorem hw_seq {m : SM S T} {k : T → SM S U} {s : S} {Q : T → S → Prop} {P : U → S → Prop} (h : Hw m s Q) (hk : ∀ a s', Q a s' → Hw (k a) s' P) : Hw (bnd m k) s P := by
  obtain ⟨a, s', e, q⟩ := hw_ok h
  exact hw_step e (hk a s' q)
theorem hw_runB {m : SM S (Fl Empty Empty R)} {s : S} {P : R → S → Prop} (h : Hw m s fun fl s' => match fl with | .rt b => P b s' | _ => False) : Hw (runB m) s P := by
  obtain ⟨a, s', e, q⟩ := hw_ok h
  unfold runB
  refine hw_step e ?_
  cases a with
  | nx n => exact n.elim
  | bk n => exact n.elim
  | ct n => exact n.elim
  | rt b => exact hw_ret q
theorem hw_lp {m : SM S (Lp L R)} {k : L → SM S (Fl N L' R)} {s : S} {P : Fl N L' R → S → Prop} (h : Hw m s fun e s' => match e with | .dn l => Hw (k l) s' P | .rt b => P (.rt b) s') : Hw (lpM m k) s P := by
  obtain ⟨a, s', e, q⟩ := hw_ok h
  unfold lpM
  refine hw_step e ?_
  cases a with
  | dn l => exact q
  | rt b => exact hw_ret q
theorem hw_thn {m : SM S (Fl N L R)} {k : N → SM S (Fl N' L R)} {s : S} {P : Fl N' L R → S → Prop} (h : Hw m s fun fl s' => match fl with | .nx n => Hw (k n) s' P | .rt b => P (.rt b) s' | .bk l => P (.bk l) s' | .ct l => P (.ct l) s') : Hw (thn_ m k) s P := by
  obtain ⟨a, s', e, q⟩ := hw_ok h
  unfold thn_
  refine hw_step e ?_
  cases a with
  | nx n => exact q
  | rt b => exact hw_ret q
  | bk b => exact hw_ret q
  | ct b => exact hw_ret q
theorem hw_ite {c : Prop} [Decidable c] {a b : SM S T} {s : S} {P : T → S → Prop} (h1 : c → Hw a s P) (h2 : ¬ c → Hw b s P) : Hw (if c then a else b) s P := by
  by_cases h : c
  · rw [if_pos h]; exact h1 h
  · rw [if_neg h]; exact h2 h
/-- a for whose turns all go on -/
theorem hw_forN {A : Type} {f : L → A → SM S (Fl L L R)} (J : Nat → L → S → Prop) (xs : List A) {l : L} {s : S} (h : J 0 l s) (k : ∀ j a l s, xs[j]? = some a → J j l s → Hw (f l a) s fun fl s' => match fl with | .nx l' => J (j + 1) l' s' | .ct l' => J (j + 1) l' s' | _ => False) :
    Hw (forM_ xs f l) s fun e s' => match e with | .dn l' => J xs.length l' s' | .rt b => False := by
  have z := hw_for (f := f) J (fun _ _ => False) xs 0 l s h fun j a l s e hj => by
    rw [Nat.zero_add] at hj ⊢
    exact hw_mono (k j a l s e hj) fun fl s' q => by cases fl <;> exact q
  rw [Nat.zero_add] at z
  exact hw_mono z fun e s' q => by cases e <;> exact q
end
theorem Gd.le {n m : Nat} {s : List Int} (h : Gd n s) (hm : n ≤ m) : Gd m s := by
  obtain ⟨a, b, c, e, h1, h2, h3, h4⟩ := h
  exact ⟨a, b, c, e, h1, h2, h3, by omega⟩
end Td
set_option Elab.async false
set_option linter.all false
namespace Tp
def upI : Nat → List Int
  | 0 => []
  | n + 1 => upI n ++ [(n : Int)]
theorem mem_upI {n : Nat} {x : Int} : x ∈ upI n ↔ 0 ≤ x ∧ x < n := by
  induction n with
  | zero => simp [upI]; try omega
  | succ n ih => rw [upI, List.mem_append, ih]; simp; omega
theorem upI_len (n : Nat) : (upI n).length = n := by
  induction n with
  | zero => rfl
  | succ n ih => rw [upI, List.length_append, ih]; rfl
theorem upI_range (n : Nat) : (List.range n).map (fun (i : Nat) => (i : Int)) = upI n := by
  induction n with
  | zero => rfl
  | succ n ih => rw [List.range_succ, List.map_append, ih]; rfl
end Tp
set_option Elab.async false
set_option linter.all false
namespace Tp
def FOk (L : Int) : Int → List (Int × Int) → Prop
  | _, [] => True
  | e, d :: r => e ≤ d.1 ∧ d.1 < d.2 ∧ d.2 ≤ L ∧ FOk L d.2 r
theorem fok_iff {L : Int} : ∀ {fs : List (Int × Int)} {e : Int}, FOk L e fs ↔ (∀ d, d ∈ fs → e ≤ d.1 ∧ d.1 < d.2 ∧ d.2 ≤ L) ∧ fs.Pairwise (fun a b => a.2 ≤ b.1)
  | [], e => by simp [FOk]
  | d :: r, e => by
    rw [FOk, fok_iff, List.pairwise_cons]
    constructor
    · rintro ⟨a, b, c, h, p⟩
      refine ⟨fun x hx => ?_, fun x hx => (h x hx).1, p⟩
      rcases List.mem_cons.mp hx with hx | hx
      · subst hx; exact ⟨a, b, c⟩
      · have := h x hx; omega
    · rintro ⟨h, q, p⟩
      obtain ⟨a, b, c⟩ := h d (List.mem_cons_self ..)
      exact ⟨a, b, c, fun x hx => ⟨q x hx, (h x (List.mem_cons_of_mem _ hx)).2⟩, p⟩
theorem fok_mono {L L' : Int} (h : L ≤ L') {fs : List (Int × Int)} {e : Int} (k : FOk L e fs) : FOk L' e fs := by
  rw [fok_iff] at k ⊢
  exact ⟨fun d hd => by have := k.1 d hd; omega, k.2⟩
theorem fok_snoc {M L : Int} {d : Int × Int} {fs : List (Int × Int)} {e : Int} (h1 : M ≤ d.1) (h2 : d.1 < d.2) (h3 : d.2 ≤ L) (he : e ≤ d.1) (k : FOk M e fs) : FOk L e (fs ++ [d]) := by
  rw [fok_iff] at k ⊢
  refine ⟨fun x hx => ?_, ?_⟩
  · rcases List.mem_append.mp hx with hx | hx
    · have := k.1 x hx; omega
    · rw [List.mem_singleton] at hx; subst hx; exact ⟨he, h2, h3⟩
  · rw [List.pairwise_append]
    refine ⟨k.2, by simp, fun a ha b hb => ?_⟩
    rw [List.mem_singleton] at hb
    subst hb
    have := k.1 a ha
    omega
/-- seen from the other side -/
def mirF (L : Int) (fs : List (Int × Int)) : List (Int × Int) := fs.reverse.map fun d => (L - d.2, L - d.1)
theorem fok_mir {L : Int} {fs : List (Int × Int)} (h : FOk L 0 fs) : FOk L 0 (mirF L fs) := by
  rw [fok_iff] at h ⊢
  refine ⟨fun d hd => ?_, ?_⟩
  · obtain ⟨x, hx, e⟩ := List.mem_map.mp hd
    subst e
    have := h.1 x (List.mem_reverse.mp hx)
    dsimp only
    omega
  · unfold mirF
    rw [List.pairwise_map, List.pairwise_reverse]
    exact h.2.imp fun {a b} q => by dsimp only; omega
theorem mir_mir (L : Int) (fs : List (Int × Int)) : mirF L (mirF L fs) = fs := by
  unfold mirF
  rw [← List.map_reverse, List.reverse_reverse, List.map_map]
  have : ((fun d : Int × Int => (L - d.2, L - d.1)) ∘ fun d => (L - d.2, L - d.1)) = id := by
    funext d
    simp only [Function.comp, id]
    ext <;> dsimp only <;> omega
  rw [this, List.map_id]
theorem mir_len (L : Int) (fs : List (Int × Int)) : (mirF L fs).length = fs.length := by simp [mirF]
end Tp
set_option Elab.async false
set_option linter.all false
set_option maxRecDepth 100000
set_option maxHeartbeats 4000000
namespace Td
open PySem
/-- data of one form: may be laid, of a depth, == says when two are one -/
structure Ed {A : Type} (f : A → PyData) (k : Nat) : Prop where
  c : ∀ x, (f x).canLay0 = true
  d : ∀ x, (f x).depth ≤ k
  e : ∀ x y, PyData.eqv (f x) (f y) = true ↔ x = y
  d0 : ∀ x, (f x).hasDict = false
theorem ed_int : Ed PyData.int 0 := ⟨fun _ => rfl, fun _ => (by simp [PyData.depth]), fun x y => by simp [PyData.eqv], fun _ => rfl⟩
section
variable {A B C : Type} {f : A → PyData} {g : B → PyData} {h : C → PyData} {k l m : Nat}
theorem Ed.P (hf : Ed f k) (hg : Ed g l) : Ed (dP f g) (max k l + 1) :=
  ⟨fun x => by show ((f x.1).canLay0 && ((g x.2).canLay0 && true)) = true; rw [hf.c, hg.c]; rfl,
   fun x => by
    show (PyData.tuple [f x.1, g x.2]).depth ≤ _
    have := hf.d x.1; have := hg.d x.2
    simp only [PyData.depth, PyData.depthAll]
    omega,
   fun x y => by
    show (PyData.eqv (f x.1) (f y.1) && (PyData.eqv (g x.2) (g y.2) && true)) = true ↔ x = y
    rw [Bool.and_true, Bool.and_eq_true, hf.e, hg.e]
    exact ⟨fun ⟨a, b⟩ => Prod.ext a b, fun e => by subst e; exact ⟨rfl, rfl⟩⟩,
   fun x => by show ((f x.1).hasDict || ((g x.2).hasDict || false)) = false; rw [hf.d0, hg.d0]; rfl⟩
theorem ed_all (hf : Ed f k) : ∀ xs : List A, PyData.canLayAll0 (xs.map f) = true ∧ PyData.depthAll (xs.map f) ≤ k ∧ PyData.hasDictAll (xs.map f) = false
  | [] => ⟨rfl, by simp [PyData.depthAll], rfl⟩
  | x :: xs => by
    obtain ⟨a, b, c⟩ := ed_all hf xs
    refine ⟨?_, ?_, ?_⟩
    · show ((f x).canLay0 && PyData.canLayAll0 (xs.map f)) = true; rw [hf.c, a]; rfl
    · show PyData.depthAll (f x :: xs.map f) ≤ _
      have := hf.d x
      simp only [PyData.depthAll]
      omega
    · show ((f x).hasDict || PyData.hasDictAll (xs.map f)) = false; rw [hf.d0, c]; rfl
theorem ed_eqAll (hf : Ed f k) : ∀ xs ys : List A, PyData.eqvAll (xs.map f) (ys.map f) = true ↔ xs = ys
  | [], [] => ⟨fun _ => rfl, fun _ => by simp [PyData.eqvAll]⟩
  | [], y :: ys => by simp [PyData.eqvAll]
  | x :: xs, [] => by simp [PyData.eqvAll]
  | x :: xs, y :: ys => by
    rw [List.map_cons, List.map_cons, PyData.eqvAll, Bool.and_eq_true, hf.e, ed_eqAll hf xs ys, List.cons.injEq]
theorem Ed.L (hf : Ed f k) : Ed (dL f) (k + 1) :=
  ⟨fun xs => (ed_all hf xs).1, fun xs => by
    show (PyData.list (xs.map f)).depth ≤ _
    have := (ed_all hf xs).2.1
    rw [PyData.depth]
    omega, fun xs ys => by
    show PyData.eqv (.list (xs.map f)) (.list (ys.map f)) = true ↔ _
    rw [PyData.eqv]; exact ed_eqAll hf xs ys, fun xs => (ed_all hf xs).2.2⟩
theorem Ed.TL (hf : Ed f k) : Ed (dTL f) (k + 1) :=
  ⟨fun xs => (ed_all hf xs).1, fun xs => by
    show (PyData.tuple (xs.map f)).depth ≤ _
    have := (ed_all hf xs).2.1
    rw [PyData.depth]
    omega, fun xs ys => by
    show PyData.eqv (.tuple (xs.map f)) (.tuple (ys.map f)) = true ↔ _
    rw [PyData.eqv]; exact ed_eqAll hf xs ys, fun xs => (ed_all hf xs).2.2⟩
theorem Ed.shaped (hf : Ed f k) (hk : k ≤ 64) (x : A) : SeqAt.shaped (f x) = true := by
  show ((f x).canLay0 && decide ((f x).depth ≤ 64)) = true
  rw [hf.c, decide_eq_true (Nat.le_trans (hf.d x) hk)]
  rfl
theorem Ed.eqD {S : Type} [DecidableEq A] (hf : Ed f k) (hk : k ≤ 64) (x y : A) : (eqD (f x) (f y) : SM S Bool) = ret (decide (x = y)) := by
  unfold Td.eqD
  rw [grd_t ⟨hf.shaped hk x, hf.shaped hk y⟩, bnd_ret]
  congr 1
  by_cases e : x = y
  · rw [decide_eq_true e]; exact (hf.e x y).mpr e
  · rw [decide_eq_false e]
    cases h : PyData.eqv (f x) (f y) with
    | false => rfl
    | true => exact absurd ((hf.e x y).mp h) e
theorem Ed.neD {S : Type} [DecidableEq A] (hf : Ed f k) (hk : k ≤ 64) (x y : A) : (neD (f x) (f y) : SM S Bool) = ret (!decide (x = y)) := by
  unfold Td.neD
  rw [grd_t ⟨hf.shaped hk x, hf.shaped hk y⟩, bnd_ret]
  congr 2
  by_cases e : x = y
  · rw [decide_eq_true e]; exact (hf.e x y).mpr e
  · rw [decide_eq_false e]
    cases h : PyData.eqv (f x) (f y) with
    | false => rfl
    | true => exact absurd ((hf.e x y).mp h) e
end
end Td
set_option Elab.async false
set_option linter.all false
set_option maxRecDepth 100000
set_option maxHeartbeats 4000000
namespace Td
open Tp
section
variable {S T U : Type}
theorem ite_ret {c : Prop} [Decidable c] (a b : T) : (if c then (ret a : SM S T) else ret b) = ret (if c then a else b) := by split <;> rfl
theorem and_ret {b c : Bool} : (if b = true then (ret c : SM S Bool) else ret false) = ret (b && c) := by cases b <;> rfl
theorem lcM_map {A B : Type} {f : A → SM S (Option B)} (g : A → B) (xs : List A) (h : ∀ x, x ∈ xs → f x = ret (some (g x))) (hz : xs.length ≤ PySem.sizeLine) : lcM f [] xs = ret (xs.map g) := by
  rw [lcM_ret (fun x => some (g x)) xs [] h (by simpa using hz), List.nil_append]
  congr 1
  clear h hz
  induction xs with
  | nil => rfl
  | cons x xs ih => rw [List.filterMap_cons_some (f := fun x => some (g x)) (b := g x) rfl, ih]; rfl
theorem lenG_ok {xs : List T} (h : xs.length ≤ PySem.sizeLine) : (lenG xs : SM S Unit) = ret () := by unfold lenG; exact grd_t h
theorem catM_ok {xs ys : List T} (h : xs.length + ys.length ≤ PySem.sizeLine) : (catM xs ys : SM S (List T)) = ret (xs ++ ys) := by unfold catM; rw [lenG_ok (by simpa using h)]; rfl
theorem pushM_ok {xs : List T} {y : T} (h : xs.length < PySem.sizeLine) : (pushM xs y : SM S (List T)) = ret (xs ++ [y]) := by unfold pushM; rw [grd_t h]; rfl
theorem rngG_ok {j : Int} (h : -(2 ^ 62) ≤ j ∧ j < 2 ^ 62) : (rngG j : SM S Unit) = ret () := by unfold rngG; exact grd_t h
theorem hz_small {n k : Nat} (h : n ≤ k) (hk : k ≤ 16777216) : n ≤ PySem.sizeLine := by rw [PySem.sizeLine_eq]; omega
theorem upto_up (n : Nat) : upto 0 n = upI n := by
  unfold upto
  rw [← upI_range]
  congr 1
  funext i
  simp
/-- what an item is got by -/
theorem atI_get {xs : List T} {i : Int} {d : T} (h0 : 0 ≤ i) (h1 : i < xs.length) : L2.atI xs i = some (xs.getD i.toNat d) := by
  unfold L2.atI L2.ixN
  rw [if_pos h0, if_pos h1]
  show xs[i.toNat]? = _
  rw [List.getD_eq_getElem?_getD, List.getElem?_eq_getElem (by omega)]
  rfl
theorem ixM_get (d : T) {xs : List T} {i : Int} (h0 : 0 ≤ i) (h1 : i < xs.length) : (ixM xs i : SM S T) = ret (xs.getD i.toNat d) := by unfold ixM; rw [atI_get (d := d) h0 h1]
theorem ixM_last {xs : List T} {d : T} (h : xs ≠ []) : (ixM xs (-1) : SM S T) = ret (xs.getLast?.getD d) := by
  have hl : 0 < xs.length := List.length_pos_iff.mpr h
  unfold ixM L2.atI L2.ixN
  rw [if_neg (by decide), if_pos (by omega)]
  show (match xs[((-1 : Int) + xs.length).toNat]? with | some a => ret a | none => stk) = _
  rw [show ((-1 : Int) + xs.length).toNat = xs.length - 1 by omega, List.getLast?_eq_getElem?, List.getElem?_eq_getElem (by omega)]
  rfl
end
end Td
set_option Elab.async false
set_option linter.all false
set_option maxRecDepth 100000
set_option maxHeartbeats 4000000
namespace Tp
open Td PySem
mutual
def okDat : PyData → Bool
  | .none => true
  | .bool _ => true
  | .int i => decide (i.natAbs.log2 < 120)
  | .str x => x.cps.toList.all fun c => decide (c < 16 ^ 8)
  | .list xs => okDatAll xs
  | .tuple xs => okDatAll xs
  | .dict _ => false
def okDatAll : List PyData → Bool
  | [] => true
  | x :: xs => okDat x && okDatAll xs
end
mutual
def nL : PyData → Nat
  | .list xs => nLAll xs + 1
  | .tuple xs => nLAll xs
  | _ => 0
def nLAll : List PyData → Nat
  | [] => 0
  | x :: xs => nL x + nLAll xs
end
mutual
theorem okDat_show : ∀ {d : PyData}, okDat d = true → d.showable = true ∧ d.hasDict = false ∧ d.leavesShort 121 = true
  | .none, _ => ⟨rfl, rfl, rfl⟩
  | .bool _, _ => ⟨rfl, rfl, rfl⟩
  | .int i, h => by
    have h' : i.natAbs.log2 < 120 := of_decide_eq_true h
    refine ⟨decide_eq_true (Nat.lt_trans h' (by decide)), rfl, decide_eq_true ?_⟩
    show (Str.ofString (toString i)).length ≤ 121
    rw [PySem.ofString_length]
    exact PySem.int_text_length_le (k := 120) (by decide) h'
  | .str x, h => ⟨rfl, rfl, h⟩
  | .list xs, h => okDatAll_show (xs := xs) h
  | .tuple xs, h => okDatAll_show (xs := xs) h
  | .dict _, h => by cases h
theorem okDatAll_show : ∀ {xs : List PyData}, okDatAll xs = true → PyData.showableAll xs = true ∧ PyData.hasDictAll xs = false ∧ PyData.leavesShortAll 121 xs = true
  | [], _ => ⟨rfl, rfl, rfl⟩
  | x :: xs, h => by
    have h' : (okDat x && okDatAll xs) = true := h
    rw [Bool.and_eq_true] at h'
    obtain ⟨a1, a2, a3⟩ := okDat_show h'.1
    obtain ⟨b1, b2, b3⟩ := okDatAll_show h'.2
    refine ⟨?_, ?_, ?_⟩
    · show (PyData.showable x && PyData.showableAll xs) = true
      rw [a1, b1]; rfl
    · show (PyData.hasDict x || PyData.hasDictAll xs) = false
      rw [a2, b2]; rfl
    · show (PyData.leavesShort 121 x && PyData.leavesShortAll 121 xs) = true
      rw [a3, b3]; rfl
end
theorem repr_ok {S : Type} {d : PyData} (h : okDat d = true) (hd : d.depth ≤ 60) (hw : d.weight ≤ 100000) : (reprM d : SM S Str) = ret d.shown := by
  obtain ⟨a1, a2, a3⟩ := okDat_show h
  unfold reprM
  rw [grd_t, bnd_ret]
  refine ⟨a1, a2, hd, Nat.le_trans (PyData.shown_le 121 (by decide) _ a3) ?_⟩
  refine hz_small (k := 16777216) ?_ (Nat.le_refl _)
  generalize d.weight = z at *
  omega
def SmI (i : Int) : Prop := -(2 ^ 110) < i ∧ i < 2 ^ 110
structure DatB (d : PyData) (k w n : Nat) : Prop where
  ok : okDat d = true
  de : d.depth ≤ k
  w : d.weight ≤ w
  n : nL d ≤ n
theorem dat_int {i : Int} (h : SmI i) : DatB (.int i) 0 120 0 := by
  have l : i.natAbs.log2 < 120 := by
    have : i.natAbs < 2 ^ 120 := Nat.lt_of_lt_of_le (show i.natAbs < 2 ^ 110 by unfold SmI at h; omega) (Nat.pow_le_pow_right (by decide) (by decide))
    exact PySem.Flt.log2_lt_of (by decide) this
  exact ⟨decide_eq_true l, Nat.le_refl _, (by unfold PyData.weight; split <;> omega), Nat.le_refl _⟩
theorem DatB.le {d : PyData} {k w n k' w' n' : Nat} (h : DatB d k w n) (h1 : k ≤ k') (h2 : w ≤ w') (h3 : n ≤ n') : DatB d k' w' n' := ⟨h.ok, Nat.le_trans h.de h1, Nat.le_trans h.w h2, Nat.le_trans h.n h3⟩
theorem DatB.repr {S : Type} {d : PyData} {k w n : Nat} (h : DatB d k w n) (hk : k ≤ 60 := by decide) (hw : w ≤ 100000 := by decide) : (reprM d : SM S Str) = ret d.shown := repr_ok h.ok (Nat.le_trans h.de hk) (Nat.le_trans h.w hw)
end Tp
set_option Elab.async false
set_option linter.all false
set_option maxRecDepth 100000
set_option maxHeartbeats 4000000
namespace Tp
open Td L2 PySem
theorem neP_L {S : Type} (a b : List (Int × Int)) : (neD (dL (dP PyData.int PyData.int) a) (dL (dP PyData.int PyData.int) b) : SM S Bool) = Td.ret (!decide (a = b)) := ((ed_int.P ed_int).L).neD (by decide) _ _
end Tp
set_option Elab.async false
set_option linter.all false
set_option maxRecDepth 100000
set_option maxHeartbeats 4000000
namespace Tk
open Td
theorem powM_ok {S : Type} {i j : Int} (h : CPowV i j) : (powM i j : SM S Int) = ret (i ^ j.toNat) := by unfold powM grdI; rw [grd_t h]; rfl
theorem mulM_ok {S : Type} {i j : Int} (h : L2.CMul i j) : (mulM i j : SM S Int) = ret (i * j) := by unfold mulM grdI; rw [grd_t h]; rfl
theorem mulWM_ok {S : Type} {i j : Int} (h : L2.CMulW i j) : (mulWM i j : SM S Int) = ret (i * j) := by unfold mulWM grdI; rw [grd_t h]; rfl
theorem divWM_ok {S : Type} {i j : Int} (h : L2.CDivW i j) : (divWM i j : SM S Int) = ret (i / j) := by unfold divWM grdI; rw [grd_t h]; rfl
theorem modM_ok {S : Type} {i j : Int} (h : 0 < j) : (modM i j : SM S Int) = ret (i % j) := by
  have h' : j ≠ 0 := by omega
  unfold modM grdI
  rw [grd_t h']
  show ret (i.fmod j) = _
  rw [Int.fmod_eq_emod_of_nonneg i (by omega)]
theorem hw_ix0 {a b c : Int} {P : Int → List Int → Prop} (h : P a [a, b, c]) : Hw (stIx 0) [a, b, c] P := by unfold Hw; exact h
theorem hw_ix1 {a b c : Int} {P : Int → List Int → Prop} (h : P b [a, b, c]) : Hw (stIx 1) [a, b, c] P := by unfold Hw; exact h
theorem hw_ix2 {a b c : Int} {P : Int → List Int → Prop} (h : P c [a, b, c]) : Hw (stIx 2) [a, b, c] P := by unfold Hw; exact h
theorem hw_set0 {a b c v : Int} {P : Unit → List Int → Prop} (h : P () [v, b, c]) : Hw (stSet 0 v) [a, b, c] P := by unfold Hw; exact h
theorem hw_set2 {a b c v : Int} {P : Unit → List Int → Prop} (h : P () [a, b, v]) : Hw (stSet 2 v) [a, b, c] P := by unfold Hw; exact h
theorem hw_pick {u : Int} {n : Nat} {s : List Int} (h0 : 0 < u) (hu : u < 2 ^ 200) (hn : n < 2 ^ 100) (hg : Gd n s) : Hw (m__law_td_pick u) s fun v s' => (0 ≤ v ∧ v < u) ∧ Gd (n + 1) s' := by
  obtain ⟨a, b, c, e, ha, ⟨hb0, hb1⟩, hc0, hc1⟩ := hg
  subst e
  have cu : L2.CDivW a u := ⟨h0, by have := log2_lt (by omega : 0 ≤ u) hu (by decide); omega⟩
  unfold m__law_td_pick o__law_td_pick
  simp only [bnd_assoc, bnd_ret, runB_bnd]
  refine hw_bnd (hw_ix0 ?_)
  by_cases h1 : decide (1 < a) = true
  · simp only [h1, if_true, esc_bnd, runB_bnd, bnd_assoc, bnd_ret, esc_ret, runB_rt]
    refine hw_bnd (hw_ix0 ?_)
    rw [modM_ok h0, bnd_ret]
    refine hw_bnd (hw_ix0 ?_)
    rw [divWM_ok cu, bnd_ret]
    refine hw_bnd (hw_set0 (hw_ret ⟨⟨Int.emod_nonneg _ (by omega), Int.emod_lt_of_pos _ h0⟩, a / u, b, c, rfl, Int.ediv_nonneg ha (by omega), ⟨hb0, hb1⟩, hc0, by push_cast; omega⟩))
  · simp only [h1, if_false, runB_bnd, bnd_assoc, bnd_ret, runB_rt, Bool.false_eq_true]
    refine hw_bnd (hw_ix2 (hw_bnd (hw_set2 ?_)))
    refine hw_bnd (hw_ix1 (hw_bnd (hw_ix2 ?_)))
    have hN : (n : Int) < 2 ^ 100 := by exact_mod_cast hn
    have hc2 : c + 1 ≤ 2 ^ 100 := by omega
    have lc : (c + 1).natAbs.log2 < 101 := log2_lt (by omega) (by omega) (by decide)
    have cm : ∀ k : Int, 0 ≤ k → k < 2 ^ 40 → L2.CMulW k (c + 1) := fun k k0 k1 => by
      have := log2_lt k0 k1 (by decide)
      unfold L2.CMulW
      omega
    rw [mulWM_ok (cm _ (by decide) (by decide)), bnd_ret]
    have x0 : (0 : Int) ≤ b + 1300190417 * (c + 1) := by omega
    have x1 : b + 1300190417 * (c + 1) < 2 ^ 200 := by omega
    rw [powM_ok ⟨x0, by decide, by have := log2_lt x0 x1 (by decide); show _ * 3 ≤ _; omega⟩, bnd_ret, powM_ok (by decide), bnd_ret, modM_ok (by decide), bnd_ret]
    refine hw_bnd (hw_ix2 ?_)
    rw [mulWM_ok (cm _ (by decide) (by decide)), bnd_ret]
    have y0 := Int.emod_nonneg ((b + 1300190417 * (c + 1)) ^ (3 : Int).toNat) (show ((10 : Int) ^ (40 : Int).toNat + 121) ≠ 0 by decide)
    have y1 := Int.emod_lt_of_pos ((b + 1300190417 * (c + 1)) ^ (3 : Int).toNat) (show 0 < ((10 : Int) ^ (40 : Int).toNat + 121) by decide)
    generalize (b + 1300190417 * (c + 1)) ^ (3 : Int).toNat % ((10 : Int) ^ (40 : Int).toNat + 121) = y at *
    have y2 : y < 2 ^ 150 := Int.lt_trans y1 (by decide)
    have z0 : 0 ≤ y + 15485863 * (c + 1) := by omega
    have z1 : y + 15485863 * (c + 1) < 2 ^ 200 := by omega
    rw [powM_ok ⟨z0, by decide, by have := log2_lt z0 z1 (by decide); show _ * 2 ≤ _; omega⟩, bnd_ret, powM_ok (by decide), bnd_ret, modM_ok (by decide), bnd_ret, divWM_ok ⟨by decide, by decide⟩, bnd_ret, modM_ok h0, bnd_ret]
    exact hw_ret ⟨⟨Int.emod_nonneg _ (by omega), Int.emod_lt_of_pos _ h0⟩, a, b, c + 1, rfl, ha, ⟨hb0, hb1⟩, by omega, by push_cast; omega⟩
end Tk
set_option Elab.async false
set_option linter.all false
set_option maxRecDepth 100000
set_option maxHeartbeats 4000000
namespace Tk
open Td
theorem atI_nn {T : Type} {xs : List T} {i : Int} (h0 : 0 ≤ i) (h1 : i < xs.length) : L2.atI xs i = some (xs[i.toNat]'(by omega)) := by
  unfold L2.atI L2.ixN
  rw [if_pos h0, if_pos h1]
  exact List.getElem?_eq_getElem (by omega)
theorem ixM_ok {S T : Type} {xs : List T} {i : Int} {a : T} (h : L2.atI xs i = some a) : (ixM xs i : SM S T) = ret a := by unfold ixM; rw [h]
theorem hw_sack {ns : List Int} {r : Int} (h0 : 0 ≤ r) : Hw (m__law_td_sack (ns, r)) () fun s _ => Gd 0 s := by
  unfold m__law_td_sack o__law_td_sack
  simp only [bnd_assoc, bnd_ret, runB_bnd, bnd_ite]
  have main : ∀ cell : Int, Hw (bnd (powM 10 18) fun a631 => bnd (mulM cell 52361) fun a608 => bnd (mulM r 9176429) fun a609 => bnd (powM 10 36) fun a618 => bnd (modM (a608 + a609 + 7919) (a618 + 67)) fun a572 =>
      bnd (lenG [if (if cell < 0 then -cell else cell) - a631 > 0 then (if cell < 0 then -cell else cell) - a631 else 0, a572, 0]) fun _ => runB (ret (Fl.rt [if (if cell < 0 then -cell else cell) - a631 > 0 then (if cell < 0 then -cell else cell) - a631 else 0, a572, 0]) : SM Unit (Fl Empty Empty (List Int)))) () fun s _ => Gd 0 s := by
    intro cell
    rw [powM_ok (by decide), bnd_ret, mulM_ok (.inr (by decide)), bnd_ret, mulM_ok (.inr (by decide)), bnd_ret, powM_ok (by decide), bnd_ret, modM_ok (by decide), bnd_ret, lenG, grd_t (by simp [PySem.sizeLine_eq]), bnd_ret, runB_rt]
    refine hw_ret ⟨_, _, _, rfl, ?_, ⟨Int.emod_nonneg _ (by decide), Int.lt_trans (Int.emod_lt_of_pos _ (by decide)) (by decide)⟩, by decide, by decide⟩
    split <;> omega
  by_cases hk : decide (r < (ns.length : Int)) = true
  · have hlt : r < (ns.length : Int) := of_decide_eq_true hk
    simp only [hk, if_true]
    rw [ixM_ok (atI_nn h0 hlt), bnd_ret]
    simp only [runB_bnd]
    exact main _
  · simp only [hk, if_false, Bool.false_eq_true, runB_bnd]
    exact main 0
end Tk
set_option Elab.async false
set_option linter.all false
set_option maxRecDepth 100000
set_option maxHeartbeats 4000000
namespace Tk
open Td Tp
theorem tix {t : TapeV} {i : Int} (h0 : 0 ≤ i) (h1 : i < t.2.length) : m_Tape_DgetitemD (t, i) = ret (t.2.getD i.toNat (0, 0)) := by
  unfold m_Tape_DgetitemD o_Tape_DgetitemD
  simp only [bnd_assoc, bnd_ret, bnd_ite, decide_eq_true h0, decide_eq_true h1, if_true, Bool.not_true, Bool.false_eq_true, if_false, ixM_get (0, 0) h0 h1, runB_rt]
theorem tln (t : TapeV) : m_Tape_DlenD t = ret (t.2.length : Int) := by
  unfold m_Tape_DlenD o_Tape_DlenD
  simp only [bnd_assoc, bnd_ret, runB_rt]
theorem tlen (t : TapeV) : m_Tape_length t = ret t.1 := by
  unfold m_Tape_length o_Tape_length
  simp only [bnd_assoc, bnd_ret, runB_rt]
theorem small63 {n : Nat} (h : n ≤ PySem.sizeLine) : (0 : Int) ≤ (n : Int) ∧ (n : Int) < 2 ^ 63 := by
  have e : PySem.sizeLine = 16777216 := PySem.sizeLine_eq
  generalize PySem.sizeLine = z at *
  subst e
  omega
end Tk
set_option Elab.async false
set_option linter.all false
set_option maxRecDepth 100000
set_option maxHeartbeats 4000000
namespace Tk
open Td Tp L2
theorem divM_pos {S : Type} {i j : Int} (h : 0 < j) (h2 : j < 2 ^ 30) : (divM i j : SM S Int) = ret (i / j) := by
  unfold divM grdI
  rw [grd_t (by unfold L2.CDivN; omega)]
  show ret (i.fdiv j) = _
  rw [Int.fdiv_eq_ediv_of_nonneg i (by omega)]
theorem cut_take {T : Type} {xs : List T} {n : Nat} (h : n ≤ xs.length) : cutL xs none (some (n : Int)) = xs.take n := by
  unfold cutL
  rw [HT.sIx_none, HT.sIx_nat, Nat.min_eq_left h]
  rfl
end Tk
set_option Elab.async false
set_option linter.all false
set_option maxRecDepth 100000
set_option maxHeartbeats 4000000
namespace Tk
open Td Tp L2
theorem eu {S : Type} {A : Type} (f : Int × Int → A → SM S (Fl (Int × Int) (Int × Int) (Int × Int))) (h0 : ∀ l a, l.2 = 0 → f l a = ret (.bk l)) (h1 : ∀ l a, 0 < l.2 → f l a = ret (.nx (l.2, l.1 % l.2))) :
    ∀ (xs : List A) (x y : Int) (k : Nat), 0 ≤ y → y ≤ x → x * y < 2 ^ k → k + 1 ≤ xs.length → forM_ xs f (x, y) = ret (.dn ((Int.gcd x y : Int), 0))
  | [], _, _, _, _, _, _, h => by simp at h
  | a :: xs, x, y, k, hy, hxy, hk, hl => by
    unfold forM_
    by_cases e : y = 0
    · subst e
      rw [h0 _ _ rfl, bnd_ret]
      have e : Int.gcd x 0 = x.natAbs := Int.gcd_zero_right x
      rw [e, Int.natAbs_of_nonneg (by omega)]
    · have hp : 0 < y := by omega
      rw [h1 _ _ hp, bnd_ret]
      have m0 := Int.emod_nonneg x e
      have m1 := Int.emod_lt_of_pos x hp
      have eg : Int.gcd y (x % y) = Int.gcd x y := by
        unfold Int.gcd
        rw [Int.natAbs_emod_of_nonneg (by omega), Nat.gcd_comm, ← Nat.gcd_rec, Nat.gcd_comm]
      rw [← eg]
      match k, hk, hl with
      | 0, hk, _ =>
        have : 0 < x * y := Int.mul_pos (by omega) hp
        simp at hk
        omega
      | k + 1, hk, hl =>
        refine eu f h0 h1 xs y (x % y) k m0 (by omega) ?_ (by simpa using hl)
        have hd : x = y * (x / y) + x % y := (Int.mul_ediv_add_emod x y).symm
        have hq : 1 ≤ x / y := (Int.le_ediv_iff_mul_le hp).mpr (by omega)
        have hyq : y * 1 ≤ y * (x / y) := Int.mul_le_mul_of_nonneg_left hq (by omega)
        have h2 : 2 * (x % y) < x := by omega
        have h3 : y * (2 * (x % y)) < y * x := Int.mul_lt_mul_of_pos_left h2 hp
        rw [Int.pow_succ] at hk
        have e1 : y * (2 * (x % y)) = 2 * (y * (x % y)) := Int.mul_left_comm ..
        have e2 : y * x = x * y := Int.mul_comm ..
        omega
end Tk
set_option Elab.async false
set_option linter.all false
set_option maxRecDepth 100000
set_option maxHeartbeats 4000000
namespace Tk
open Td Tp L2 PySem
theorem init_eq {L : Int} {fs : List (Int × Int)} (h : 1 ≤ L) (hf : FOk L 0 fs) : m_Tape_DinitD (L, fs) TS0.new = .ok () (.full (L, fs)) := by
  unfold m_Tape_DinitD o_Tape_DinitD
  have e1 : decide (L < 1) = false := decide_eq_false (by omega)
  simp only [bnd_assoc, bnd_ret, e1, Bool.false_eq_true, if_false]
  have main : ∀ (fs : List (Int × Int)) (e : Int) (f : Int → Int × Int → SM TS0 (Fl Int Int Unit)), (∀ (e : Int) (d : Int × Int), e ≤ d.1 → d.1 < d.2 → d.2 ≤ L → f e d = ret (.nx d.2)) → FOk L e fs → ∃ z, forM_ fs f e = ret (.dn z) := by
    intro fs
    induction fs with
    | nil => intro e f _ _; exact ⟨e, rfl⟩
    | cons d r ih =>
      intro e f hf h
      obtain ⟨a, b, c, k⟩ := h
      unfold forM_
      rw [hf e d a b c, bnd_ret]
      exact ih d.2 f hf k
  suffices hs : ∃ z, forM_ fs _ (0 : Int) = ret (.dn z) by
    obtain ⟨z, hz⟩ := hs
    rw [hz, lpM_dn]
    rfl
  refine main fs 0 _ (fun e d a b c => ?_) hf
  simp only [decide_eq_true a, decide_eq_true b, decide_eq_true c, if_true, bnd_ret, Bool.not_true, Bool.false_eq_true, if_false]
theorem make_eq {S : Type} {L : Int} {fs : List (Int × Int)} (h : 1 ≤ L) (hf : FOk L 0 fs) {U : Type} (k : TapeV → SM S U) : (bnd (subM (m_Tape_DinitD (L, fs)) TS0.new) fun r => bnd (tapeM r.2) k) = k (L, fs) := by
  have : (subM (m_Tape_DinitD (L, fs)) TS0.new : SM S (Unit × TS0)) = ret ((), .full (L, fs)) := by
    funext s
    unfold subM
    rw [init_eq h hf]
    rfl
  rw [this, bnd_ret]
  rfl
end Tk
set_option Elab.async false
set_option linter.all false
set_option maxRecDepth 100000
set_option maxHeartbeats 4000000
namespace Tk
open Td Tp L2
theorem pick_step {U : Type} {u : Int} {n : Nat} {s : List Int} {k : Int → SM (List Int) U} {P : U → List Int → Prop} (h0 : 0 < u) (hu : u ≤ 2 ^ 190) (hn : n ≤ 100000) (hg : Gd n s) (h : ∀ v s', 0 ≤ v → v < u → Gd (n + 1) s' → Hw (k v) s' P) : Hw (bnd (m__law_td_pick u) k) s P := by
  have hu' : u < 2 ^ 200 := Int.lt_of_le_of_lt hu (by decide)
  have hn' : n < 2 ^ 100 := Nat.lt_of_le_of_lt hn (by decide)
  exact hw_seq (hw_pick h0 hu' hn' hg) fun v s' q => h v s' q.1.1 q.1.2 q.2
theorem len2 {S : Type} (a b : Int) : (lenG [a, b] : SM S Unit) = Td.ret () := lenG_ok (hz_small (k := 2) (Nat.le_refl _) (by omega))
theorem len0 {S T : Type} : (lenG ([] : List T) : SM S Unit) = Td.ret () := lenG_ok (by simp)
theorem ix2 {S : Type} {a b v : Int} (h0 : 0 ≤ v) (h1 : v < 2) : (ixM [a, b] v : SM S Int) = Td.ret (if v = 0 then a else b) := by
  rcases (show v = 0 ∨ v = 1 by omega) with e | e <;> subst e <;> rfl
/-- a tape's length and files, drawn -/
structure Shp (m : Nat) (sh : Int × List (Int × Int)) : Prop where
  f : FOk sh.1 0 sh.2
  m : sh.2.length ≤ m
  l : 1 ≤ sh.1
  h : sh.1 ≤ 2000000
theorem hw_shape {n : Nat} {s : List Int} {most : Int} (h0 : 0 ≤ most) (h8 : most ≤ 8) (hn : n ≤ 50000) (hg : Gd n s) : Hw (m__law_td_shape most) s fun sh s' => Shp 8 sh ∧ Gd (n + 40) s' := by
  unfold m__law_td_shape o__law_td_shape
  simp only [bnd_assoc, bnd_ret, runB_bnd]
  refine pick_step (by omega) (by omega) (by omega) hg fun many s hm0 hm1 hg => ?_
  have ht : ∃ top : Int, (divM 54 (if many > 1 then many else 1) : SM (List Int) Int) = Td.ret top ∧ 6 ≤ top ∧ top ≤ 54 := by
    refine ⟨54 / (if many > 1 then many else 1), divM_pos (by split <;> omega) (by split <;> omega), ?_, ?_⟩
    · exact (Int.le_ediv_iff_mul_le (by split <;> omega)).mpr (by split <;> omega)
    · exact Int.ediv_le_self _ (by omega)
  obtain ⟨top, et, t0, t1⟩ := ht
  rw [et, bnd_ret]
  refine pick_step (by omega) (by omega) (by omega) hg fun spot s hs0 hs1 hg => ?_
  rw [len0, bnd_ret, rngG_ok (by omega), bnd_ret, upto_up]
  obtain ⟨k, hk⟩ : ∃ k : Nat, many = (k : Int) := ⟨many.toNat, by omega⟩
  subst hk
  rw [show (Int.toNat (k : Int)) = k by omega]
  refine hw_runB (hw_lp ?_)
  refine hw_mono (hw_forN (fun j (l : List (Int × Int) × Int) s => FOk l.2 0 l.1 ∧ l.1.length = j ∧ 0 ≤ l.2 ∧ l.2 ≤ 3 + 60 * j ∧ Gd (n + 2 + 4 * j) s) (upI k) ⟨trivial, rfl, hs0, by omega, hg⟩ fun j a l s ha hj => ?_) fun e s q => ?_
  · obtain ⟨f1, f2, f3, f4, hg⟩ := hj
    have hjk : j < k := by
      have := (List.getElem?_eq_some_iff.mp ha).1
      rwa [upI_len] at this
    rw [len2, bnd_ret]
    refine pick_step (by omega) (by omega) (by omega) hg fun v s v0 v1 hg => ?_
    rw [ix2 v0 v1, bnd_ret]
    refine pick_step (by split <;> omega) (by split <;> omega) (by omega) hg fun z s z0 z1 hg => ?_
    have z2 : z < 54 := by split at z1 <;> omega
    rw [pushM_ok (hz_small (n := l.1.length + 1) (k := 100) (by omega) (by omega)), bnd_ret]
    refine pick_step (by omega) (by omega) (by omega) hg fun g s g0 g1 hg => ?_
    rw [len2, bnd_ret]
    refine pick_step (by omega) (by omega) (by omega) hg fun b s b0 b1 hg => ?_
    rw [ix2 b0 b1, bnd_ret]
    refine hw_ret ⟨fok_snoc (d := (l.2, l.2 + (1 + z))) (Int.le_refl _) (by dsimp only; omega) (by dsimp only; split <;> omega) f3 f1, by rw [List.length_append, f2]; rfl, by dsimp only; split <;> omega, by dsimp only; push_cast; split <;> omega, ?_⟩
    exact hg.le (by omega)
  · cases e with
    | rt b => exact q.elim
    | dn l =>
      obtain ⟨f1, f2, f3, f4, hg⟩ := q
      rw [upI_len] at f2 f4 hg
      refine pick_step (by omega) (by omega) (by omega) hg fun v s v0 v1 hg => ?_
      refine hw_ret ⟨⟨fok_mono (by dsimp only; split <;> omega) f1, by dsimp only; omega, by dsimp only; split <;> omega, by dsimp only; split <;> omega⟩, hg.le (by omega)⟩
end Tk
set_option Elab.async false
set_option linter.all false
set_option maxRecDepth 100000
set_option maxHeartbeats 4000000
namespace Tk
open Td Tp L2
theorem hw_wide {n : Nat} {s : List Int} (hn : n ≤ 50000) (hg : Gd n s) : Hw (m__law_td_wide_shape ()) s fun sh s' => Shp 60 sh ∧ Gd (n + 200) s' := by
  unfold m__law_td_wide_shape o__law_td_wide_shape
  simp only [bnd_assoc, bnd_ret, runB_bnd]
  refine pick_step (by omega) (by omega) (by omega) hg fun spot s hs0 hs1 hg => ?_
  rw [len0, bnd_ret]
  refine pick_step (by omega) (by omega) (by omega) hg fun m1 s m10 m11 hg => ?_
  rw [len2, bnd_ret]
  refine pick_step (by omega) (by omega) (by omega) hg fun m2 s m20 m21 hg => ?_
  rw [ix2 m20 m21, bnd_ret]
  obtain ⟨k, hk, hk60⟩ : ∃ k : Nat, (if m2 = 0 then m1 else 60) = (k : Int) ∧ k ≤ 60 := ⟨(if m2 = 0 then m1 else 60).toNat, by split <;> omega, by split <;> omega⟩
  rw [hk, rngG_ok (by omega), bnd_ret, upto_up]
  rw [show (Int.toNat (k : Int)) = k by omega]
  refine hw_runB (hw_lp ?_)
  refine hw_mono (hw_forN (fun j (l : List (Int × Int) × Int) s => FOk l.2 0 l.1 ∧ l.1.length = j ∧ 0 ≤ l.2 ∧ l.2 ≤ 9000 + 16000 * j ∧ Gd (n + 3 + 3 * j) s) (upI k) ⟨trivial, rfl, hs0, by omega, hg⟩ fun j a l s ha hj => ?_) fun e s q => ?_
  · obtain ⟨f1, f2, f3, f4, hg⟩ := hj
    have hjk : j < k := by
      have := (List.getElem?_eq_some_iff.mp ha).1
      rwa [upI_len] at this
    refine pick_step (by omega) (by omega) (by omega) hg fun z s z0 z1 hg => ?_
    rw [pushM_ok (hz_small (n := l.1.length + 1) (k := 100) (by omega) (by omega)), bnd_ret]
    refine pick_step (by omega) (by omega) (by omega) hg fun g s g0 g1 hg => ?_
    rw [len2, bnd_ret]
    refine pick_step (by omega) (by omega) (by omega) hg fun b s b0 b1 hg => ?_
    rw [ix2 b0 b1, bnd_ret]
    refine hw_ret ⟨fok_snoc (d := (l.2, l.2 + (1 + z))) (Int.le_refl _) (by dsimp only; omega) (by dsimp only; split <;> omega) f3 f1, by rw [List.length_append, f2]; rfl, by dsimp only; split <;> omega, by dsimp only; push_cast; split <;> omega, ?_⟩
    exact hg.le (by omega)
  · cases e with
    | rt b => exact q.elim
    | dn l =>
      obtain ⟨f1, f2, f3, f4, hg⟩ := q
      rw [upI_len] at f2 f4 hg
      refine pick_step (by omega) (by omega) (by omega) hg fun v s v0 v1 hg => ?_
      refine hw_ret ⟨⟨fok_mono (by dsimp only; split <;> omega) f1, by dsimp only; omega, by dsimp only; split <;> omega, by dsimp only; split <;> omega⟩, hg.le (by omega)⟩
end Tk
set_option Elab.async false
set_option linter.all false
set_option maxRecDepth 100000
set_option maxHeartbeats 4000000
namespace Tk
open Td Tp L2
theorem fok_sub {L : Int} {fs gs : List (Int × Int)} (h : FOk L 0 fs) (hs : gs.Sublist fs) : FOk L 0 gs := by
  rw [fok_iff] at h ⊢
  exact ⟨fun d hd => h.1 d (hs.subset hd), h.2.sublist hs⟩
theorem cutT {T : Type} {xs : List T} {i : Int} (h0 : 0 ≤ i) (h1 : i ≤ xs.length) : cutL xs none (some i) = xs.take i.toNat := by
  obtain ⟨n, rfl⟩ : ∃ n : Nat, i = (n : Int) := ⟨i.toNat, by omega⟩
  rw [cut_take (by omega), Int.toNat_natCast]
theorem cutD {T : Type} {xs : List T} {i : Int} (h0 : 0 ≤ i) (h1 : i ≤ xs.length) : cutL xs (some i) none = xs.drop i.toNat := by
  obtain ⟨n, rfl⟩ : ∃ n : Nat, i = (n : Int) := ⟨i.toNat, by omega⟩
  unfold cutL
  rw [HT.sIx_none, HT.sIx_nat, Int.toNat_natCast, Nat.min_eq_left (by omega), List.take_of_length_le (by rw [List.length_drop]; omega)]
theorem eqTape_eq (a b : TapeV) : m_Tape_DeqD (a, b) = Td.ret (decide (a = b)) := by
  unfold m_Tape_DeqD o_Tape_DeqD
  simp only [bnd_assoc, bnd_ret, if_true]
  rw [((ed_int.P ed_int).TL).eqD (by decide)]
  have : (decide (a = b)) = (decide (a.1 = b.1) && decide (a.2 = b.2)) := by
    rw [← Bool.decide_and]
    exact decide_eq_decide.mpr Prod.ext_iff
  rw [this, and_ret, bnd_ret, runB_rt]
/-- tapes that may be made -/
structure Tp_ (t : TapeV) : Prop where
  f : FOk t.1 0 t.2
  l : 1 ≤ t.1
  n : t.2.length ≤ 61
theorem Tp_.z {t : TapeV} (h : Tp_ t) : t.2.length ≤ PySem.sizeLine := hz_small h.n (by omega)
theorem turned_eq {t : TapeV} (h : Tp_ t) : m_Tape_turned t = Td.ret (t.1, mirF t.1 t.2) := by
  unfold m_Tape_turned o_Tape_turned
  simp only [bnd_assoc, bnd_ret, lcIt_t]
  rw [lcM_map (fun d : Int × Int => (t.1 - d.2, t.1 - d.1)) _ (fun x _ => rfl) (by rw [List.length_reverse]; exact h.z), bnd_ret]
  have e : t.2.reverse.map (fun d : Int × Int => (t.1 - d.2, t.1 - d.1)) = mirF t.1 t.2 := rfl
  rw [e, make_eq h.l (fok_mir h.f), runB_rt]
theorem without_eq {t : TapeV} {i : Int} (h : Tp_ t) (h0 : 0 ≤ i) (h1 : i < t.2.length) : m_Tape_without (t, i) = Td.ret (t.1, t.2.take i.toNat ++ t.2.drop (i.toNat + 1)) := by
  unfold m_Tape_without o_Tape_without
  simp only [bnd_assoc, bnd_ret, decide_eq_true h0, decide_eq_true h1, if_true, Bool.not_true, Bool.false_eq_true, if_false]
  rw [cutT h0 (by omega), cutD (by omega) (by omega), List.append_nil, show (i + 1).toNat = i.toNat + 1 by omega]
  have hs : (t.2.take i.toNat ++ t.2.drop (i.toNat + 1)).Sublist t.2 := by
    have := List.Sublist.append (List.Sublist.refl (t.2.take i.toNat)) (List.drop_sublist_drop_left t.2 (show i.toNat ≤ i.toNat + 1 by omega))
    rwa [List.take_append_drop] at this
  rw [lenG_ok (Nat.le_trans hs.length_le h.z), bnd_ret, make_eq h.l (fok_sub h.f hs), runB_rt]
theorem ltape_eq {t : TapeV} (h : Tp_ t) : m__law_td_tape t = Td.ret t := by
  unfold m__law_td_tape o__law_td_tape
  simp only [bnd_assoc, bnd_ret]
  rw [make_eq h.l h.f, pushM_ok (hz_small (n := t.2.length + 1) (k := 62) (by have := h.n; omega) (by omega)), bnd_ret, runB_rt]
end Tk
set_option Elab.async false
set_option linter.all false
set_option maxRecDepth 100000
set_option maxHeartbeats 4000000
namespace Tk
open Td Tp L2 PySem
theorem pstep {U : Type} {u : Int} {n : Nat} {s : List Int} {k : Int → SM (List Int) U} {P : U → List Int → Prop} (h0 : 0 < u) (hu : u ≤ 2 ^ 190) (hn : n ≤ 100000) (hg : Gd n s) (h : ∀ v s', 0 ≤ v → v < u → Gd (n + 1) s' → Hw (k v) s' P) : Hw (bnd (m__law_td_pick u) k) s P := by
  have hu' : u < 2 ^ 200 := Int.lt_of_le_of_lt hu (by decide)
  have hn' : n < 2 ^ 100 := Nat.lt_of_le_of_lt hn (by decide)
  exact hw_seq (hw_pick h0 hu' hn' hg) fun v s' q => h v s' q.1.1 q.1.2 q.2
theorem ixM_at {S T : Type} {xs : List T} {i : Int} (h0 : 0 ≤ i) (h1 : i < xs.length) : ∃ y, (ixM xs i : SM S T) = Td.ret y ∧ y ∈ xs := by
  have hj : i.toNat < xs.length := by omega
  refine ⟨xs[i.toNat], ?_, List.getElem_mem hj⟩
  exact ixM_ok (atI_nn h0 h1)
theorem lenK {S T : Type} {l : List T} (k : Nat) (h : l.length = k) (hk : k ≤ 100 := by decide) : (lenG l : SM S Unit) = Td.ret () := lenG_ok (hz_small (k := 100) (by omega) (by omega))
end Tk
set_option Elab.async false
set_option linter.all false
set_option maxRecDepth 100000
set_option maxHeartbeats 4000000
namespace Tk
open Td Tp L2 PySem
theorem bnd_rse {S T U : Type} (e : Exn) (f : T → SM S U) : bnd (Td.rse e) f = Td.rse e := rfl
theorem lft_rse {S T : Type} (e : Exn) : (lft (Td.rse e) : SM S T) = Td.rse e := rfl
theorem thn_rse {S N N' L R : Type} (e : Exn) (f : N → SM S (Fl N' L R)) : thn_ (Td.rse e : SM S (Fl N L R)) f = Td.rse e := rfl
theorem try_rse {S N L R : Type} {e : Exn} {c : Str → Bool} {nc : Exn → N} (h : c e.cls = true) : (tryB (Td.rse e) c nc : SM S (Fl N L R)) = Td.ret (.nx (nc e)) := by
  funext s
  show (if c e.cls = true then _ else _) = _
  rw [if_pos h]
  rfl
theorem bad_ix {t : TapeV} {i : Int} (h : i < 0 ∨ (t.2.length : Int) ≤ i) : (if decide (0 ≤ i) = true then decide (i < (t.2.length : Int)) else false) = false := by
  by_cases c : 0 ≤ i
  · rw [decide_eq_true c, if_pos rfl, decide_eq_false (by omega)]
  · rw [decide_eq_false c]; rfl
theorem get_no {t : TapeV} {i : Int} (h : i < 0 ∨ (t.2.length : Int) ≤ i) : m_Tape_DgetitemD (t, i) = Td.rse ⟨"UnknownFile", .int i⟩ := by
  unfold m_Tape_DgetitemD o_Tape_DgetitemD
  simp only [bnd_assoc, bnd_ret, and_ret, ite_ret, bad_ix h]
  rfl
theorem without_no {t : TapeV} {i : Int} (h : i < 0 ∨ (t.2.length : Int) ≤ i) : m_Tape_without (t, i) = Td.rse ⟨"UnknownFile", .int i⟩ := by
  unfold m_Tape_without o_Tape_without
  simp only [bnd_assoc, bnd_ret, and_ret, ite_ret, bad_ix h]
  rfl
theorem unk_ok {t : TapeV} {i mode : Int} (hi : SmI i) (h : i < 0 ∨ (t.2.length : Int) ≤ i) : m__law_td_unknown (t, i, mode) = Td.ret true := by
  unfold m__law_td_unknown o__law_td_unknown m__law_td_is_only o__law_td_is_only
  simp only [bnd_assoc, bnd_ret, get_no h, without_no h, lft_rse, bnd_rse, thn_rse, ite_self]
  rw [try_rse (by rfl), thn_nx]
  have r1 : (reprM (PyData.int i) : SM Unit Str) = Td.ret (PyData.int i).shown := (dat_int hi).repr
  have e0 : (lenG [false] : SM Unit Unit) = Td.ret () := lenK 1 rfl
  have i1 : isTab [(Str.ofString "InvalidTape", true), (Str.ofString "UnknownFile", false), (Str.ofString "InvalidFile", true)] "UnknownFile" = some false := by decide +kernel
  have i2 : isTab [(Str.ofString "InvalidTape", false), (Str.ofString "UnknownFile", true), (Str.ofString "InvalidFile", false)] "UnknownFile" = some true := by decide +kernel
  have i3 : isTab [(Str.ofString "InvalidTape", true), (Str.ofString "UnknownFile", true), (Str.ofString "InvalidFile", true)] "UnknownFile" = some true := by decide +kernel
  have i4 : ("UnknownFile" : Str) ∈ [Str.ofString "InvalidTape", Str.ofString "UnknownFile", Str.ofString "InvalidFile"] := by decide +kernel
  simp only [isXM, i1, i2, i3, asM, bnd_ret, e0, if_true, if_false, Bool.not_true, Bool.false_eq_true, runB_rt, lft_ret, List.any_cons, List.any_nil]
  rw [grd_t i4, bnd_ret]
  show runB (bnd (reprM (PyData.int i)) fun a => bnd (reprM (PyData.int i)) fun b => Td.ret (Fl.rt (decide (a = b)))) = _
  rw [r1, bnd_ret, bnd_ret, decide_eq_true rfl]
  rfl
theorem files_eq {t : TapeV} (hz : t.2.length ≤ sizeLine) : m_Tape_files t = Td.ret t.2 := by
  unfold m_Tape_files o_Tape_files
  simp only [bnd_ret]
  rfl
theorem nePI {S : Type} (a b : Int × Int) : (neD (dP PyData.int PyData.int a) (dP PyData.int PyData.int b) : SM S Bool) = Td.ret (!decide (a = b)) := (ed_int.P ed_int).neD (by decide) _ _
theorem shp_ok {t : TapeV} {k : Int} (ht : Tp_ t) (hk : 0 ≤ k) : m__law_td_is_shape (t, t, k) = Td.ret true := by
  have hz : t.2.length ≤ sizeLine := ht.z
  unfold m__law_td_is_shape o__law_td_is_shape
  simp only [bnd_assoc, bnd_ret, tlen, tln, lft_ret, nxc_ret, files_eq hz, eqTape_eq, neP_L, nePI, decide_true, Bool.not_true, Bool.false_eq_true, if_false, if_true]
  rw [grd_t (small63 hz), bnd_ret]
  by_cases hk2 : k < (t.2.length : Int)
  · rw [decide_eq_true hk2, if_pos rfl, tix hk hk2, lft_ret, nxc_ret, bnd_ret, ixM_get (0, 0) hk hk2, bnd_ret, bnd_ret, decide_eq_true rfl, Bool.not_true, if_neg (by simp), make_eq ht.l ht.f]
    simp
    rfl
  · rw [decide_eq_false hk2, if_neg (by simp), bnd_ret, if_neg (by simp), make_eq ht.l ht.f]
    simp
    rfl
theorem mirror_eq {t : TapeV} (hz : t.2.length ≤ sizeLine) : m__law_td_mirror t = Td.ret (t.1, mirF t.1 t.2) := by
  unfold m__law_td_mirror o__law_td_mirror
  simp only [bnd_assoc, bnd_ret]
  rw [lcM_map (fun d : Int × Int => (t.1 - d.2, t.1 - d.1)) _ (fun x _ => lcIt_t _) (by rw [List.length_reverse]; exact hz), bnd_ret]
  rfl
theorem tp_without {t : TapeV} (h : Tp_ t) (i : Nat) : Tp_ (t.1, t.2.take i ++ t.2.drop (i + 1)) := by
  have e : t.2.take i ++ t.2.drop (i + 1) = t.2.eraseIdx i := (List.eraseIdx_eq_take_drop_succ ..).symm
  rw [e]
  exact ⟨fok_sub h.f (List.eraseIdx_sublist ..), h.l, Nat.le_trans (List.length_eraseIdx_le ..) h.n⟩
theorem tp_turned {t : TapeV} (h : Tp_ t) : Tp_ (t.1, mirF t.1 t.2) := ⟨fok_mir h.f, h.l, by rw [mir_len]; exact h.n⟩
theorem pow30 {S : Type} : (powM 10 30 : SM S Int) = Td.ret (10 ^ 30) := by rw [powM_ok (by refine ⟨?_, ?_⟩ <;> decide)]; rfl
theorem pow29 {S : Type} : (powM 10 29 : SM S Int) = Td.ret (10 ^ 29) := by rw [powM_ok (by refine ⟨?_, ?_⟩ <;> decide)]; rfl
theorem hw_shp {n : Nat} {s : List Int} {b : Bool} (hn : n ≤ 50000) (hg : Gd n s) : Hw (if b = true then m__law_td_wide_shape () else m__law_td_shape 8) s fun sh s' => Shp 60 sh ∧ Gd (n + 250) s' := by
  refine hw_ite (fun _ => hw_mono (hw_wide (by omega) hg) fun sh s q => ⟨q.1, q.2.le (by omega)⟩) fun _ => hw_mono (hw_shape (by omega) (by omega) (by omega) hg) fun sh s q => ⟨⟨q.1.f, Nat.le_trans q.1.m (by omega), q.1.l, q.1.h⟩, q.2.le (by omega)⟩
/-- a tape and its shape -/
def Kp (l : List (TapeV × TapeV)) : Prop := ∀ p, p ∈ l → p.1 = p.2 ∧ Tp_ p.1
theorem hw_right {n : Nat} {s : List Int} (hn : n ≤ 40000) (hg : Gd n s) : Hw (m__law_td_right ()) s fun b s' => b = true ∧ Gd (n + 500) s' := by
  unfold m__law_td_right o__law_td_right
  simp only [bnd_assoc, bnd_ret, runB_bnd]
  refine pstep (by omega) (by omega) (by omega) hg fun v s v0 v1 hg => ?_
  refine hw_seq (hw_shp (b := decide (v = 0)) (by omega) hg) fun sh s ⟨hsh, hg⟩ => ?_
  have ht0 : Tp_ sh := ⟨hsh.f, hsh.l, Nat.le_trans hsh.m (by omega)⟩
  rw [ltape_eq ht0, lft_ret, bnd_ret, lenK 1 rfl, bnd_ret]
  refine pstep (by omega) (by omega) (by omega) hg fun w s w0 w1 hg => ?_
  rw [rngG_ok (by omega), bnd_ret, upto_up]
  refine hw_runB (hw_lp ?_)
  refine hw_mono (hw_forN (fun j (l : List (TapeV × TapeV) × TapeV) s => (Kp l.1 ∧ l.1 ≠ [] ∧ l.1.length ≤ j + 1) ∧ Gd (n + 300 + 10 * j) s) (upI (Int.toNat (1 + w))) ⟨⟨fun p hp => by rw [List.mem_singleton.mp hp]; exact ⟨rfl, ht0⟩, by simp, Nat.le_refl _⟩, hg.le (by omega)⟩ fun j turn l s hj ⟨⟨h1, h2, h3⟩, hg⟩ => ?_) fun e s q => ?_
  · have hj12 : j < 12 := by
      have := (List.getElem?_eq_some_iff.mp hj).1
      rw [upI_len] at this
      omega
    have hlp : 0 < l.1.length := List.length_pos_iff.mpr h2
    refine pstep (by omega) (by omega) (by omega) hg fun p s p0 p1 hg => ?_
    rw [lenK 2 rfl, bnd_ret]
    refine pstep (by omega) (by omega) (by omega) hg fun b s b0 b1 hg => ?_
    have hix : ∃ i : Int, (ixM [(l.1.length : Int) - 1, p] b : SM (List Int) Int) = Td.ret i ∧ 0 ≤ i ∧ i < l.1.length := by
      obtain ⟨y, e, hy⟩ := ixM_at (S := List Int) (xs := [(l.1.length : Int) - 1, p]) b0 (by exact b1)
      refine ⟨y, e, ?_⟩
      rcases List.mem_cons.mp hy with hy | hy
      · omega
      · rw [List.mem_singleton] at hy; omega
    obtain ⟨i, ei, i0, i1⟩ := hix
    rw [ei, bnd_ret]
    obtain ⟨⟨t, t'⟩, et, hm⟩ := ixM_at (S := List Int) (xs := l.1) i0 i1
    rw [et, bnd_ret]
    obtain ⟨e12, ht⟩ := h1 _ hm
    dsimp only at e12 ht ⊢
    subst e12
    have htn := ht.n
    refine pstep (by omega) (by omega) (by omega) hg fun mode s _ _ hg => ?_
    refine pstep (by omega) (by omega) (by omega) hg fun spot s sp0 sp1 hg => ?_
    have kp_add : ∀ u : TapeV, Tp_ u → Kp (l.1 ++ [(u, u)]) := fun u hu p hp => by
      rcases List.mem_append.mp hp with hp | hp
      · exact h1 p hp
      · rw [List.mem_singleton.mp hp]; exact ⟨rfl, hu⟩
    have hpush : ∀ u : TapeV, (pushM l.1 (u, u) : SM (List Int) _) = Td.ret (l.1 ++ [(u, u)]) := fun u => pushM_ok (hz_small (n := l.1.length + 1) (k := 100) (by omega) (by omega))
    have hlast : ∀ (ks : List (TapeV × TapeV)) (u : TapeV), (ixM (ks ++ [(u, u)]) (-1) : SM (List Int) _) = Td.ret (u, u) := fun ks u => by
      rw [ixM_last (d := (u, u)) (by simp), List.getLast?_concat]; rfl
    rw [ite_ret, bnd_ret]
    refine hw_thn (hw_mono (P := fun fl s' => match fl with | .nx l' => (Kp l' ∧ l' ≠ [] ∧ l'.length ≤ j + 2) ∧ Gd (n + 300 + 10 * j + 7) s' | _ => False) ?_ fun fl s' hfl => ?_)
    · refine hw_ite (fun c => ?_) fun c => ?_
      · rw [pow30, bnd_ret]
        refine pstep (by decide) (by decide) (by omega) hg fun x s x0 x1 hg => ?_
        rw [pow29, bnd_ret, lenK 6 rfl, bnd_ret]
        refine pstep (by omega) (by omega) (by omega) hg fun k s k0 k1 hg => ?_
        obtain ⟨y, ey, hy⟩ := ixM_at (S := List Int) (xs := [(t.2.length : Int), (t.2.length : Int) + 1, -1, -1 - (t.2.length : Int), -1 - x, (t.2.length : Int) + 10 ^ 29]) k0 (by exact k1)
        rw [ey, bnd_ret]
        refine pstep (by omega) (by omega) (by omega) hg fun m s _ _ hg => ?_
        have hb : (y < 0 ∨ (t.2.length : Int) ≤ y) ∧ SmI y := by
          unfold SmI
          simp only [List.mem_cons, List.mem_nil_iff, or_false] at hy
          rcases hy with e | e | e | e | e | e <;> subst e <;> constructor <;> omega
        rw [unk_ok hb.2 hb.1, lft_ret, bnd_ret, Bool.not_true, if_neg (by simp)]
        exact hw_ret ⟨⟨h1, h2, by omega⟩, hg.le (by omega)⟩
      · have hsp : spot < (t.2.length : Int) := by
          have : ¬ spot = (t.2.length : Int) := fun e => c (by rw [decide_eq_true e]; split <;> rfl)
          omega
        have ew := without_eq ht sp0 hsp
        have tw := tp_without ht spot.toNat
        have tt := tp_turned ht
        refine hw_thn (hw_mono (P := fun fl s' => match fl with | .nx l' => (Kp l' ∧ l' ≠ [] ∧ l'.length ≤ j + 2) ∧ Gd (n + 300 + 10 * j + 7) s' | _ => False) ?_ fun fl s' hfl => ?_)
        · refine hw_ite (fun c => ?_) fun c => ?_
          · rw [turned_eq ht, lft_ret, bnd_ret, mirror_eq ht.z, lft_ret, bnd_ret, hpush, bnd_ret, hlast, bnd_ret]
            dsimp only
            rw [turned_eq tt, lft_ret, bnd_ret, eqTape_eq, lft_ret, nxc_ret, bnd_ret]
            dsimp only
            rw [mir_mir, decide_eq_true rfl, Bool.not_true, if_neg (by simp)]
            exact hw_ret ⟨⟨kp_add _ tt, by simp, by rw [List.length_append]; simp only [List.length_cons, List.length_nil]; omega⟩, hg.le (by omega)⟩
          · have e4 : (if decide (mode = 2) = true then (lft (m_Tape_without (t, spot)) : SM (List Int) TapeV) else lft (m_Tape_without (t, spot))) = Td.ret (t.1, t.2.take spot.toNat ++ t.2.drop (spot.toNat + 1)) := by rw [ew, lft_ret, ite_self]
            rw [e4, bnd_ret, cutT sp0 (by omega), cutD (by omega) (by omega), show (spot + 1).toNat = spot.toNat + 1 by omega, catM_ok (hz_small (n := (t.2.take spot.toNat).length + (t.2.drop (spot.toNat + 1)).length) (k := 1000) (by rw [List.length_take, List.length_drop]; omega) (by omega)), bnd_ret, hpush, bnd_ret]
            exact hw_ret ⟨⟨kp_add _ tw, by simp, by rw [List.length_append]; simp only [List.length_cons, List.length_nil]; omega⟩, hg.le (by omega)⟩
        · cases fl with
          | nx l' => exact hw_ret hfl
          | rt b => exact hfl.elim
          | bk l => exact hfl.elim
          | ct l => exact hfl.elim
    · cases fl with
      | nx l' =>
        obtain ⟨⟨k1, k2, k3⟩, hg⟩ := hfl
        dsimp only
        rw [files_eq ht.z, lft_ret, nxc_ret, bnd_ret, pushM_ok (hz_small (n := t.2.length + 1) (k := 100) (by omega) (by omega)), bnd_ret]
        obtain ⟨ks, u, ek⟩ : ∃ ks u, l' = ks ++ [u] := ⟨l'.dropLast, l'.getLast k2, (List.dropLast_concat_getLast k2).symm⟩
        obtain ⟨u1, u2⟩ := u
        have ku := k1 (u1, u2) (by rw [ek]; simp)
        dsimp only at ku
        obtain ⟨eu, tu⟩ := ku
        subst eu
        rw [ek, hlast, bnd_ret]
        refine hw_lp (hw_mono (hw_forN (fun i (_ : Unit) s => Gd (n + 300 + 10 * j + 7 + i) s) [(u1, u1), (t, t)] hg fun i p _ s hi hg => ?_) fun e s q => ?_)
        · have hi2 : i < 2 := (List.getElem?_eq_some_iff.mp hi).1
          refine pstep (by omega) (by omega) (by omega) hg fun x s x0 x1 hg => ?_
          have hp : p = (u1, u1) ∨ p = (t, t) := by
            have := List.mem_of_getElem? hi
            simpa using this
          have es : m__law_td_is_shape (p.1, p.2, x) = Td.ret true := by
            rcases hp with e | e <;> subst e
            · exact shp_ok tu x0
            · exact shp_ok ht x0
          rw [es, lft_ret, bnd_ret, Bool.not_true, if_neg (by simp)]
          exact hw_ret (hg.le (by omega))
        · cases e with
          | rt b => exact q.elim
          | dn _ =>
            refine hw_ret ⟨⟨?_, ?_, ?_⟩, q.le (by simp; omega)⟩
            · dsimp only; rw [← ek]; exact k1
            · simp
            · dsimp only; rw [← ek]; omega
      | rt b => exact hfl.elim
      | bk l => exact hfl.elim
      | ct l => exact hfl.elim
  · cases e with
    | rt b => exact q.elim
    | dn l =>
      obtain ⟨⟨h1, h2, h3⟩, hg⟩ := q
      rw [upI_len] at h3 hg
      dsimp only
      rw [lcM_ret (fun _ => none) _ _ (fun p hp => ?_) (by simpa using hz_small (n := l.1.length) (k := 1000) (by omega) (by omega)), bnd_ret, lenG_ok (by simp), bnd_ret]
      · have : (List.filterMap (fun _ : TapeV × TapeV => (none : Option (TapeV × TapeV))) l.1) = [] := by
          induction l.1 with
          | nil => rfl
          | cons a l ih => rw [List.filterMap_cons_none rfl, ih]
        rw [this]
        unfold emptyG
        rw [grd_t ⟨rfl, rfl⟩]
        exact hw_ret ⟨rfl, hg.le (by omega)⟩
      · obtain ⟨e12, ht⟩ := h1 p hp
        rw [files_eq ht.z, lft_ret, nxc_ret, bnd_ret, neP_L, bnd_ret, tlen, lft_ret, nxc_ret, ← e12, decide_eq_true rfl]
        simp only [decide_true, Bool.not_true, Bool.false_eq_true, if_false, bnd_ret]
        rfl
end Tk

set_option Elab.async false
set_option linter.all false
set_option maxRecDepth 100000
set_option maxHeartbeats 4000000
namespace Tk
open Td Tp L2 PySem
theorem law_true (ns : List Int) (h : ns.length ≤ 63) : ∃ s, m_law ns () = .ok true s := by
  have main : Hw (m_law ns) () fun b _ => b = true := by
    unfold m_law o_law
    simp only [bnd_assoc, bnd_ret]
    have hr : ∀ r : Int, (rngG (if (if (ns.length : Int) < 10 then (ns.length : Int) else 10) > 1 then (if (ns.length : Int) < 10 then (ns.length : Int) else 10) else 1) : SM Unit Unit) = Td.ret () := fun _ => rngG_ok (by split <;> split <;> omega)
    rw [hr 0, bnd_ret, upto_up]
    generalize (Int.toNat _) = k
    unfold runB lpM
    refine hw_bnd (hw_bnd (hw_mono (hw_for (fun _ _ _ => True) (fun _ _ => False) (upI k) 0 () () trivial fun j a l s ha _ => ?_) fun e s he => ?_))
    · have ha0 : 0 ≤ a := (mem_upI.mp (List.mem_of_getElem? ha)).1
      obtain ⟨sk, s1, e1, hg⟩ := hw_ok (hw_sack (ns := ns) ha0)
      have e2 : (lft (m__law_td_sack (ns, a)) : SM Unit (List Int)) = Td.ret sk := by
        funext s
        unfold lft
        rw [e1]
        rfl
      obtain ⟨b, s2, e3, hb⟩ := hw_ok (hw_right (n := 0) (by omega) hg)
      have e4 : (subM (m__law_td_right ()) sk : SM Unit (Bool × List Int)) = Td.ret (b, s2) := by
        funext s
        unfold subM
        rw [e3]
        rfl
      have hb := hb.1
      subst hb
      rw [e2, bnd_ret, e4, bnd_ret]
      simp only [Bool.not_true, Bool.false_eq_true, if_false]
      exact hw_ret trivial
    · cases e with
      | dn l => exact hw_ret (hw_ret rfl)
      | rt b => exact he.elim
  obtain ⟨a, s, e, h⟩ := hw_ok main
  subst h
  exact ⟨s, e⟩
end Tk

set_option Elab.async false
set_option linter.all false
set_option maxRecDepth 100000
set_option maxHeartbeats 0
namespace Tk
open PySem PySem.Spec PyProof.Rows L2 He Td
theorem facts {P : Program} {w : World} {K : PySem.W.Frag} {h : Heap} {mg : Str → Option Value} {f : Addr} (X : K.In h) (G : h.Ns mainGlobals mg) (hfa : mg ("law" : Str) = some (.ref f)) (c : SaysTd Hd.exs Hd.fs K) :
    ∃ fd : FuncData, (∀ (s : Shared) (u : Value), BindsTo s fd ⟨[u], []⟩ [("_law_script", u)]) ∧ ∀ base : Heap, K.In base → base.Ns mainGlobals mg → FnG P w K mg base 9 f fd ["_law_script"] (SpP K 1 (fun u : List Int => [.is rScr u]) rBool m_law) := by
  have E := c.more
  obtain ⟨x_glo, E⟩ := ba E
  obtain ⟨x_fre, E⟩ := ba E
  obtain ⟨x_slc, E⟩ := ba E
  obtain ⟨x_sl0, E⟩ := ba E
  obtain ⟨x_sl1, E⟩ := ba E
  obtain ⟨x_length, E⟩ := ba E
  obtain ⟨x_files, E⟩ := ba E
  obtain ⟨x_len, E⟩ := ba E
  obtain ⟨x_getitem, E⟩ := ba E
  obtain ⟨x_eq, E⟩ := ba E
  obtain ⟨x_turned, E⟩ := ba E
  obtain ⟨x_without, E⟩ := ba E
  obtain ⟨x_mkr, E⟩ := ba E
  obtain ⟨x_isi, E⟩ := ba E
  obtain ⟨x_nec, E⟩ := ba E
  obtain ⟨x_vvi, E⟩ := ba E
  obtain ⟨x_xc_InvalidTape, E⟩ := ba E
  obtain ⟨x_xc_UnknownFile, E⟩ := ba E
  obtain ⟨x_xc_InvalidFile, E⟩ := ba E
  obtain ⟨x_xis, E⟩ := ba E
  obtain ⟨x_xm, E⟩ := ba E
  obtain ⟨x_ki_0, E⟩ := ba E
  obtain ⟨x_ki_1, E⟩ := ba E
  obtain ⟨x_ki_2, E⟩ := ba E
  have x_ki_3 := E
  have gl : ∀ x, x ∈ Hd.glos → mg x = some (.ref (ga K x)) := fun x hx => glo_ok X G (List.all_eq_true.mp x_glo x hx)
  have fr : ∀ x, x ∈ Hd.frees → mg x = none := fun x hx => free_ok X G (List.all_eq_true.mp x_fre x hx)
  have t_cls : TapeCls K := ⟨slcB_ok x_slc, slotB_ok x_sl0, slotB_ok x_sl1⟩
  have t_length : Prp K (tapeC K) "length" := prpB_ok x_length
  have t_files : Prp K (tapeC K) "files" := prpB_ok x_files
  have t_len : Mth K "__len__" := ⟨eqO_ok (ba x_len).1, (ba (ba x_len).2).1⟩
  have t_ix : Mth K "__getitem__" := ⟨eqO_ok (ba x_getitem).1, (ba (ba x_getitem).2).1⟩
  have t_eq : L2.Meth K (tapeC K) "__eq__" (He.ma K (tapeC K) "__eq__") := ⟨eqO_ok (ba x_eq).1, (ba (ba x_eq).2).1, (ba (ba x_eq).2).2⟩
  have t_turned : L2.Meth K (tapeC K) "turned" (He.ma K (tapeC K) "turned") := ⟨eqO_ok (ba x_turned).1, (ba (ba x_turned).2).1, (ba (ba x_turned).2).2⟩
  have t_without : L2.Meth K (tapeC K) "without" (He.ma K (tapeC K) "without") := ⟨eqO_ok (ba x_without).1, (ba (ba x_without).2).1, (ba (ba x_without).2).2⟩
  have t_mk : Mk K (tapeC K) (He.ma K (tapeC K) "__init__") := mkr_ok x_mkr
  have t_nec : NeCls K (tapeC K) := neCls_ok x_nec
  have t_isi : SlX.SIsi K (tapeC K) := isiB_ok x_isi
  have g_Tape : mg "Tape" = some (.ref (tapeC K)) := gl "Tape" (by decide +kernel)
  have t_vvi : PySem.W.findCls K (.type "ValueError") (.type "type") "__init__" = some (.val (.builtin "ValueError.__init__")) := vviB_ok x_vvi
  have t_xc_InvalidTape : XCls K "InvalidTape" (He.ma K (ga K "TapeError") "__init__") := xclB_ok x_xc_InvalidTape
  have t_xc_UnknownFile : XCls K "UnknownFile" (He.ma K (ga K "TapeError") "__init__") := xclB_ok x_xc_UnknownFile
  have t_xc_InvalidFile : XCls K "InvalidFile" (He.ma K (ga K "TapeError") "__init__") := xclB_ok x_xc_InvalidFile
  have t_xis : ∀ c, c ∈ (["InvalidTape", "UnknownFile", "InvalidFile"] : List Str) → XIs K c := xis_ok x_xis
  have t_xm : ∀ c, ctIn (["InvalidTape", "UnknownFile", "InvalidFile"] : List Str) c = true → PySem.W.exmOne K (.ref (ga K c)) (.ref (ga K "TapeError")) = some true := ctIn_ok x_xm
  have t_ki_0 : kisV K [("InvalidTape", true), ("UnknownFile", true), ("InvalidFile", true)] (.ref (ga K "TapeError")) = true := x_ki_0
  have t_ki_1 : kisV K [("InvalidTape", true), ("UnknownFile", true), ("InvalidFile", true)] (.type "ValueError") = true := x_ki_1
  have t_ki_2 : kisTV K [("InvalidTape", true), ("UnknownFile", false), ("InvalidFile", true)] [.ref (ga K "InvalidTape"), .ref (ga K "InvalidFile"), .ref (ga K "InvalidNumber"), .ref (ga K "InvalidStep"), .ref (ga K "InvalidAsks")] = true := x_ki_2
  have t_ki_3 : kisV K [("InvalidTape", false), ("UnknownFile", true), ("InvalidFile", false)] (.ref (ga K "UnknownFile")) = true := x_ki_3
  have g_InvalidAsks : mg "InvalidAsks" = some (.ref (ga K "InvalidAsks")) := gl "InvalidAsks" (by decide +kernel)
  have g_InvalidFile : mg "InvalidFile" = some (.ref (ga K "InvalidFile")) := gl "InvalidFile" (by decide +kernel)
  have g_InvalidNumber : mg "InvalidNumber" = some (.ref (ga K "InvalidNumber")) := gl "InvalidNumber" (by decide +kernel)
  have g_InvalidStep : mg "InvalidStep" = some (.ref (ga K "InvalidStep")) := gl "InvalidStep" (by decide +kernel)
  have g_InvalidTape : mg "InvalidTape" = some (.ref (ga K "InvalidTape")) := gl "InvalidTape" (by decide +kernel)
  have g_TapeError : mg "TapeError" = some (.ref (ga K "TapeError")) := gl "TapeError" (by decide +kernel)
  have g_UnknownFile : mg "UnknownFile" = some (.ref (ga K "UnknownFile")) := gl "UnknownFile" (by decide +kernel)
  have f_ValueError : mg "ValueError" = none := fr "ValueError" (by decide +kernel)
  have f_abs : mg "abs" = none := fr "abs" (by decide +kernel)
  have f_int : mg "int" = none := fr "int" (by decide +kernel)
  have f_isinstance : mg "isinstance" = none := fr "isinstance" (by decide +kernel)
  have f_len : mg "len" = none := fr "len" (by decide +kernel)
  have f_list : mg "list" = none := fr "list" (by decide +kernel)
  have f_max : mg "max" = none := fr "max" (by decide +kernel)
  have f_min : mg "min" = none := fr "min" (by decide +kernel)
  have f_range : mg "range" = none := fr "range" (by decide +kernel)
  have f_repr : mg "repr" = none := fr "repr" (by decide +kernel)
  have f_tuple : mg "tuple" = none := fr "tuple" (by decide +kernel)
  obtain ⟨fd_Tape_DlenD, F_Tape_DlenD⟩ := c.df 4 (d := Hd.d_Tape_DlenD) rfl
  have b_Tape_DlenD : Binds K fd_Tape_DlenD ["self"] [] := F_Tape_DlenD.bindsN fun _ _ _ _ _ _ us hl => match us, hl with | [_], _ => rfl
  obtain ⟨fd_TapeError_DinitD, F_TapeError_DinitD⟩ := c.df 0 (d := Hd.d_TapeError_DinitD) rfl
  have b_TapeError_DinitD : Binds K fd_TapeError_DinitD ["self", "value"] [] := F_TapeError_DinitD.bindsN fun _ _ _ _ _ _ us hl => match us, hl with | [_, _], _ => rfl
  obtain ⟨fd_Tape_DinitD, F_Tape_DinitD⟩ := c.df 1 (d := Hd.d_Tape_DinitD) rfl
  have b_Tape_DinitD : Binds K fd_Tape_DinitD ["self", "length", "files"] [] := F_Tape_DinitD.bindsN fun _ _ _ _ _ _ us hl => match us, hl with | [_, _, _], _ => rfl
  obtain ⟨fd_Tape_DeqD, F_Tape_DeqD⟩ := c.df 5 (d := Hd.d_Tape_DeqD) rfl
  have b_Tape_DeqD : Binds K fd_Tape_DeqD ["self", "other"] [] := F_Tape_DeqD.bindsN fun _ _ _ _ _ _ us hl => match us, hl with | [_, _], _ => rfl
  obtain ⟨fd_Tape_DgetitemD, F_Tape_DgetitemD⟩ := c.df 7 (d := Hd.d_Tape_DgetitemD) rfl
  have b_Tape_DgetitemD : Binds K fd_Tape_DgetitemD ["self", "index"] [] := F_Tape_DgetitemD.bindsN fun _ _ _ _ _ _ us hl => match us, hl with | [_, _], _ => rfl
  obtain ⟨fd__law_td_sack, F__law_td_sack⟩ := c.df 10 (d := Hd.d__law_td_sack) rfl
  have b__law_td_sack : Binds K fd__law_td_sack ["_law_script", "_law_rank"] [] := F__law_td_sack.bindsN fun _ _ _ _ _ _ us hl => match us, hl with | [_, _], _ => rfl
  have g__law_td_sack : mg "_law_td_sack" = some (.ref (ga K "_law_td_sack")) := gl "_law_td_sack" (by decide +kernel)
  obtain ⟨fd_Tape_length, F_Tape_length⟩ := c.df 2 (d := Hd.d_Tape_length) rfl
  have b_Tape_length : Binds K fd_Tape_length ["self"] [] := F_Tape_length.bindsN fun _ _ _ _ _ _ us hl => match us, hl with | [_], _ => rfl
  obtain ⟨fd_Tape_files, F_Tape_files⟩ := c.df 3 (d := Hd.d_Tape_files) rfl
  have b_Tape_files : Binds K fd_Tape_files ["self"] [] := F_Tape_files.bindsN fun _ _ _ _ _ _ us hl => match us, hl with | [_], _ => rfl
  obtain ⟨fd_Tape_without, F_Tape_without⟩ := c.df 8 (d := Hd.d_Tape_without) rfl
  have b_Tape_without : Binds K fd_Tape_without ["self", "index"] [] := F_Tape_without.bindsN fun _ _ _ _ _ _ us hl => match us, hl with | [_, _], _ => rfl
  obtain ⟨fd_Tape_turned, F_Tape_turned⟩ := c.df 9 (d := Hd.d_Tape_turned) rfl
  have b_Tape_turned : Binds K fd_Tape_turned ["self"] [] := F_Tape_turned.bindsN fun _ _ _ _ _ _ us hl => match us, hl with | [_], _ => rfl
  obtain ⟨fd__law_td_pick, F__law_td_pick⟩ := c.df 11 (d := Hd.d__law_td_pick) rfl
  have b__law_td_pick : Binds K fd__law_td_pick ["_law_sack", "_law_many"] [] := F__law_td_pick.bindsN fun _ _ _ _ _ _ us hl => match us, hl with | [_, _], _ => rfl
  have g__law_td_pick : mg "_law_td_pick" = some (.ref (ga K "_law_td_pick")) := gl "_law_td_pick" (by decide +kernel)
  obtain ⟨fd__law_td_shape, F__law_td_shape⟩ := c.df 12 (d := Hd.d__law_td_shape) rfl
  have b__law_td_shape : Binds K fd__law_td_shape ["_law_sack", "_law_most"] [] := F__law_td_shape.bindsN fun _ _ _ _ _ _ us hl => match us, hl with | [_, _], _ => rfl
  have g__law_td_shape : mg "_law_td_shape" = some (.ref (ga K "_law_td_shape")) := gl "_law_td_shape" (by decide +kernel)
  obtain ⟨fd__law_td_wide_shape, F__law_td_wide_shape⟩ := c.df 13 (d := Hd.d__law_td_wide_shape) rfl
  have b__law_td_wide_shape : Binds K fd__law_td_wide_shape ["_law_sack"] [] := F__law_td_wide_shape.bindsN fun _ _ _ _ _ _ us hl => match us, hl with | [_], _ => rfl
  have g__law_td_wide_shape : mg "_law_td_wide_shape" = some (.ref (ga K "_law_td_wide_shape")) := gl "_law_td_wide_shape" (by decide +kernel)
  obtain ⟨fd__law_td_tape, F__law_td_tape⟩ := c.df 14 (d := Hd.d__law_td_tape) rfl
  have b__law_td_tape : Binds K fd__law_td_tape ["_law_shape"] [] := F__law_td_tape.bindsN fun _ _ _ _ _ _ us hl => match us, hl with | [_], _ => rfl
  have g__law_td_tape : mg "_law_td_tape" = some (.ref (ga K "_law_td_tape")) := gl "_law_td_tape" (by decide +kernel)
  obtain ⟨fd__law_td_mirror, F__law_td_mirror⟩ := c.df 16 (d := Hd.d__law_td_mirror) rfl
  have b__law_td_mirror : Binds K fd__law_td_mirror ["_law_shape"] [] := F__law_td_mirror.bindsN fun _ _ _ _ _ _ us hl => match us, hl with | [_], _ => rfl
  have g__law_td_mirror : mg "_law_td_mirror" = some (.ref (ga K "_law_td_mirror")) := gl "_law_td_mirror" (by decide +kernel)
  obtain ⟨fd__law_td_is_only, F__law_td_is_only⟩ := c.df 15 (d := Hd.d__law_td_is_only) rfl
  have b__law_td_is_only : Binds K fd__law_td_is_only ["_law_caught", "_law_others"] [] := F__law_td_is_only.bindsN fun _ _ _ _ _ _ us hl => match us, hl with | [_, _], _ => rfl
  have g__law_td_is_only : mg "_law_td_is_only" = some (.ref (ga K "_law_td_is_only")) := gl "_law_td_is_only" (by decide +kernel)
  obtain ⟨fd__law_td_unknown, F__law_td_unknown⟩ := c.df 17 (d := Hd.d__law_td_unknown) rfl
  have b__law_td_unknown : Binds K fd__law_td_unknown ["_law_made", "_law_index_here", "_law_mode"] [] := F__law_td_unknown.bindsN fun _ _ _ _ _ _ us hl => match us, hl with | [_, _, _], _ => rfl
  have g__law_td_unknown : mg "_law_td_unknown" = some (.ref (ga K "_law_td_unknown")) := gl "_law_td_unknown" (by decide +kernel)
  obtain ⟨fd__law_td_is_shape, F__law_td_is_shape⟩ := c.df 18 (d := Hd.d__law_td_is_shape) rfl
  have b__law_td_is_shape : Binds K fd__law_td_is_shape ["_law_made", "_law_shape", "_law_spot"] [] := F__law_td_is_shape.bindsN fun _ _ _ _ _ _ us hl => match us, hl with | [_, _, _], _ => rfl
  have g__law_td_is_shape : mg "_law_td_is_shape" = some (.ref (ga K "_law_td_is_shape")) := gl "_law_td_is_shape" (by decide +kernel)
  obtain ⟨fd__law_td_right, F__law_td_right⟩ := c.df 19 (d := Hd.d__law_td_right) rfl
  have b__law_td_right : Binds K fd__law_td_right ["_law_sack"] [] := F__law_td_right.bindsN fun _ _ _ _ _ _ us hl => match us, hl with | [_], _ => rfl
  have g__law_td_right : mg "_law_td_right" = some (.ref (ga K "_law_td_right")) := gl "_law_td_right" (by decide +kernel)
  obtain ⟨fd_law, F_law⟩ := c.df 20 (d := Hd.d_law) rfl
  have g_law : mg "law" = some (.ref (ga K "law")) := gl "law" (by decide +kernel)
  have kb_Tape_without_1_index := F_Tape_without.kbP (ps := ["self", "index"]) 1 ["index"] [0, 1] fun _ _ _ _ _ _ us ws hu hw => match us, hu, ws, hw with | [_], _, [_], _ => rfl
  have h_ix : PySem.W.fnIn K (He.ma K (tapeC K) "__getitem__") = true := fnIn_of F_Tape_DgetitemD
  have ee := hfa.symm.trans g_law
  cases ee
  have bl := FunD.bindsA (ps := ["_law_script"]) F_law fun _ _ _ _ _ _ us hl => match us, hl with | [_], _ => rfl
  refine ⟨fd_law, fun s v => bl s [v] rfl, fun base _ _ => ?_⟩
  have C_Tape_DlenD := ok_Tape_DlenD (P := P) (w := w) (K := K) (mg := mg) (base := base) (f_len := f_len) (t_cls := t_cls) (FD := F_Tape_DlenD)
  have C_TapeError_DinitD := ok_TapeError_DinitD (P := P) (w := w) (K := K) (mg := mg) (base := base) (f_ValueError := f_ValueError) (t_vvi := t_vvi) (FD := F_TapeError_DinitD)
  have C_Tape_DinitD := ok_Tape_DinitD (P := P) (w := w) (K := K) (mg := mg) (base := base) (f_tuple := f_tuple) (t_cls := t_cls) (t_xc_InvalidFile := t_xc_InvalidFile) (t_xc_InvalidTape := t_xc_InvalidTape) (g_InvalidFile := g_InvalidFile) (g_InvalidTape := g_InvalidTape) (c_TapeError_DinitD := C_TapeError_DinitD) (b_TapeError_DinitD := b_TapeError_DinitD) (FD := F_Tape_DinitD)
  have C_Tape_DeqD := ok_Tape_DeqD (P := P) (w := w) (K := K) (mg := mg) (base := base) (f_isinstance := f_isinstance) (t_cls := t_cls) (t_isi := t_isi) (g_Tape := g_Tape) (FD := F_Tape_DeqD)
  have C_Tape_DgetitemD := ok_Tape_DgetitemD (P := P) (w := w) (K := K) (mg := mg) (base := base) (f_len := f_len) (t_cls := t_cls) (t_xc_UnknownFile := t_xc_UnknownFile) (g_UnknownFile := g_UnknownFile) (c_TapeError_DinitD := C_TapeError_DinitD) (b_TapeError_DinitD := b_TapeError_DinitD) (FD := F_Tape_DgetitemD)
  have C__law_td_sack := ok__law_td_sack (P := P) (w := w) (K := K) (mg := mg) (base := base) (f_abs := f_abs) (f_int := f_int) (f_len := f_len) (f_max := f_max) (FD := F__law_td_sack)
  have C_Tape_length := ok_Tape_length (P := P) (w := w) (K := K) (mg := mg) (base := base) (t_cls := t_cls) (FD := F_Tape_length)
  have C_Tape_files := ok_Tape_files (P := P) (w := w) (K := K) (mg := mg) (base := base) (f_list := f_list) (t_cls := t_cls) (FD := F_Tape_files)
  have C_Tape_without := ok_Tape_without (P := P) (w := w) (K := K) (mg := mg) (base := base) (f_len := f_len) (t_cls := t_cls) (t_mk := t_mk) (g_Tape := g_Tape) (t_xc_UnknownFile := t_xc_UnknownFile) (g_UnknownFile := g_UnknownFile) (c_Tape_DinitD := C_Tape_DinitD) (b_Tape_DinitD := b_Tape_DinitD) (c_TapeError_DinitD := C_TapeError_DinitD) (b_TapeError_DinitD := b_TapeError_DinitD) (FD := F_Tape_without)
  have C_Tape_turned := ok_Tape_turned (P := P) (w := w) (K := K) (mg := mg) (base := base) (t_cls := t_cls) (t_mk := t_mk) (g_Tape := g_Tape) (c_Tape_DinitD := C_Tape_DinitD) (b_Tape_DinitD := b_Tape_DinitD) (FD := F_Tape_turned)
  have C__law_td_pick := ok__law_td_pick (P := P) (w := w) (K := K) (mg := mg) (base := base) (f_int := f_int) (FD := F__law_td_pick)
  have C__law_td_shape := ok__law_td_shape (P := P) (w := w) (K := K) (mg := mg) (base := base) (f_max := f_max) (f_range := f_range) (c__law_td_pick := C__law_td_pick) (b__law_td_pick := b__law_td_pick) (g__law_td_pick := g__law_td_pick) (k__law_td_pick := F__law_td_pick.kp) (FD := F__law_td_shape)
  have C__law_td_wide_shape := ok__law_td_wide_shape (P := P) (w := w) (K := K) (mg := mg) (base := base) (f_max := f_max) (f_range := f_range) (c__law_td_pick := C__law_td_pick) (b__law_td_pick := b__law_td_pick) (g__law_td_pick := g__law_td_pick) (k__law_td_pick := F__law_td_pick.kp) (FD := F__law_td_wide_shape)
  have C__law_td_tape := ok__law_td_tape (P := P) (w := w) (K := K) (mg := mg) (base := base) (f_list := f_list) (t_mk := t_mk) (g_Tape := g_Tape) (c_Tape_DinitD := C_Tape_DinitD) (b_Tape_DinitD := b_Tape_DinitD) (FD := F__law_td_tape)
  have C__law_td_mirror := ok__law_td_mirror (P := P) (w := w) (K := K) (mg := mg) (base := base) (FD := F__law_td_mirror)
  have C__law_td_is_only := ok__law_td_is_only (P := P) (w := w) (K := K) (mg := mg) (base := base) (f_ValueError := f_ValueError) (f_isinstance := f_isinstance) (t_ki_0 := t_ki_0) (t_ki_1 := t_ki_1) (t_xis := t_xis) (g_TapeError := g_TapeError) (FD := F__law_td_is_only)
  have C__law_td_unknown := ok__law_td_unknown (P := P) (w := w) (K := K) (mg := mg) (base := base) (f_isinstance := f_isinstance) (f_repr := f_repr) (t_cls := t_cls) (t_ix := t_ix) (h_ix := h_ix) (t_without := t_without) (t_ki_2 := t_ki_2) (t_ki_3 := t_ki_3) (t_xis := t_xis) (t_xm := t_xm) (g_InvalidAsks := g_InvalidAsks) (g_InvalidFile := g_InvalidFile) (g_InvalidNumber := g_InvalidNumber) (g_InvalidStep := g_InvalidStep) (g_InvalidTape := g_InvalidTape) (g_TapeError := g_TapeError) (g_UnknownFile := g_UnknownFile) (kb_Tape_without_1_index := kb_Tape_without_1_index) (c_Tape_DgetitemD := C_Tape_DgetitemD) (b_Tape_DgetitemD := b_Tape_DgetitemD) (c_Tape_without := C_Tape_without) (b_Tape_without := b_Tape_without) (c__law_td_is_only := C__law_td_is_only) (b__law_td_is_only := b__law_td_is_only) (g__law_td_is_only := g__law_td_is_only) (k__law_td_is_only := F__law_td_is_only.kp) (FD := F__law_td_unknown)
  have C__law_td_is_shape := ok__law_td_is_shape (P := P) (w := w) (K := K) (mg := mg) (base := base) (f_isinstance := f_isinstance) (f_len := f_len) (f_list := f_list) (t_cls := t_cls) (t_length := t_length) (t_files := t_files) (t_ix := t_ix) (h_ix := h_ix) (t_len := t_len) (t_eq := t_eq) (t_isi := t_isi) (t_mk := t_mk) (g_Tape := g_Tape) (c_Tape_DeqD := C_Tape_DeqD) (b_Tape_DeqD := b_Tape_DeqD) (c_Tape_DgetitemD := C_Tape_DgetitemD) (b_Tape_DgetitemD := b_Tape_DgetitemD) (c_Tape_DinitD := C_Tape_DinitD) (b_Tape_DinitD := b_Tape_DinitD) (c_Tape_DlenD := C_Tape_DlenD) (b_Tape_DlenD := b_Tape_DlenD) (c_Tape_files := C_Tape_files) (b_Tape_files := b_Tape_files) (c_Tape_length := C_Tape_length) (b_Tape_length := b_Tape_length) (FD := F__law_td_is_shape)
  have C__law_td_right := ok__law_td_right (P := P) (w := w) (K := K) (mg := mg) (base := base) (f_len := f_len) (f_range := f_range) (t_cls := t_cls) (t_length := t_length) (t_files := t_files) (t_eq := t_eq) (t_turned := t_turned) (t_without := t_without) (t_nec := t_nec) (kb_Tape_without_1_index := kb_Tape_without_1_index) (c_Tape_DeqD := C_Tape_DeqD) (b_Tape_DeqD := b_Tape_DeqD) (c_Tape_files := C_Tape_files) (b_Tape_files := b_Tape_files) (c_Tape_length := C_Tape_length) (b_Tape_length := b_Tape_length) (c_Tape_turned := C_Tape_turned) (b_Tape_turned := b_Tape_turned) (c_Tape_without := C_Tape_without) (b_Tape_without := b_Tape_without) (c__law_td_is_shape := C__law_td_is_shape) (b__law_td_is_shape := b__law_td_is_shape) (g__law_td_is_shape := g__law_td_is_shape) (k__law_td_is_shape := F__law_td_is_shape.kp) (c__law_td_mirror := C__law_td_mirror) (b__law_td_mirror := b__law_td_mirror) (g__law_td_mirror := g__law_td_mirror) (k__law_td_mirror := F__law_td_mirror.kp) (c__law_td_pick := C__law_td_pick) (b__law_td_pick := b__law_td_pick) (g__law_td_pick := g__law_td_pick) (k__law_td_pick := F__law_td_pick.kp) (c__law_td_shape := C__law_td_shape) (b__law_td_shape := b__law_td_shape) (g__law_td_shape := g__law_td_shape) (k__law_td_shape := F__law_td_shape.kp) (c__law_td_tape := C__law_td_tape) (b__law_td_tape := b__law_td_tape) (g__law_td_tape := g__law_td_tape) (k__law_td_tape := F__law_td_tape.kp) (c__law_td_unknown := C__law_td_unknown) (b__law_td_unknown := b__law_td_unknown) (g__law_td_unknown := g__law_td_unknown) (k__law_td_unknown := F__law_td_unknown.kp) (c__law_td_wide_shape := C__law_td_wide_shape) (b__law_td_wide_shape := b__law_td_wide_shape) (g__law_td_wide_shape := g__law_td_wide_shape) (k__law_td_wide_shape := F__law_td_wide_shape.kp) (FD := F__law_td_right)
  have C_law := ok_law (P := P) (w := w) (K := K) (mg := mg) (base := base) (f_len := f_len) (f_max := f_max) (f_min := f_min) (f_range := f_range) (c__law_td_right := C__law_td_right) (b__law_td_right := b__law_td_right) (g__law_td_right := g__law_td_right) (k__law_td_right := F__law_td_right.kp) (c__law_td_sack := C__law_td_sack) (b__law_td_sack := b__law_td_sack) (g__law_td_sack := g__law_td_sack) (k__law_td_sack := F__law_td_sack.kp) (FD := F_law)
  exact C_law
end Tk
open PySem PySem.W PySem.Calls PyProof.Rows
theorem PySem.Challenge.cw_tapedetours_k05_without_and_turned_of (hlaw : ∀ ns : List Int, ns.length ≤ 63 → ∃ s, Tk.m_law ns () = .ok true s) : PySem.Challenge.rw_tapedetours_k05_without_and_turned.Holds := by
  w_on; o_law
  refine HandSHeadRun.head_any (r := OpenLaw.row PySem.Challenge.rw_tapedetours_k05_without_and_turned) (q := view (OpenLaw.row PySem.Challenge.rw_tapedetours_k05_without_and_turned).prog [21]) (H := Hd.hk) (ob := Hd.ob) (M := 20000) (loose := Hd.loose) (d := HandSHeadRun.topDef (OpenLaw.row PySem.Challenge.rw_tapedetours_k05_without_and_turned).prog 21) (kwd := []) Hd.ob_eq
    (by kernel_rfl) (fun s => by kernel_rfl) Hd.run (by kernel_rfl) (by kernel_rfl) (by kernel_rfl) (by rfl) (by first | assumption | decide +kernel) (by decide +kernel) ⟨rfl, rfl, rfl, rfl, rfl, by decide +kernel⟩ ?hw ?hc
  case hw => w_witness2
  case hc =>
    refine Td.walk_ofG (l := PySem.Challenge.rw_tapedetours_k05_without_and_turned) (n := 63) (k := 9) (x := "_law_script") rfl (by decide) (by kernel_rfl) ⟨rfl, by decide, by decide⟩ ?F
    intro w mg fa h Y G hmg0
    obtain ⟨K, KX, c⟩ := Y
    have hmg : mg ("law" : PySem.Str) = some (.ref fa) := by
      have e : (HandSHeadRun.topDef (OpenLaw.row PySem.Challenge.rw_tapedetours_k05_without_and_turned).prog 21).name = ("law" : PySem.Str) := by kernel_rfl
      rw [← e]
      exact hmg0
    obtain ⟨fd, hb, hF⟩ := Tk.facts (P := (PySem.Challenge.rw_tapedetours_k05_without_and_turned).prog) (w := w) KX G hmg c
    exact ⟨K, fd, _, KX, hb, fun H a ns hl hO hS => Td.law_sp hO hS (hlaw ns hl), hF⟩

open PySem PySem.W PyProof.Rows
theorem PySem.Challenge.cw_tapedetours_k05_without_and_turned_holds : PySem.Challenge.rw_tapedetours_k05_without_and_turned.Holds := by
  exact PySem.Challenge.cw_tapedetours_k05_without_and_turned_of Tk.law_true
