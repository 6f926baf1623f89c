import PyProof.Rows.All
import Wide.All
import OpenK.AllK
import Wide.FinOn
import HandS.ForMost
import HandS.ForExc
import HandS.Slots
import HandS.SlotsOwn
import HandS.ExcInit
import HandS.Star
import HandS.Wide
import HandS.Style
import HandS.Flow
import HandS.MakeKw
import HandS.TryOnly
import HandS.Conv
import KE.KStateDown
import HandS.Ends
import HandS.Defaults
import HandS.Head0
import HandS.Head1
import HandS.Head2
import HandS.HeadEnd
import HandS.HeadHook1
import HandS.HeadHook2
import PySem.Challenge.RW_tapedetours_k13_rows_of_equal_files
set_option Elab.async false
set_option linter.all false
set_option maxRecDepth 100000
set_option maxHeartbeats 4000000
namespace Td
open PySem PySem.Spec PyProof.Rows L2

/-! ### outcomes -/
inductive Pay where
  | non | int (i : Int) | pair (a b : Int) | lsI (l : List Int) | lsP (l : List (Int × Int)) | str (x : Str)
structure Exn where
  cls : Str
  pay : Pay
inductive Rs (S T : Type) where
  | ok (a : T) (s : S)
  | exc (e : Exn) (s : S)
  | stuck
def SM (S T : Type) : Type := S → Rs S T
def Rs.wp {S T : Type} : Rs S T → (T → S → Prop) → (Exn → S → Prop) → Prop
  | .ok a s, P, _ => P a s
  | .exc e s, _, E => E e s
  | .stuck, _, _ => False
def ret {S T : Type} (a : T) : SM S T := fun s => .ok a s
def rse {S T : Type} (e : Exn) : SM S T := fun s => .exc e s
def stk {S T : Type} : SM S T := fun _ => .stuck
def bnd {S T U : Type} (m : SM S T) (k : T → SM S U) : SM S U := fun s => match m s with
  | .ok a s' => k a s'
  | .exc e s' => .exc e s'
  | .stuck => .stuck
/-- a pure computation within one with a state -/
def lft {S T : Type} (m : SM Unit T) : SM S T := fun s => match m () with
  | .ok a _ => .ok a s
  | .exc e _ => .exc e s
  | .stuck => .stuck
/-- only if c holds -/
def grd {S : Type} (c : Prop) [Decidable c] : SM S Unit := fun s => if c then .ok () s else .stuck
theorem wp_mono {S T : Type} {r : Rs S T} {P P' : T → S → Prop} {E E' : Exn → S → Prop} (h : r.wp P E) (hp : ∀ a s, P a s → P' a s) (he : ∀ e s, E e s → E' e s) : r.wp P' E' := by
  cases r with
  | ok a s => exact hp a s h
  | exc e s => exact he e s h
  | stuck => exact h
theorem wp_bnd {S T U : Type} {m : SM S T} {k : T → SM S U} {s : S} {P : U → S → Prop} {E : Exn → S → Prop} (h : (bnd m k s).wp P E) : (m s).wp (fun a s' => (k a s').wp P E) E := by
  unfold bnd at h
  cases hm : m s with
  | ok a s' => rw [hm] at h; exact h
  | exc e s' => rw [hm] at h; exact h
  | stuck => rw [hm] at h; exact h
theorem bnd_wp {S T U : Type} {m : SM S T} {k : T → SM S U} {s : S} {P : U → S → Prop} {E : Exn → S → Prop} (h : (m s).wp (fun a s' => (k a s').wp P E) E) : (bnd m k s).wp P E := by
  unfold bnd
  cases hm : m s with
  | ok a s' => rw [hm] at h; exact h
  | exc e s' => rw [hm] at h; exact h
  | stuck => rw [hm] at h; exact h
theorem wp_grd {S : Type} {c : Prop} [Decidable c] {s : S} {P : Unit → S → Prop} {E : Exn → S → Prop} (h : (grd c s).wp P E) : c ∧ P () s := by
  unfold grd at h
  by_cases hc : c
  · rw [if_pos hc] at h; exact ⟨hc, h⟩
  · rw [if_neg hc] at h; exact h.elim
theorem wp_lft {S T : Type} {m : SM Unit T} {s : S} {P : T → S → Prop} {E : Exn → S → Prop} (h : ((lft m : SM S T) s).wp P E) : (m ()).wp (fun a _ => P a s) (fun e _ => E e s) := by
  unfold lft at h
  cases hm : m () with
  | ok a s' => rw [hm] at h; exact h
  | exc e s' => rw [hm] at h; exact h
  | stuck => rw [hm] at h; exact h

/-! ### representations: B are the objects that this value owns; M all that is owned by someone -/
def isTup : HO → Bool
  | .tup _ => true
  | .frz _ _ => true
  | _ => false
structure Rp (T : Type) where
  rel : PySem.W.Frag → List Addr → Hp → V → T → List Addr → Prop
  keep : ∀ {K M H H' v a B}, rel K M H v a B → (∀ p o, H p = some o → (p ∉ M ∨ p ∈ B ∨ isTup o = true) → H' p = some o) → rel K M H' v a B
  grow : ∀ {K M M' H v a B}, rel K M H v a B → (∀ p, p ∈ M' → p ∈ M ∨ H p = none) → rel K M' H v a B
  trk : ∀ {K M H v a B}, rel K M H v a B → ∀ p, p ∈ B → ∃ o, H p = some o ∧ isTup o = false

/-- plain values -/
def rPl {T : Type} (f : T → V) : Rp T where
  rel := fun _ _ _ v a B => v = f a ∧ B = []
  keep := fun h _ => h
  grow := fun h _ => h
  trk := fun h p hp => by rw [h.2] at hp; cases hp
def rInt : Rp Int := rPl V.int
def rBool : Rp Bool := rPl V.bl
def rStr : Rp Str := rPl V.str
def rNon : Rp Unit := rPl fun _ => V.non

theorem sqT_keep {K : PySem.W.Frag} {M B : List Addr} {H H' : Hp} {p : Addr} {xs : List V} (h : SqT K H p xs) (k : ∀ p o, H p = some o → (p ∉ M ∨ p ∈ B ∨ isTup o = true) → H' p = some o) : SqT K H' p xs := by
  rcases h with (h | ⟨o, h⟩) | h
  · exact .inl (.inl (k _ _ h (.inr (.inr rfl))))
  · exact .inl (.inr ⟨o, k _ _ h (.inr (.inr rfl))⟩)
  · exact .inr h

def rPair {T U : Type} (r : Rp T) (q : Rp U) : Rp (T × U) where
  rel := fun K M H v a B => ∃ p v1 v2 B1 B2, v = .ref p ∧ SqT K H p [v1, v2] ∧ r.rel K M H v1 a.1 B1 ∧ q.rel K M H v2 a.2 B2 ∧ B = B1 ++ B2
  keep := by
    rintro K M H H' v a B ⟨p, v1, v2, B1, B2, e, hT, h1, h2, eB⟩ k
    subst eB
    exact ⟨p, v1, v2, B1, B2, e, sqT_keep hT k, r.keep h1 (fun p o e h => k p o e (h.imp id (Or.imp (fun z => List.mem_append_left _ z) id))), q.keep h2 (fun p o e h => k p o e (h.imp id (Or.imp (fun z => List.mem_append_right _ z) id))), rfl⟩
  grow := by
    rintro K M M' H v a B ⟨p, v1, v2, B1, B2, e, hT, h1, h2, eB⟩ k
    exact ⟨p, v1, v2, B1, B2, e, hT, r.grow h1 k, q.grow h2 k, eB⟩
  trk := by
    rintro K M H v a B ⟨p, v1, v2, B1, B2, e, hT, h1, h2, eB⟩ x hx
    subst eB
    rcases List.mem_append.mp hx with hx | hx
    · exact r.trk h1 x hx
    · exact q.trk h2 x hx
def rTup3 {T U W : Type} (r : Rp T) (q : Rp U) (t : Rp W) : Rp (T × U × W) where
  rel := fun K M H v a B => ∃ p v1 v2 v3 B1 B2 B3, v = .ref p ∧ SqT K H p [v1, v2, v3] ∧ r.rel K M H v1 a.1 B1 ∧ q.rel K M H v2 a.2.1 B2 ∧ t.rel K M H v3 a.2.2 B3 ∧ B = B1 ++ (B2 ++ B3)
  keep := by
    rintro K M H H' v a B ⟨p, v1, v2, v3, B1, B2, B3, e, hT, h1, h2, h3, eB⟩ k
    subst eB
    exact ⟨p, v1, v2, v3, B1, B2, B3, e, sqT_keep hT k, r.keep h1 (fun p o e h => k p o e (h.imp id (Or.imp (fun z => List.mem_append_left _ z) id))), q.keep h2 (fun p o e h => k p o e (h.imp id (Or.imp (fun z => List.mem_append_right _ (List.mem_append_left _ z)) id))),
      t.keep h3 (fun p o e h => k p o e (h.imp id (Or.imp (fun z => List.mem_append_right _ (List.mem_append_right _ z)) id))), rfl⟩
  grow := by
    rintro K M M' H v a B ⟨p, v1, v2, v3, B1, B2, B3, e, hT, h1, h2, h3, eB⟩ k
    exact ⟨p, v1, v2, v3, B1, B2, B3, e, hT, r.grow h1 k, q.grow h2 k, t.grow h3 k, eB⟩
  trk := by
    rintro K M H v a B ⟨p, v1, v2, v3, B1, B2, B3, e, hT, h1, h2, h3, eB⟩ x hx
    subst eB
    rcases List.mem_append.mp hx with hx | hx
    · exact r.trk h1 x hx
    · rcases List.mem_append.mp hx with hx | hx
      · exact q.trk h2 x hx
      · exact t.trk h3 x hx
def rOpt {T : Type} (r : Rp T) : Rp (Option T) where
  rel := fun K M H v a B => match a with
    | none => v = .non ∧ B = []
    | some a => r.rel K M H v a B
  keep := by
    intro K M H H' v a B h k
    cases a with
    | none => exact h
    | some a => exact r.keep h k
  grow := by
    intro K M M' H v a B h k
    cases a with
    | none => exact h
    | some a => exact r.grow h k
  trk := by
    intro K M H v a B h x hx
    cases a with
    | none => rw [h.2] at hx; cases hx
    | some a => exact r.trk h x hx

/-- items one by one -/
inductive All3 {T : Type} (R : V → T → List Addr → Prop) : List V → List T → List Addr → Prop
  | nil : All3 R [] [] []
  | cons {v a B vs as A} (h : R v a B) (t : All3 R vs as A) : All3 R (v :: vs) (a :: as) (B ++ A)
theorem All3.length {T : Type} {R : V → T → List Addr → Prop} {vs : List V} {as : List T} {A : List Addr} (h : All3 R vs as A) : vs.length = as.length := by
  induction h with
  | nil => rfl
  | cons _ _ ih => simp [ih]
theorem All3.imp {T : Type} {R R' : V → T → List Addr → Prop} {vs : List V} {as : List T} {A : List Addr} (h : All3 R vs as A) (k : ∀ v a B, (∀ p, p ∈ B → p ∈ A) → R v a B → R' v a B) : All3 R' vs as A := by
  induction h with
  | nil => exact .nil
  | cons h t ih => exact .cons (k _ _ _ (fun p hp => List.mem_append_left _ hp) h) (ih fun v a B hB hr => k v a B (fun p hp => List.mem_append_right _ (hB p hp)) hr)
theorem All3.append {T : Type} {R : V → T → List Addr → Prop} {vs ws : List V} {as bs : List T} {A B : List Addr} (h : All3 R vs as A) (h' : All3 R ws bs B) : All3 R (vs ++ ws) (as ++ bs) (A ++ B) := by
  induction h with
  | nil => exact h'
  | cons h t ih =>
    rw [List.append_assoc]
    exact .cons h ih
theorem All3.get {T : Type} {R : V → T → List Addr → Prop} {vs : List V} {as : List T} {A : List Addr} (h : All3 R vs as A) {i : Nat} {v : V} (e : vs[i]? = some v) : ∃ a B, as[i]? = some a ∧ R v a B ∧ ∀ p, p ∈ B → p ∈ A := by
  induction h generalizing i with
  | nil => simp at e
  | cons h t ih =>
    cases i with
    | zero =>
      have e' := Option.some.inj e
      subst e'
      exact ⟨_, _, rfl, h, fun p hp => List.mem_append_left _ hp⟩
    | succ i =>
      obtain ⟨a, B, h1, h2, h3⟩ := ih (i := i) (by simpa using e)
      exact ⟨a, B, by simpa using h1, h2, fun p hp => List.mem_append_right _ (h3 p hp)⟩
theorem All3.get' {T : Type} {R : V → T → List Addr → Prop} {vs : List V} {as : List T} {A : List Addr} (h : All3 R vs as A) {i : Nat} {a : T} (e : as[i]? = some a) : ∃ v B, vs[i]? = some v ∧ R v a B ∧ ∀ p, p ∈ B → p ∈ A := by
  have hi : i < vs.length := by rw [h.length]; exact (List.getElem?_eq_some_iff.mp e).1
  obtain ⟨b, B, h1, h2, h3⟩ := h.get (i := i) (v := vs[i]) (List.getElem?_eq_getElem hi)
  rw [e] at h1
  cases h1
  exact ⟨_, B, List.getElem?_eq_getElem hi, h2, h3⟩
theorem All3.trk {T : Type} {R : V → T → List Addr → Prop} {vs : List V} {as : List T} {A : List Addr} {P : Addr → Prop} (h : All3 R vs as A) (k : ∀ v a B, R v a B → ∀ p, p ∈ B → P p) : ∀ p, p ∈ A → P p := by
  induction h with
  | nil => intro p hp; cases hp
  | cons h t ih =>
    intro p hp
    rcases List.mem_append.mp hp with hp | hp
    · exact k _ _ _ h p hp
    · exact ih p hp
def rList {T : Type} (r : Rp T) : Rp (List T) where
  rel := fun K M H v a B => ∃ p vs A, v = .ref p ∧ H p = some (.lst vs) ∧ All3 (r.rel K M H) vs a A ∧ B = p :: A
  keep := by
    rintro K M H H' v a B ⟨p, vs, A, e, hp, hA, eB⟩ k
    subst eB
    exact ⟨p, vs, A, e, k p _ hp (.inr (.inl (List.mem_cons_self ..))), hA.imp fun v a B hB h => r.keep h (fun p o e h => k p o e (h.imp id (Or.imp (fun z => List.mem_cons_of_mem _ (hB _ z)) id))), rfl⟩
  grow := by
    rintro K M M' H v a B ⟨p, vs, A, e, hp, hA, eB⟩ k
    exact ⟨p, vs, A, e, hp, hA.imp fun v a B hB h => r.grow h k, eB⟩
  trk := by
    rintro K M H v a B ⟨p, vs, A, e, hp, hA, eB⟩ x hx
    subst eB
    rcases List.mem_cons.mp hx with hx | hx
    · subst hx; exact ⟨_, hp, rfl⟩
    · exact hA.trk (P := fun x => ∃ o, H x = some o ∧ isTup o = false) (fun v a B h => r.trk h) x hx
/-- a tuple of many -/
def rTupL {T : Type} (r : Rp T) : Rp (List T) where
  rel := fun K M H v a B => ∃ p vs, v = .ref p ∧ SqT K H p vs ∧ All3 (r.rel K M H) vs a B
  keep := by
    rintro K M H H' v a B ⟨p, vs, e, hp, hA⟩ k
    exact ⟨p, vs, e, sqT_keep hp k, hA.imp fun v a B hB h => r.keep h (fun p o e h => k p o e (h.imp id (Or.imp (fun z => hB _ z) id)))⟩
  grow := by
    rintro K M M' H v a B ⟨p, vs, e, hp, hA⟩ k
    exact ⟨p, vs, e, hp, hA.imp fun v a B hB h => r.grow h k⟩
  trk := by
    rintro K M H v a B ⟨p, vs, e, hp, hA⟩ x hx
    exact hA.trk (P := fun x => ∃ o, H x = some o ∧ isTup o = false) (fun v a B h => r.trk h) x hx
/-- shared: nothing is owned here, and what is reached is owned by no one -/
def sh {T : Type} (r : Rp T) : Rp T where
  rel := fun K M H v a B => B = [] ∧ ∃ A, r.rel K M H v a A ∧ ∀ p, p ∈ A → p ∉ M
  keep := by
    rintro K M H H' v a B ⟨eB, A, h, hA⟩ k
    exact ⟨eB, A, r.keep h (fun p o e hp => k p o e (hp.elim .inl fun z => z.elim (fun y => .inl (hA p y)) fun y => .inr (.inr y))), hA⟩
  grow := by
    rintro K M M' H v a B ⟨eB, A, h, hA⟩ k
    refine ⟨eB, A, r.grow h k, fun p hp hM => ?_⟩
    rcases k p hM with z | z
    · exact hA p hp z
    · obtain ⟨o, ho, _⟩ := r.trk h p hp
      rw [z] at ho; cases ho
  trk := by
    rintro K M H v a B ⟨eB, A, h, hA⟩ x hx
    rw [eB] at hx; cases hx
/-- nothing owned -/
def Rp.Cp {T : Type} (r : Rp T) : Prop := ∀ {K M H v a B}, r.rel K M H v a B → B = []
theorem cp_pl {T : Type} {f : T → V} : (rPl f).Cp := fun h => h.2
theorem cp_int : rInt.Cp := fun h => h.2
theorem cp_bool : rBool.Cp := fun h => h.2
theorem cp_str : rStr.Cp := fun h => h.2
theorem cp_non : rNon.Cp := fun h => h.2
theorem cp_sh {T : Type} {r : Rp T} : (sh r).Cp := fun h => h.1
theorem cp_pair {T U : Type} {r : Rp T} {q : Rp U} (c1 : r.Cp) (c2 : q.Cp) : (rPair r q).Cp := by
  rintro K M H v a B ⟨p, v1, v2, B1, B2, e, hT, h1, h2, eB⟩
  rw [eB, c1 h1, c2 h2]; rfl
theorem cp_tup3 {T U W : Type} {r : Rp T} {q : Rp U} {t : Rp W} (c1 : r.Cp) (c2 : q.Cp) (c3 : t.Cp) : (rTup3 r q t).Cp := by
  rintro K M H v a B ⟨p, v1, v2, v3, B1, B2, B3, e, hT, h1, h2, h3, eB⟩
  rw [eB, c1 h1, c2 h2, c3 h3]; rfl
theorem cp_opt {T : Type} {r : Rp T} (c : r.Cp) : (rOpt r).Cp := by
  intro K M H v a B h
  cases a with
  | none => exact h.2
  | some a => exact c h
theorem cp_tupL {T : Type} {r : Rp T} (c : r.Cp) : (rTupL r).Cp := by
  rintro K M H v a B ⟨p, vs, e, hp, hA⟩
  clear e hp
  induction hA with
  | nil => rfl
  | cons h t ih => rw [c h, ih]; rfl
/-- what is owned becomes shared; what is shared may be read as the thing itself -/
theorem Rp.to_sh {T : Type} {r : Rp T} {K M M' H v a B} (h : r.rel K M H v a B) (hM : ∀ p, p ∈ M' → p ∈ M ∧ p ∉ B) : (sh r).rel K M' H v a [] :=
  ⟨rfl, B, r.grow h (fun p hp => .inl (hM p hp).1), fun p hp z => (hM p z).2 hp⟩

/-! ### slots -/
inductive Slot : Type 1 where
  | un
  | is {T : Type} (r : Rp T) (a : T)
  | pn {T : Type} (v : V) (r : Rp T) (a : T)
def Slot.ok (K : PySem.W.Frag) (M : List Addr) (H : Hp) : Slot → Option V → List Addr → Prop
  | .un, _, B => B = []
  | .is r a, x, B => ∃ v, x = some v ∧ r.rel K M H v a B
  | .pn v r a, x, B => x = some v ∧ r.rel K M H v a B
inductive AtS (K : PySem.W.Frag) (M : List Addr) (H : Hp) : List Slot → List (Option V) → List Addr → Prop
  | nil : AtS K M H [] [] []
  | cons {g x B G s A} (h : g.ok K M H x B) (t : AtS K M H G s A) : AtS K M H (g :: G) (x :: s) (B ++ A)
section
variable {K : PySem.W.Frag} {M M' : List Addr} {H H' : Hp}
theorem Slot.ok_keep {g : Slot} {x : Option V} {B : List Addr} (h : g.ok K M H x B) (k : ∀ p o, H p = some o → (p ∉ M ∨ p ∈ B ∨ isTup o = true) → H' p = some o) : g.ok K M H' x B := by
  cases g with
  | un => exact h
  | is r a => obtain ⟨v, e, h⟩ := h; exact ⟨v, e, r.keep h k⟩
  | pn v r a => exact ⟨h.1, r.keep h.2 k⟩
theorem Slot.ok_grow {g : Slot} {x : Option V} {B : List Addr} (h : g.ok K M H x B) (k : ∀ p, p ∈ M' → p ∈ M ∨ H p = none) : g.ok K M' H x B := by
  cases g with
  | un => exact h
  | is r a => obtain ⟨v, e, h⟩ := h; exact ⟨v, e, r.grow h k⟩
  | pn v r a => exact ⟨h.1, r.grow h.2 k⟩
theorem Slot.ok_trk {g : Slot} {x : Option V} {B : List Addr} (h : g.ok K M H x B) : ∀ p, p ∈ B → ∃ o, H p = some o ∧ isTup o = false := by
  cases g with
  | un => intro p hp; rw [show B = [] from h] at hp; cases hp
  | is r a => obtain ⟨v, e, h⟩ := h; exact r.trk h
  | pn v r a => exact r.trk h.2
theorem AtS.keep {G s A} (h : AtS K M H G s A) (k : ∀ p o, H p = some o → (p ∉ M ∨ p ∈ A ∨ isTup o = true) → H' p = some o) : AtS K M H' G s A := by
  induction h with
  | nil => exact .nil
  | cons h t ih => exact .cons (Slot.ok_keep h fun p o e z => k p o e (z.imp id (Or.imp (fun y => List.mem_append_left _ y) id))) (ih fun p o e z => k p o e (z.imp id (Or.imp (fun y => List.mem_append_right _ y) id)))
theorem AtS.grow {G s A} (h : AtS K M H G s A) (k : ∀ p, p ∈ M' → p ∈ M ∨ H p = none) : AtS K M' H G s A := by
  induction h with
  | nil => exact .nil
  | cons h t ih => exact .cons (Slot.ok_grow h k) ih
theorem AtS.trk {G s A} (h : AtS K M H G s A) : ∀ p, p ∈ A → ∃ o, H p = some o ∧ isTup o = false := by
  induction h with
  | nil => intro p hp; cases hp
  | cons h t ih =>
    intro p hp
    rcases List.mem_append.mp hp with hp | hp
    · exact Slot.ok_trk h p hp
    · exact ih p hp
theorem AtS.length {G s A} (h : AtS K M H G s A) : s.length = G.length := by
  induction h with
  | nil => rfl
  | cons _ _ ih => simp [ih]
theorem AtS.append {G s A G' s' A'} (h : AtS K M H G s A) (h' : AtS K M H G' s' A') : AtS K M H (G ++ G') (s ++ s') (A ++ A') := by
  induction h with
  | nil => exact h'
  | cons h t ih =>
    rw [List.append_assoc]
    exact .cons h ih
/-- a slot taken out: what it owns, the rest -/
theorem AtS.at_ {G s A} (h : AtS K M H G s A) {i : Nat} {g : Slot} (e : G[i]? = some g) : ∃ x B A1 A2, s[i]? = some x ∧ g.ok K M H x B ∧ A = A1 ++ (B ++ A2) ∧
    ∀ (M' : List Addr) (H' : Hp) (g' : Slot) (x' : Option V) (B' : List Addr), (∀ {g x B}, Slot.ok K M H g x B → (∀ p, p ∈ B → p ∈ A1 ∨ p ∈ A2) → Slot.ok K M' H' g x B) → g'.ok K M' H' x' B' → AtS K M' H' (G.set i g') (s.set i x') (A1 ++ (B' ++ A2)) := by
  induction h generalizing i with
  | nil => simp at e
  | @cons g1 x1 B1 G1 s1 A1 h t ih =>
    have all : ∀ {G s A}, AtS K M H G s A → ∀ (M' : List Addr) (H' : Hp), (∀ {g x B}, Slot.ok K M H g x B → (∀ p, p ∈ B → p ∈ A) → Slot.ok K M' H' g x B) → AtS K M' H' G s A := by
      intro G s A h M' H'
      induction h with
      | nil => intro _; exact .nil
      | cons h t ih => intro k; exact .cons (k h fun p hp => List.mem_append_left _ hp) (ih fun h hp => k h fun p z => List.mem_append_right _ (hp p z))
    cases i with
    | zero =>
      have e' : g1 = g := Option.some.inj e
      subst e'
      refine ⟨x1, B1, [], A1, rfl, h, rfl, fun M' H' g' x' B' k hg => ?_⟩
      show AtS K M' H' (g' :: G1) (x' :: s1) (B' ++ A1)
      exact .cons hg (all t M' H' fun h hp => k h fun p z => .inr (hp p z))
    | succ i =>
      obtain ⟨x, B, P1, P2, h1, h2, h3, h4⟩ := ih (i := i) (by simpa using e)
      refine ⟨x, B, B1 ++ P1, P2, by simpa using h1, h2, by rw [h3, List.append_assoc], fun M' H' g' x' B' k hg => ?_⟩
      rw [List.append_assoc]
      exact .cons (k h fun p hp => .inl (List.mem_append_left _ hp)) (h4 M' H' g' x' B' (fun h hp => k h fun p z => (hp p z).imp (fun y => List.mem_append_right _ y) id) hg)
end
theorem set_self {T : Type _} {l : List T} {i : Nat} {x : T} (h : l[i]? = some x) : l.set i x = l := by
  apply List.ext_getElem?
  intro j
  rw [List.getElem?_set]
  split
  · rename_i e
    subst e
    split
    · exact h.symm
    · rw [h]
      rename_i z
      exact absurd (List.getElem?_eq_some_iff.mp h).1 z
  · rfl

/-! ### where one stands: a def's frame -/
structure FC (K : PySem.W.Frag) (S : Type) where
  H0 : Hp
  I : List Addr
  M0 : List Addr
  io : S → List Slot
  W : WX
structure Good {K : PySem.W.Frag} {S : Type} (F : FC K S) (H : Hp) (A : List Addr) : Prop where
  nd : A.Nodup
  out : ∀ p, p ∈ A → p ∉ F.M0
  new : ∀ p, p ∈ A → F.H0 p = none ∨ p ∈ F.I
  has : ∀ p, p ∈ F.I → ∃ o, H p = some o ∧ isTup o = false
  stay : ∀ p o, F.H0 p = some o → p ∉ F.I → H p = some o
  m0 : ∀ p, p ∈ F.M0 → (∃ o, F.H0 p = some o ∧ isTup o = false) ∧ p ∉ F.I
structure AtP {K : PySem.W.Frag} {S : Type} (F : FC K S) (T : List Slot) (t : List V) (G : List Slot) (s : L2.St) (H : Hp) (A1 A2 : List Addr) : Prop where
  tmp : AtS K (A1 ++ A2 ++ F.M0) H T (t.map some) A1
  loc : AtS K (A1 ++ A2 ++ F.M0) H G s A2
  good : Good F H (A1 ++ A2)
theorem Good.sub {K : PySem.W.Frag} {S : Type} {F : FC K S} {H : Hp} {A A' : List Addr} (g : Good F H A) (nd : A'.Nodup) (h : ∀ p, p ∈ A' → p ∈ A) : Good F H A' :=
  ⟨nd, fun p hp => g.out p (h p hp), fun p hp => g.new p (h p hp), g.has, g.stay, g.m0⟩
/-- what is untracked is new -/
theorem Good.fresh {K : PySem.W.Frag} {S : Type} {F : FC K S} {H : Hp} {A : List Addr} (g : Good F H A) {p : Addr} (hp : H p = none) : F.H0 p = none ∧ p ∉ F.M0 ∧ p ∉ F.I := by
  have hI : p ∉ F.I := fun z => by
    obtain ⟨o, ho, _⟩ := g.has p z
    rw [hp] at ho; cases ho
  have h0 : F.H0 p = none := by
    cases q : F.H0 p with
    | none => rfl
    | some o =>
      have := g.stay p o q hI
      rw [hp] at this; cases this
  refine ⟨h0, fun z => ?_, hI⟩
  obtain ⟨⟨o, ho, _⟩, _⟩ := g.m0 p z
  rw [h0] at ho; cases ho
def At {K : PySem.W.Frag} {S : Type} (F : FC K S) (T : List Slot) (t : List V) (G : List Slot) (s : L2.St) (H : Hp) : Prop := ∃ A1 A2, AtP F T t G s H A1 A2
end Td
namespace Td
open PySem PySem.Spec PyProof.Rows L2
section
variable {K : PySem.W.Frag} {S : Type} {F : FC K S} {T : List Slot} {t : List V} {G : List Slot} {s : L2.St} {H : Hp}
theorem At.len (h : At F T t G s H) : s.length = G.length := by
  obtain ⟨A1, A2, h⟩ := h
  exact h.loc.length
/-- a plain value becomes a temp -/
theorem At.push {U : Type} {r : Rp U} {a : U} {v : V} (h : At F T t G s H) (hr : ∀ M, r.rel K M H v a []) : At F (.is r a :: T) (v :: t) G s H := by
  obtain ⟨A1, A2, h⟩ := h
  exact ⟨A1, A2, .cons (B := []) ⟨v, rfl, hr _⟩ h.tmp, h.loc, h.good⟩
/-- the heap grows by an untracked thing -/
theorem At.heap {H' : Hp} (h : At F T t G s H) (k : ∀ p o, H p = some o → H' p = some o) : At F T t G s H' := by
  obtain ⟨A1, A2, h⟩ := h
  refine ⟨A1, A2, h.tmp.keep fun p o e _ => k p o e, h.loc.keep fun p o e _ => k p o e, ⟨h.good.nd, h.good.out, h.good.new, fun p hp => ?_, fun p o e hp => k p o (h.good.stay p o e hp), h.good.m0⟩⟩
  obtain ⟨o, ho, ht⟩ := h.good.has p hp
  exact ⟨o, k p o ho, ht⟩
theorem AtS.cons_inv {K : PySem.W.Frag} {M : List Addr} {H : Hp} {g : Slot} {G : List Slot} {x : Option V} {s : List (Option V)} {A : List Addr} (h : AtS K M H (g :: G) (x :: s) A) : ∃ B A', A = B ++ A' ∧ g.ok K M H x B ∧ AtS K M H G s A' := by
  cases h with
  | cons h t => exact ⟨_, _, rfl, h, t⟩
theorem At.pop {g : Slot} {v : V} (h : At F (g :: T) (v :: t) G s H) : At F T t G s H := by
  obtain ⟨A1, A2, h⟩ := h
  obtain ⟨B, A', eA, h1, h2⟩ := AtS.cons_inv h.tmp
  subst eA
  have hs : ∀ p, p ∈ A' ++ A2 → p ∈ (B ++ A') ++ A2 := fun p hp => by simp only [List.mem_append] at *; grind
  have hM : ∀ p, p ∈ A' ++ A2 ++ F.M0 → p ∈ (B ++ A') ++ A2 ++ F.M0 ∨ H p = none := fun p hp => .inl (by simp only [List.mem_append] at *; grind)
  refine ⟨A', A2, h2.grow hM, h.loc.grow hM, h.good.sub ?_ hs⟩
  have := h.good.nd
  rw [List.append_assoc] at this
  exact (List.nodup_append.mp this).2.1
/-- what stands in slot i -/
theorem At.slot (h : At F T t G s H) {i : Nat} {U : Type} {r : Rp U} {a : U} (e : G[i]? = some (.is r a)) : ∃ v M B, s[i]? = some (some v) ∧ r.rel K M H v a B := by
  obtain ⟨A1, A2, h⟩ := h
  obtain ⟨x, B, P1, P2, e1, ⟨v, e2, hr⟩, _⟩ := h.loc.at_ e
  subst e2
  exact ⟨v, _, B, e1, hr⟩
/-- a slot that owns nothing, read -/
theorem At.copy (h : At F T t G s H) {i : Nat} {U : Type} {r : Rp U} {a : U} (c : r.Cp) (e : G[i]? = some (.is r a)) : ∃ v, s[i]? = some (some v) ∧ At F (.is r a :: T) (v :: t) G s H := by
  obtain ⟨A1, A2, h⟩ := h
  obtain ⟨x, B, P1, P2, e1, ⟨v, e2, hr⟩, _⟩ := h.loc.at_ e
  subst e2
  have eB := c hr
  subst eB
  exact ⟨v, e1, A1, A2, .cons (B := []) ⟨v, rfl, hr⟩ h.tmp, h.loc, h.good⟩
/-- a slot's thing taken out of it -/
theorem At.move (h : At F T t G s H) {i : Nat} {U : Type} {r : Rp U} {a : U} (e : G[i]? = some (.is r a)) : ∃ v, s[i]? = some (some v) ∧ At F (.is r a :: T) (v :: t) (G.set i .un) s H := by
  obtain ⟨A1, A2, h⟩ := h
  obtain ⟨x, B, P1, P2, e1, ⟨v, e2, hr⟩, eA, back⟩ := h.loc.at_ e
  subst e2 eA
  have hM : ∀ p, p ∈ (B ++ A1) ++ (P1 ++ ([] ++ P2)) ++ F.M0 → p ∈ A1 ++ (P1 ++ (B ++ P2)) ++ F.M0 ∨ H p = none := fun p hp => .inl (by simp only [List.mem_append, List.nil_append] at *; grind)
  have nd := h.good.nd
  refine ⟨v, e1, B ++ A1, P1 ++ ([] ++ P2), .cons ⟨v, rfl, r.grow hr hM⟩ (h.tmp.grow hM), ?_, h.good.sub ?_ fun p hp => by simp only [List.mem_append, List.nil_append] at *; grind⟩
  · have z := back _ H .un (some v) [] (fun h _ => Slot.ok_grow h hM) rfl
    rwa [set_self e1] at z
  · simp only [List.nodup_append, List.mem_append, List.nil_append] at *
    grind
/-- a temp goes into slot i -/
theorem At.store (h : At F (g :: T) (v :: t) G s H) {g' : Slot} (i : Nat) (e : G[i]? = some g') : At F T t (G.set i g) (s.set i (some v)) H := by
  obtain ⟨A1, A2, h⟩ := h
  obtain ⟨B, A', eA, h1, h2⟩ := AtS.cons_inv h.tmp
  obtain ⟨x, B', P1, P2, e1, hr, eA2, back⟩ := h.loc.at_ e
  subst eA eA2
  have hM : ∀ p, p ∈ A' ++ (P1 ++ (B ++ P2)) ++ F.M0 → p ∈ (B ++ A') ++ (P1 ++ (B' ++ P2)) ++ F.M0 ∨ H p = none := fun p hp => .inl (by simp only [List.mem_append] at *; grind)
  have nd := h.good.nd
  refine ⟨A', P1 ++ (B ++ P2), h2.grow hM, back _ H g (some v) B (fun h _ => Slot.ok_grow h hM) (Slot.ok_grow h1 hM), h.good.sub ?_ fun p hp => by simp only [List.mem_append] at *; grind⟩
  simp only [List.nodup_append, List.mem_append] at *
  grind

/-- less is known -/
inductive Weak : List Slot → List Slot → Prop
  | nil : Weak [] []
  | un {g G G'} (h : Weak G G') : Weak (g :: G) (.un :: G')
  | eq {g G G'} (h : Weak G G') : Weak (g :: G) (g :: G')
theorem Weak.refl : ∀ G, Weak G G
  | [] => .nil
  | _ :: G => .eq (Weak.refl G)
theorem AtS.weak {M : List Addr} {G G' : List Slot} (w : Weak G G') : ∀ {s : List (Option V)} {A : List Addr}, AtS K M H G s A → ∃ A', AtS K M H G' s A' ∧ (∀ p, p ∈ A' → p ∈ A) ∧ (A.Nodup → A'.Nodup) := by
  induction w with
  | nil => intro s A h; exact ⟨A, h, fun _ z => z, id⟩
  | @un g G G' w ih =>
    intro s A h
    cases h with
    | @cons _ x B _ s A h t =>
      obtain ⟨A', h1, h2, h3⟩ := ih t
      refine ⟨[] ++ A', .cons (B := []) rfl h1, fun p hp => List.mem_append_right _ (h2 p hp), fun nd => h3 (List.nodup_append.mp nd).2.1⟩
  | @eq g G G' w ih =>
    intro s A h
    cases h with
    | @cons _ x B _ s A h t =>
      obtain ⟨A', h1, h2, h3⟩ := ih t
      refine ⟨B ++ A', .cons h h1, fun p hp => ?_, fun nd => ?_⟩
      · rcases List.mem_append.mp hp with hp | hp
        · exact List.mem_append_left _ hp
        · exact List.mem_append_right _ (h2 p hp)
      · obtain ⟨n1, n2, n3⟩ := List.nodup_append.mp nd
        exact List.nodup_append.mpr ⟨n1, h3 n2, fun a ha b hb => n3 a ha b (h2 b hb)⟩
theorem At.weak {G' : List Slot} (h : At F T t G s H) (w : Weak G G') : At F T t G' s H := by
  obtain ⟨A1, A2, h⟩ := h
  obtain ⟨A', h1, h2, h3⟩ := h.loc.weak w
  have nd := h.good.nd
  obtain ⟨n1, n2, n3⟩ := List.nodup_append.mp nd
  have hM : ∀ p, p ∈ A1 ++ A' ++ F.M0 → p ∈ A1 ++ A2 ++ F.M0 ∨ H p = none := fun p hp => .inl (by
    have := h2 p
    simp only [List.mem_append] at *
    grind)
  refine ⟨A1, A', h.tmp.grow hM, h1.grow hM, h.good.sub (List.nodup_append.mpr ⟨n1, h3 n2, fun a ha b hb => n3 a ha b (h2 b hb)⟩) fun p hp => ?_⟩
  have := h2 p
  simp only [List.mem_append] at *
  grind
theorem AtS.un : ∀ {M : List Addr} {s : List (Option V)}, AtS K M H (List.replicate s.length .un) s []
  | _, [] => .nil
  | _, _ :: s => .cons (B := []) rfl (AtS.un (s := s))
/-- of temps alone -/
theorem At.only (h : At F T t G s H) : At F T t (List.replicate s.length .un) s H := by
  obtain ⟨A1, A2, h⟩ := h
  have nd := h.good.nd
  have hM : ∀ p, p ∈ A1 ++ [] ++ F.M0 → p ∈ A1 ++ A2 ++ F.M0 ∨ H p = none := fun p hp => .inl (by simp only [List.mem_append] at *; grind)
  exact ⟨A1, [], h.tmp.grow hM, AtS.un, h.good.sub (by rw [List.append_nil]; exact (List.nodup_append.mp nd).1) fun p hp => by simp only [List.mem_append] at *; grind⟩
end
end Td

set_option Elab.async false
set_option linter.all false
set_option maxRecDepth 100000
set_option maxHeartbeats 4000000
namespace Td
open PySem PySem.Spec PyProof.Rows L2

/-- what an error holds -/
def rPay : Rp Pay where
  rel := fun K M H v a B => match a with
    | .non => v = .non ∧ B = []
    | .int i => rInt.rel K M H v i B
    | .pair a b => (rPair rInt rInt).rel K M H v (a, b) B
    | .lsI l => (rList rInt).rel K M H v l B
    | .lsP l => (rList (rPair rInt rInt)).rel K M H v l B
    | .str x => rStr.rel K M H v x B
  keep := by
    intro K M H H' v a B h k
    cases a with
    | non => exact h
    | int i => exact rInt.keep h k
    | pair a b => exact (rPair rInt rInt).keep h k
    | lsI l => exact (rList rInt).keep h k
    | lsP l => exact (rList (rPair rInt rInt)).keep h k
    | str x => exact rStr.keep h k
  grow := by
    intro K M M' H v a B h k
    cases a with
    | non => exact h
    | int i => exact rInt.grow h k
    | pair a b => exact (rPair rInt rInt).grow h k
    | lsI l => exact (rList rInt).grow h k
    | lsP l => exact (rList (rPair rInt rInt)).grow h k
    | str x => exact rStr.grow h k
  trk := by
    intro K M H v a B h
    cases a with
    | non => intro p hp; rw [h.2] at hp; cases hp
    | int i => exact rInt.trk h
    | pair a b => exact (rPair rInt rInt).trk h
    | lsI l => exact (rList rInt).trk h
    | lsP l => exact (rList (rPair rInt rInt)).trk h
    | str x => exact rStr.trk h

section
variable {K : PySem.W.Frag} {S : Type}
/-- an error may leave -/
def XP (F : FC K S) (σ : L2.St) (e : Exn) (s : S) : Prop := ∀ d v H', At F [.is rPay e.pay] [v] (F.io s) σ H' → H' d = some (.xd [("value", v)]) → F.W (.ref (He.ga K e.cls)) (some d) σ H'

/-! ### readings told by computations -/
def GE (F : FC K S) {U : Type} (te : TE) (G G' : S → List Slot) (r : Rp U) (m : SM S U) : Prop :=
  ∀ (T : List Slot) (t : List V) (σ : L2.St) (s : S) (H : Hp) (Q : VK), At F T t (G s) σ H →
    (m s).wp (fun a s' => ∀ v H', At F (.is r a :: T) (v :: t) (G' s') σ H' → Q v H') (XP F σ) → te σ H Q
def GT (F : FC K S) (te : TT) (G G' : S → List Slot) (m : SM S Bool) : Prop :=
  ∀ (T : List Slot) (t : List V) (σ : L2.St) (s : S) (H : Hp) (Q : Bool → Hp → Prop), At F T t (G s) σ H →
    (m s).wp (fun a s' => ∀ H', At F T t (G' s') σ H' → Q a H') (XP F σ) → te σ H Q
/-- an argument: a temp, or a name whose thing is read where it stands -/
inductive Arg : Type 1 where
  | t (g : Slot)
  | v (i : Nat)
def tmps : List Arg → List Slot
  | [] => []
  | .t g :: L => g :: tmps L
  | .v _ :: L => tmps L
inductive ArgV (σ : L2.St) : List Arg → List V → List V → Prop
  | nil : ArgV σ [] [] []
  | t {g L v ts vs} (h : ArgV σ L ts vs) : ArgV σ (.t g :: L) (v :: ts) (v :: vs)
  | v {i L v ts vs} (e : σ[i]? = some (some v)) (h : ArgV σ L ts vs) : ArgV σ (.v i :: L) ts (v :: vs)
def GA (F : FC K S) {U : Type} (ta : TA) (G G' : S → List Slot) (L : U → List Arg) (m : SM S U) : Prop :=
  ∀ (T : List Slot) (t : List V) (σ : L2.St) (s : S) (H : Hp) (Q : List V → Hp → Prop), At F T t (G s) σ H →
    (m s).wp (fun a s' => ∀ ts vs H', At F ((tmps (L a)).reverse ++ T) (ts.reverse ++ t) (G' s') σ H' → ArgV σ (L a) ts vs → Q vs H') (XP F σ) → ta σ H Q

section
variable {F : FC K S} {G G1 G2 G' : S → List Slot}
theorem ga_nil : GA F tNil G G (fun _ : Unit => []) (ret ()) := fun T t σ s H Q h q => q [] [] H (by simpa [tmps] using h) .nil
theorem ga_cons {U W : Type} {r : Rp U} {te : TE} {tr : TA} {m1 : SM S U} {m2 : SM S W} {L : W → List Arg} (h1 : GE F te G G1 r m1) (h2 : GA F tr G1 G2 L m2) :
    GA F (tCons te tr) G G2 (fun p : U × W => .t (.is r p.1) :: L p.2) (bnd m1 fun a => bnd m2 fun b => ret (a, b)) := by
  intro T t σ s H Q h q
  refine h1 T t σ s H _ h (wp_mono (wp_bnd q) (fun a s1 q1 v H1 at1 => ?_) fun _ _ z => z)
  refine h2 (.is r a :: T) (v :: t) σ s1 H1 _ at1 (wp_mono (wp_bnd q1) (fun b s2 q2 ts vs H2 at2 av => ?_) fun _ _ z => z)
  exact q2 (v :: ts) (v :: vs) H2 (by simpa [tmps] using at2) (.t av)
theorem ga_var {W : Type} {i : Nat} {tr : TA} {m2 : SM S W} {L : W → List Arg} {U : S → Type} {r : ∀ s, Rp (U s)} {a : ∀ s, U s} (e : ∀ s, (G s)[i]? = some (.is (r s) (a s))) (h2 : GA F tr G G2 L m2) :
    GA F (tCons (tVar i) tr) G G2 (fun p : W => .v i :: L p) m2 := by
  intro T t σ s H Q h q
  obtain ⟨v, M, B, ev, _⟩ := h.slot (e s)
  refine ⟨v, ev, ?_⟩
  refine h2 T t σ s H _ h (wp_mono q (fun b s2 q2 ts vs H2 at2 av => ?_) fun _ _ z => z)
  exact q2 ts (v :: vs) H2 at2 (.v ev av)
/-- how an argument may be read -/
inductive Rdd {U : Type} (G : List Slot) : Arg → Rp U → U → Prop
  | t {r a} : Rdd G (.t (.is r a)) r a
  | ts {r a} : Rdd G (.t (.is (sh r) a)) r a
  | v {i r a} (e : G[i]? = some (.is r a)) : Rdd G (.v i) r a
  | vs {i r a} (e : G[i]? = some (.is (sh r) a)) : Rdd G (.v i) r a
  | pn {i v r a} (e : G[i]? = some (.pn v r a)) : Rdd G (.v i) r a
theorem AtS.mem {M : List Addr} {H : Hp} {G : List Slot} {s : List (Option V)} {A : List Addr} (h : AtS K M H G s A) {i : Nat} {g : Slot} (e : G[i]? = some g) : ∃ x B, s[i]? = some x ∧ g.ok K M H x B ∧ ∀ p, p ∈ B → p ∈ A := by
  obtain ⟨x, B, P1, P2, e1, h1, eA, _⟩ := h.at_ e
  exact ⟨x, B, e1, h1, fun p hp => by rw [eA]; exact List.mem_append_right _ (List.mem_append_left _ hp)⟩
theorem rel_nil {U : Type} {r : Rp U} {M : List Addr} {H : Hp} {v : V} {a : U} {B : List Addr} (h : r.rel K M H v a B) : r.rel K [] H v a B := r.grow h fun p hp => by cases hp
theorem slot_is {U : Type} {r : Rp U} {M : List Addr} {H : Hp} {x : Option V} {a : U} {B : List Addr} (h : Slot.ok K M H (.is r a) x B) : ∃ v, x = some v ∧ r.rel K M H v a B := h
/-- the place of an argument's temp -/
theorem argV_tmp {σ : L2.St} : ∀ {L : List Arg} {ts vs : List V} {j : Nat} {g : Slot}, ArgV σ L ts vs → L[j]? = some (.t g) → ∃ (k : Nat) (v : V), (tmps L)[k]? = some g ∧ ts[k]? = some v ∧ vs[j]? = some v
  | _, _, _, j, g, .nil, e => by simp at e
  | _, _, _, 0, g, .t h, e => by
    have e' := Option.some.inj e
    cases e'
    exact ⟨0, _, rfl, rfl, rfl⟩
  | _, _, _, j + 1, g, .t h, e => by
    obtain ⟨k, v, h1, h2, h3⟩ := argV_tmp (j := j) h (by simpa using e)
    exact ⟨k + 1, v, by simpa [tmps] using h1, by simpa using h2, by simpa using h3⟩
  | _, _, _, 0, g, .v _ h, e => by
    have e' := Option.some.inj e
    cases e'
  | _, _, _, j + 1, g, .v _ h, e => by
    obtain ⟨k, v, h1, h2, h3⟩ := argV_tmp (j := j) h (by simpa using e)
    exact ⟨k, v, by simpa [tmps] using h1, h2, by simpa using h3⟩
theorem argV_len {σ : L2.St} : ∀ {L : List Arg} {ts vs : List V}, ArgV σ L ts vs → vs.length = L.length ∧ ts.length = (tmps L).length
  | _, _, _, .nil => ⟨rfl, rfl⟩
  | _, _, _, .t h => by have := argV_len h; simp [tmps, this.1, this.2]
  | _, _, _, .v _ h => by have := argV_len h; simp [tmps, this.1, this.2]
theorem argV_var {σ : L2.St} : ∀ {L : List Arg} {ts vs : List V} {j i : Nat}, ArgV σ L ts vs → L[j]? = some (.v i) → ∃ v, vs[j]? = some v ∧ σ[i]? = some (some v)
  | _, _, _, j, i, .nil, e => by simp at e
  | _, _, _, 0, i, .t h, e => by
    have e' := Option.some.inj e
    cases e'
  | _, _, _, j + 1, i, .t h, e => by
    obtain ⟨v, h1, h2⟩ := argV_var (j := j) h (by simpa using e)
    exact ⟨v, by simpa using h1, h2⟩
  | _, _, _, 0, i, .v ev h, e => by
    have e' := Option.some.inj e
    cases e'
    exact ⟨_, rfl, ev⟩
  | _, _, _, j + 1, i, .v _ h, e => by
    obtain ⟨v, h1, h2⟩ := argV_var (j := j) h (by simpa using e)
    exact ⟨v, by simpa using h1, h2⟩
theorem rev_get {T : Type _} {l : List T} {k : Nat} {x : T} (h : l[k]? = some x) (m : List T) : (l.reverse ++ m)[l.length - 1 - k]? = some x := by
  have hk := (List.getElem?_eq_some_iff.mp h).1
  rw [List.getElem?_append_left (by simp; omega), List.getElem?_reverse (by omega)]
  rw [show l.length - 1 - (l.length - 1 - k) = k by omega]
  exact h
theorem rdd {σ : L2.St} {T : List Slot} {t ts vs : List V} {L : List Arg} {Gs : List Slot} {H : Hp} {j : Nat} {arg : Arg} {U : Type} {r : Rp U} {a : U} (h : At F ((tmps L).reverse ++ T) (ts.reverse ++ t) Gs σ H) (av : ArgV σ L ts vs) (e : L[j]? = some arg) (rd : Rdd Gs arg r a) :
    ∃ v B, vs[j]? = some v ∧ r.rel K [] H v a B := by
  obtain ⟨A1, A2, h⟩ := h
  have tmp : ∀ {g : Slot}, L[j]? = some (.t g) → ∃ v M B, vs[j]? = some v ∧ g.ok K M H (some v) B := by
    intro g e
    obtain ⟨k, v, h1, h2, h3⟩ := argV_tmp av e
    obtain ⟨x, B, e1, h4, _⟩ := h.tmp.mem (rev_get h1 T)
    rw [← (argV_len av).2, List.map_append, List.map_reverse] at e1
    have h2' : (ts.map some)[k]? = some (some v) := by rw [List.getElem?_map, h2]; rfl
    have z := rev_get h2' (t.map some)
    rw [List.length_map, e1] at z
    cases z
    exact ⟨v, _, B, h3, h4⟩
  have loc : ∀ {i : Nat} {g : Slot}, L[j]? = some (.v i) → Gs[i]? = some g → ∃ v M B, vs[j]? = some v ∧ g.ok K M H (some v) B := by
    intro i g e eg
    obtain ⟨v, h1, h2⟩ := argV_var av e
    obtain ⟨x, B, e1, h4, _⟩ := h.loc.mem eg
    rw [h2] at e1
    cases e1
    exact ⟨v, _, B, h1, h4⟩
  cases rd with
  | t =>
    obtain ⟨v, M, B, h1, v', e', h2⟩ := tmp e
    cases e'
    exact ⟨v, B, h1, rel_nil h2⟩
  | ts =>
    obtain ⟨v, M, B, h1, v', e', h2⟩ := tmp e
    cases e'
    obtain ⟨_, A, h3, _⟩ := h2
    exact ⟨v, A, h1, rel_nil h3⟩
  | v eg =>
    obtain ⟨v, M, B, h1, v', e', h2⟩ := loc e eg
    cases e'
    exact ⟨v, B, h1, rel_nil h2⟩
  | vs eg =>
    obtain ⟨v, M, B, h1, v', e', h2⟩ := loc e eg
    cases e'
    obtain ⟨_, A, h3, _⟩ := h2
    exact ⟨v, A, h1, rel_nil h3⟩
  | pn eg =>
    obtain ⟨v, M, B, h1, e', h2⟩ := loc e eg
    cases e'
    exact ⟨_, B, h1, rel_nil h2⟩
/-- temps forgotten -/
theorem At.drop {T : List Slot} {t : List V} {Gs : List Slot} {σ : L2.St} {H : Hp} : ∀ {T1 : List Slot} {t1 : List V}, t1.length = T1.length → At F (T1 ++ T) (t1 ++ t) Gs σ H → At F T t Gs σ H
  | [], [], _, h => h
  | _ :: T1, _ :: t1, e, h => At.drop (T1 := T1) (t1 := t1) (by simpa using e) (At.pop h)
theorem At.drops {T : List Slot} {t ts vs : List V} {L : List Arg} {Gs : List Slot} {σ : L2.St} {H : Hp} (h : At F ((tmps L).reverse ++ T) (ts.reverse ++ t) Gs σ H) (av : ArgV σ L ts vs) : At F T t Gs σ H :=
  At.drop (by simp [(argV_len av).2]) h
end
end
end Td

set_option Elab.async false
set_option linter.all false
set_option maxRecDepth 100000
set_option maxHeartbeats 4000000
namespace Td
open PySem PySem.Spec PyProof.Rows L2

section
variable {K : PySem.W.Frag} {S : Type} {F : FC K S} {T : List Slot} {t : List V} {G : List Slot} {σ : L2.St} {H : Hp}
/-- a new tuple of two temps -/
theorem At.tup2 {U W : Type} {r : Rp U} {q : Rp W} {a : U} {b : W} {v w : V} (h : At F (.is q b :: .is r a :: T) (w :: v :: t) G σ H) {p : Addr} (hp : H p = none) : At F (.is (rPair r q) (a, b) :: T) (.ref p :: t) G σ (upd H p (.tup [v, w])) := by
  obtain ⟨A1, A2, h⟩ := h
  have k : ∀ x o, H x = some o → upd H p (.tup [v, w]) x = some o := fun x o e => by rw [upd_ne (ne_of_none e hp)]; exact e
  have nd := h.good.nd
  have hg := h.good
  obtain ⟨B2, A', eA, ⟨w', ew, h2⟩, ht⟩ := AtS.cons_inv h.tmp
  obtain ⟨B1, A'', eA', ⟨v', ev, h1⟩, ht⟩ := AtS.cons_inv ht
  cases ew; cases ev
  subst eA; subst eA'
  have hM : ∀ x, x ∈ (B1 ++ B2) ++ A'' ++ A2 ++ F.M0 → x ∈ B2 ++ (B1 ++ A'') ++ A2 ++ F.M0 ∨ H x = none := fun x hx => .inl (by simp only [List.mem_append] at *; grind)
  refine ⟨(B1 ++ B2) ++ A'', A2, .cons ⟨_, rfl, p, v, w, B1, B2, rfl, SqT.of upd_same, r.keep (r.grow h1 hM) (fun x o e _ => k x o e), q.keep (q.grow h2 hM) (fun x o e _ => k x o e), rfl⟩ ((ht.grow hM).keep fun x o e _ => k x o e), (h.loc.grow hM).keep fun x o e _ => k x o e, ?_⟩
  have hg' := hg.sub (A' := (B1 ++ B2) ++ A'' ++ A2) (by simp only [List.nodup_append, List.mem_append] at *; grind) (fun x hx => by simp only [List.mem_append] at *; grind)
  exact ⟨hg'.nd, hg'.out, hg'.new, fun x hx => let ⟨o, e, z⟩ := hg'.has x hx; ⟨o, k x o e, z⟩, fun x o e z => k x o (hg'.stay x o e z), hg'.m0⟩
theorem At.tup3 {U W Z : Type} {r : Rp U} {q : Rp W} {l : Rp Z} {a : U} {b : W} {c : Z} {v w u : V} (h : At F (.is l c :: .is q b :: .is r a :: T) (u :: w :: v :: t) G σ H) {p : Addr} (hp : H p = none) : At F (.is (rTup3 r q l) (a, b, c) :: T) (.ref p :: t) G σ (upd H p (.tup [v, w, u])) := by
  obtain ⟨A1, A2, h⟩ := h
  have k : ∀ x o, H x = some o → upd H p (.tup [v, w, u]) x = some o := fun x o e => by rw [upd_ne (ne_of_none e hp)]; exact e
  have nd := h.good.nd
  have hg := h.good
  obtain ⟨B3, A', eA, ⟨u', eu, h3⟩, ht⟩ := AtS.cons_inv h.tmp
  obtain ⟨B2, A3, eA3, ⟨w', ew, h2⟩, ht⟩ := AtS.cons_inv ht
  obtain ⟨B1, A'', eA', ⟨v', ev, h1⟩, ht⟩ := AtS.cons_inv ht
  cases eu; cases ew; cases ev
  subst eA; subst eA3; subst eA'
  have hM : ∀ x, x ∈ (B1 ++ (B2 ++ B3)) ++ A'' ++ A2 ++ F.M0 → x ∈ B3 ++ (B2 ++ (B1 ++ A'')) ++ A2 ++ F.M0 ∨ H x = none := fun x hx => .inl (by simp only [List.mem_append] at *; grind)
  refine ⟨(B1 ++ (B2 ++ B3)) ++ A'', A2, .cons ⟨_, rfl, p, v, w, u, B1, B2, B3, rfl, SqT.of upd_same, r.keep (r.grow h1 hM) (fun x o e _ => k x o e), q.keep (q.grow h2 hM) (fun x o e _ => k x o e), l.keep (l.grow h3 hM) (fun x o e _ => k x o e), rfl⟩ ((ht.grow hM).keep fun x o e _ => k x o e), (h.loc.grow hM).keep fun x o e _ => k x o e, ?_⟩
  have hg' := hg.sub (A' := (B1 ++ (B2 ++ B3)) ++ A'' ++ A2) (by simp only [List.nodup_append, List.mem_append] at *; grind) (fun x hx => by simp only [List.mem_append] at *; grind)
  exact ⟨hg'.nd, hg'.out, hg'.new, fun x hx => let ⟨o, e, z⟩ := hg'.has x hx; ⟨o, k x o e, z⟩, fun x o e z => k x o (hg'.stay x o e z), hg'.m0⟩
/-- temps of one kind: all pending items of a list -/
def pend {U : Type} (r : Rp U) (as : List U) : List Slot := (as.map (Slot.is r)).reverse
theorem pend_snoc {U : Type} (r : Rp U) (as : List U) (a : U) : pend r (as ++ [a]) = .is r a :: pend r as := by simp [pend]
theorem pend_len {U : Type} (r : Rp U) (as : List U) : (pend r as).length = as.length := by simp [pend]
theorem AtS.split {M : List Addr} : ∀ {G1 G2 : List Slot} {s1 s2 : List (Option V)} {A : List Addr}, s1.length = G1.length → AtS K M H (G1 ++ G2) (s1 ++ s2) A → ∃ A1 A2, A = A1 ++ A2 ∧ AtS K M H G1 s1 A1 ∧ AtS K M H G2 s2 A2
  | [], _, [], _, A, _, h => ⟨[], A, rfl, .nil, h⟩
  | _ :: G1, G2, _ :: s1, s2, _, e, h => by
    obtain ⟨B, A', eA, h1, h2⟩ := AtS.cons_inv h
    obtain ⟨A1, A2, e2, h3, h4⟩ := AtS.split (G1 := G1) (s1 := s1) (by simpa using e) h2
    exact ⟨B ++ A1, A2, by rw [eA, e2, List.append_assoc], .cons h1 h3, h4⟩
theorem AtS.all {U : Type} {r : Rp U} {M : List Addr} : ∀ {n : Nat} {as : List U} {vs : List V} {A : List Addr}, as.length = n → vs.length = n → AtS K M H (pend r as) (vs.reverse.map some) A → ∃ A', All3 (r.rel K M H) vs as A' ∧ A'.Perm A := by
  intro n
  induction n with
  | zero =>
    intro as vs A e1 e2 h
    obtain rfl : as = [] := List.eq_nil_of_length_eq_zero e1
    obtain rfl : vs = [] := List.eq_nil_of_length_eq_zero e2
    cases h
    exact ⟨[], .nil, .nil⟩
  | succ n ih =>
    intro as vs A e1 e2 h
    obtain ⟨as', a, rfl⟩ : ∃ as' a, as = as' ++ [a] := ⟨_, _, (List.dropLast_concat_getLast (l := as) (by intro z; simp [z] at e1)).symm⟩
    obtain ⟨vs', v, rfl⟩ : ∃ vs' v, vs = vs' ++ [v] := ⟨_, _, (List.dropLast_concat_getLast (l := vs) (by intro z; simp [z] at e2)).symm⟩
    rw [pend_snoc] at h
    simp only [List.reverse_append, List.reverse_cons, List.reverse_nil, List.nil_append, List.singleton_append, List.map_cons] at h
    obtain ⟨B, A', eA, ⟨v', ev, h1⟩, h2⟩ := AtS.cons_inv h
    cases ev
    obtain ⟨A2, h3, pm⟩ := ih (by simpa using e1) (by simpa using e2) h2
    refine ⟨A2 ++ (B ++ []), h3.append (.cons h1 .nil), ?_⟩
    rw [eA, List.append_nil]
    exact List.perm_append_comm.trans (pm.append_left B)
/-- a new list of pending items -/
theorem At.lst {U : Type} {r : Rp U} {as : List U} {vs : List V} (h : At F (pend r as ++ T) (vs.reverse ++ t) G σ H) (hl : vs.length = as.length) {p : Addr} (hp : H p = none) : At F (.is (rList r) as :: T) (.ref p :: t) G σ (upd H p (.lst vs)) := by
  obtain ⟨A1, A2, h⟩ := h
  have k : ∀ x o, H x = some o → upd H p (.lst vs) x = some o := fun x o e => by rw [upd_ne (ne_of_none e hp)]; exact e
  have nd := h.good.nd
  have hg := h.good
  have ht := h.tmp
  rw [List.map_append] at ht
  obtain ⟨B, A', eA, h1, ht⟩ := AtS.split (by rw [List.length_map, List.length_reverse, pend_len, hl]) ht
  obtain ⟨B', h2, pm⟩ := AtS.all (n := as.length) rfl hl h1
  subst eA
  obtain ⟨f0, f1, f2⟩ := hg.fresh hp
  have mB : ∀ x, x ∈ B' ↔ x ∈ B := fun x => pm.mem_iff
  have npA : p ∉ B ++ A' ++ A2 := fun z => by
    have tt : ∃ o, H p = some o := by
      rcases List.mem_append.mp z with z | z
      · obtain ⟨o, e, _⟩ := h.tmp.trk p z; exact ⟨o, e⟩
      · obtain ⟨o, e, _⟩ := h.loc.trk p z; exact ⟨o, e⟩
    obtain ⟨o, e⟩ := tt
    rw [hp] at e; cases e
  have hM : ∀ x, x ∈ (p :: B') ++ A' ++ A2 ++ F.M0 → x ∈ B ++ A' ++ A2 ++ F.M0 ∨ H x = none := fun x hx => by
    by_cases e : x = p
    · right; rw [e]; exact hp
    · left
      have := mB x
      simp only [List.cons_append, List.mem_cons, List.mem_append] at *
      grind
  refine ⟨(p :: B') ++ A', A2, .cons ⟨_, rfl, p, vs, B', rfl, upd_same, h2.imp fun v a B _ hr => r.keep (r.grow hr hM) (fun x o e _ => k x o e), rfl⟩ ((ht.grow hM).keep fun x o e _ => k x o e), (h.loc.grow hM).keep fun x o e _ => k x o e, ?_⟩
  have ndB : B'.Nodup := by
    rw [List.append_assoc] at nd
    exact (pm.nodup_iff).mpr (List.nodup_append.mp nd).1
  refine ⟨?_, fun x hx => ?_, fun x hx => ?_, fun x hx => let ⟨o, e, z⟩ := hg.has x hx; ⟨o, k x o e, z⟩, fun x o e z => k x o (hg.stay x o e z), hg.m0⟩
  · have := fun x => mB x
    simp only [List.cons_append, List.nodup_append, List.nodup_cons, List.mem_append] at *
    grind
  · have := mB x
    have := hg.out x
    simp only [List.cons_append, List.mem_cons, List.mem_append] at *
    grind
  · have := mB x
    have := hg.new x
    simp only [List.cons_append, List.mem_cons, List.mem_append] at *
    grind
/-- parts of a pair -/
theorem At.unpair {U W : Type} {r : Rp U} {q : Rp W} {a : U × W} {v : V} (h : At F (.is (rPair r q) a :: T) (v :: t) G σ H) : ∃ p x y, v = .ref p ∧ SqT K H p [x, y] ∧ At F (.is r a.1 :: .is q a.2 :: T) (x :: y :: t) G σ H := by
  obtain ⟨A1, A2, h⟩ := h
  have nd := h.good.nd
  obtain ⟨B, A', eA, ⟨v', ev, p, x, y, B1, B2, e, hT, h1, h2, eB⟩, ht⟩ := AtS.cons_inv h.tmp
  cases ev
  subst eA eB
  refine ⟨p, x, y, e, hT, (B1 ++ (B2 ++ A')), A2, ?_, ?_, ?_⟩
  · rw [show B1 ++ (B2 ++ A') ++ A2 ++ F.M0 = B1 ++ B2 ++ A' ++ A2 ++ F.M0 by simp]
    exact .cons ⟨x, rfl, h1⟩ (.cons ⟨y, rfl, h2⟩ ht)
  · rw [show B1 ++ (B2 ++ A') ++ A2 ++ F.M0 = B1 ++ B2 ++ A' ++ A2 ++ F.M0 by simp]
    exact h.loc
  · rw [show B1 ++ (B2 ++ A') ++ A2 = B1 ++ B2 ++ A' ++ A2 by simp]
    exact h.good
theorem At.unpairS {U W : Type} {r : Rp U} {q : Rp W} {a : U × W} {v : V} (h : At F (.is (sh (rPair r q)) a :: T) (v :: t) G σ H) : ∃ p x y, v = .ref p ∧ SqT K H p [x, y] ∧ At F (.is (sh r) a.1 :: .is (sh q) a.2 :: T) (x :: y :: t) G σ H := by
  obtain ⟨A1, A2, h⟩ := h
  obtain ⟨B, A', eA, ⟨v', ev, eB, C, ⟨p, x, y, B1, B2, e, hT, h1, h2, eC⟩, hC⟩, ht⟩ := AtS.cons_inv h.tmp
  cases ev
  subst eA eB eC
  exact ⟨p, x, y, e, hT, A', A2, .cons (B := []) ⟨x, rfl, rfl, B1, h1, fun z hz => hC z (List.mem_append_left _ hz)⟩ (.cons (B := []) ⟨y, rfl, rfl, B2, h2, fun z hz => hC z (List.mem_append_right _ hz)⟩ ht), h.loc, h.good⟩
/-- what is owned is let go -/
theorem At.freeze {U : Type} {r : Rp U} {a : U} {v : V} (h : At F (.is r a :: T) (v :: t) G σ H) : At F (.is (sh r) a :: T) (v :: t) G σ H := by
  obtain ⟨A1, A2, h⟩ := h
  have nd := h.good.nd
  obtain ⟨B, A', eA, ⟨v', ev, hr⟩, ht⟩ := AtS.cons_inv h.tmp
  cases ev
  subst eA
  have hM : ∀ x, x ∈ [] ++ A' ++ A2 ++ F.M0 → x ∈ B ++ A' ++ A2 ++ F.M0 ∨ H x = none := fun x hx => .inl (by simp only [List.mem_append] at *; grind)
  refine ⟨[] ++ A', A2, .cons ⟨v, rfl, Rp.to_sh hr fun x hx => ?_⟩ (ht.grow hM), h.loc.grow hM, h.good.sub (by simp only [List.nodup_append, List.nil_append, List.mem_append] at *; grind) fun x hx => by simp only [List.mem_append] at *; grind⟩
  have := h.good.out x
  simp only [List.nodup_append, List.nil_append, List.mem_append] at *
  grind
theorem At.unsh {U : Type} {r : Rp U} (c : r.Cp) {a : U} {v : V} (h : At F (.is (sh r) a :: T) (v :: t) G σ H) : At F (.is r a :: T) (v :: t) G σ H := by
  obtain ⟨A1, A2, h⟩ := h
  obtain ⟨B, A', eA, ⟨v', ev, eB, C, hr, hC⟩, ht⟩ := AtS.cons_inv h.tmp
  cases ev
  have eC := c hr
  subst eA eB eC
  exact ⟨[] ++ A', A2, .cons ⟨v, rfl, hr⟩ ht, h.loc, h.good⟩
end

theorem star1 {e : Expr} {es : List Expr} {env : Env} (h : PySem.W.isStarred e = false) : starEach (e :: es) env = (false, eval e env) :: starEach es env := by
  cases e <;> first | rfl | cases h
end Td

set_option Elab.async false
set_option linter.all false
set_option maxRecDepth 100000
set_option maxHeartbeats 4000000
namespace Td
open PySem PySem.Spec PyProof.Rows L2

structure EX (X : Cx) {S : Type} (F : FC X.K S) {U : Type} (e : Expr) (te : TE) (G G' : S → List Slot) (r : Rp U) (m : SM S U) : Prop where
  pe : PE X e te
  go : GE F te G G' r m
structure ET (X : Cx) {S : Type} (F : FC X.K S) (e : Expr) (te : TT) (G G' : S → List Slot) (m : SM S Bool) : Prop where
  pt : PT X e te
  go : GT F te G G' m
structure EW (X : Cx) {S : Type} (F : FC X.K S) (e : Expr) (te : TT) (G G' : S → List Slot) (m : SM S Bool) : Prop where
  pw : PW X e te
  go : GT F te G G' m
structure EA (X : Cx) {S : Type} (F : FC X.K S) {U : Type} (es : List Expr) (ta : TA) (G G' : S → List Slot) (L : U → List Arg) (m : SM S U) : Prop where
  pa : PA X es ta
  go : GA F ta G G' L m

/-! ### rules by values: the heap stays -/
def VO1 (K : PySem.W.Frag) (S : Type) {U W : Type} (r1 : Rp U) (r3 : Rp W) (rr : V → Hp → VK → Prop) (f : U → SM S W) : Prop :=
  ∀ (a : U) (v : V) (M B : List Addr) (H : Hp) (Q : VK) (s : S), r1.rel K M H v a B → (f a s).wp (fun c s' => s' = s → ∀ u, (∀ M, r3.rel K M H u c []) → Q u H) (fun _ _ => False) → rr v H Q
def VO2 (K : PySem.W.Frag) (S : Type) {U W Z : Type} (r1 : Rp U) (r2 : Rp W) (r3 : Rp Z) (rr : R2) (f : U → W → SM S Z) : Prop :=
  ∀ (a : U) (b : W) (v w : V) (M B M' B' : List Addr) (H : Hp) (Q : VK) (s : S), r1.rel K M H v a B → r2.rel K M' H w b B' →
    (f a b s).wp (fun c s' => s' = s → ∀ u, (∀ M, r3.rel K M H u c []) → Q u H) (fun _ _ => False) → rr v w H Q
/-- a computation that leaves the state and raises nothing -/
def Stl {S T : Type} (m : SM S T) : Prop := ∀ s, match m s with
  | .ok _ s' => s' = s
  | .exc _ _ => False
  | .stuck => True
theorem stl_ret {S T : Type} (a : T) : Stl (ret a : SM S T) := fun _ => rfl
theorem stl_stk {S T : Type} : Stl (stk : SM S T) := fun _ => trivial
theorem stl_grd {S : Type} {c : Prop} [Decidable c] : Stl (grd c : SM S Unit) := fun s => by
  unfold grd
  by_cases h : c
  · rw [if_pos h]
  · rw [if_neg h]; trivial
theorem stl_bnd {S T U : Type} {m : SM S T} {k : T → SM S U} (h : Stl m) (h' : ∀ a, Stl (k a)) : Stl (bnd m k) := fun s => by
  unfold bnd
  have z := h s
  cases hm : m s with
  | ok a s' =>
    rw [hm] at z
    cases z
    exact h' a s
  | exc e s' => rw [hm] at z; exact z.elim
  | stuck => trivial
theorem Stl.wp {S T : Type} {m : SM S T} (h : Stl m) {s : S} {P : T → S → Prop} {E : Exn → S → Prop} {E' : Exn → S → Prop} (q : (m s).wp P E) : (m s).wp (fun a s' => s' = s ∧ P a s) E' := by
  have z := h s
  cases hm : m s with
  | ok a s' =>
    rw [hm] at z q
    cases z
    exact ⟨rfl, q⟩
  | exc e s' => rw [hm] at z; exact z.elim
  | stuck => rw [hm] at q; exact q
theorem vo_I0 {K : PySem.W.Frag} {S : Type} (g : Int → Int → Int) : VO2 K S rInt rInt rInt (rI0 fun i j => .int (g i j)) (fun i j => ret (g i j)) :=
  fun a b v w _ _ _ _ H Q s h1 h2 q => ⟨a, b, h1.1, h2.1, q rfl _ fun _ => ⟨rfl, rfl⟩⟩
theorem vo_B0 {K : PySem.W.Frag} {S : Type} (g : Int → Int → Bool) : VO2 K S rInt rInt rBool (rI0 fun i j => .bl (g i j)) (fun i j => ret (g i j)) :=
  fun a b v w _ _ _ _ H Q s h1 h2 q => ⟨a, b, h1.1, h2.1, q rfl _ fun _ => ⟨rfl, rfl⟩⟩
def grdI {S : Type} (C : Int → Int → Prop) [∀ i j, Decidable (C i j)] (g : Int → Int → Int) (i j : Int) : SM S Int := bnd (grd (C i j)) fun _ => ret (g i j)
theorem vo_I {K : PySem.W.Frag} {S : Type} (C : Int → Int → Prop) [∀ i j, Decidable (C i j)] (g : Int → Int → Int) : VO2 K S rInt rInt rInt (rI C fun i j => .int (g i j)) (grdI C g) :=
  fun a b v w _ _ _ _ H Q s h1 h2 q => by
    obtain ⟨hc, q⟩ := wp_grd (wp_bnd q)
    exact ⟨a, b, h1.1, h2.1, hc, q rfl _ fun _ => ⟨rfl, rfl⟩⟩
/-- == of plain values -/
theorem vo_eq {K : PySem.W.Frag} {S T : Type} [DecidableEq T] {f : T → V} (hf : ∀ a b, f a = f b → a = b) (hs : ∀ a b, scal (f a) (f b) = true) : VO2 K S (rPl f) (rPl f) rBool rEq (fun a b => ret (decide (a = b))) :=
  fun a b v w _ _ _ _ H Q s h1 h2 q => by
    obtain ⟨e1, _⟩ := h1
    obtain ⟨e2, _⟩ := h2
    rw [e1, e2]
    refine ⟨hs a b, q rfl _ fun _ => ⟨?_, rfl⟩⟩
    by_cases e : a = b
    · rw [decide_eq_true e, decide_eq_true (congrArg f e)]
    · rw [decide_eq_false e, decide_eq_false (fun z => e (hf _ _ z))]
theorem vo_ne {K : PySem.W.Frag} {S T : Type} [DecidableEq T] {f : T → V} (hf : ∀ a b, f a = f b → a = b) (hs : ∀ a b, scal (f a) (f b) = true) : VO2 K S (rPl f) (rPl f) rBool rNe (fun a b => ret (!decide (a = b))) :=
  fun a b v w _ _ _ _ H Q s h1 h2 q => by
    obtain ⟨e1, _⟩ := h1
    obtain ⟨e2, _⟩ := h2
    rw [e1, e2]
    refine ⟨hs a b, q rfl _ fun _ => ⟨?_, rfl⟩⟩
    by_cases e : a = b
    · rw [decide_eq_true e, decide_eq_true (congrArg f e)]
    · rw [decide_eq_false e, decide_eq_false (fun z => e (hf _ _ z))]
theorem vo_eqI {K : PySem.W.Frag} {S : Type} : VO2 K S rInt rInt rBool rEq (fun a b => ret (decide (a = b))) := vo_eq (fun _ _ e => by injection e) fun _ _ => rfl
theorem vo_neI {K : PySem.W.Frag} {S : Type} : VO2 K S rInt rInt rBool rNe (fun a b => ret (!decide (a = b))) := vo_ne (fun _ _ e => by injection e) fun _ _ => rfl
theorem vo_eqS {K : PySem.W.Frag} {S : Type} : VO2 K S rStr rStr rBool rEq (fun a b => ret (decide (a = b))) := vo_eq (fun _ _ e => by injection e) fun _ _ => rfl
theorem vo_neS {K : PySem.W.Frag} {S : Type} : VO2 K S rStr rStr rBool rNe (fun a b => ret (!decide (a = b))) := vo_ne (fun _ _ e => by injection e) fun _ _ => rfl
theorem vo_eqB {K : PySem.W.Frag} {S : Type} : VO2 K S rBool rBool rBool rEq (fun a b => ret (decide (a = b))) := vo_eq (fun _ _ e => by injection e) fun _ _ => rfl
theorem vo_neB {K : PySem.W.Frag} {S : Type} : VO2 K S rBool rBool rBool rNe (fun a b => ret (!decide (a = b))) := vo_ne (fun _ _ e => by injection e) fun _ _ => rfl

section
variable {X : Cx} {S : Type} {F : FC X.K S} {U W Z : Type} {r r1 : Rp U} {r2 : Rp W} {r3 : Rp Z} {e a b : Expr} {te ta tb : TE} {G G1 G2 G' : S → List Slot} {m m1 : SM S U} {m2 : SM S W} {pos : Pos}
/-- the two temps used up, the answer a temp -/
theorem fin2 {T : List Slot} {t : List V} {Gs : List Slot} {σ : L2.St} {H : Hp} {g1 g2 : Slot} {v w : V} {c : Z} {u : V} (h : At F (g2 :: g1 :: T) (w :: v :: t) Gs σ H) (hr : ∀ M, r3.rel X.K M H u c []) : At F (.is r3 c :: T) (u :: t) Gs σ H := (h.pop.pop).push hr
theorem top_rel {T : List Slot} {t : List V} {Gs : List Slot} {σ : L2.St} {H : Hp} {x : U} {v : V} (h : At F (.is r x :: T) (v :: t) Gs σ H) : ∃ M B, r.rel X.K M H v x B := by
  obtain ⟨A1, A2, h⟩ := h
  obtain ⟨B, A', eA, ⟨v', ev, hr⟩, ht⟩ := AtS.cons_inv h.tmp
  cases ev
  exact ⟨_, B, hr⟩
theorem snd_rel {T : List Slot} {t : List V} {Gs : List Slot} {σ : L2.St} {H : Hp} {g : Slot} {x : U} {v w : V} (h : At F (g :: .is r x :: T) (w :: v :: t) Gs σ H) : ∃ M B, r.rel X.K M H v x B := top_rel h.pop
theorem go_op {rr : R2} {f : U → W → SM S Z} (hf : ∀ a b, Stl (f a b)) (hv : VO2 X.K S r1 r2 r3 rr f) (h1 : GE F ta G G1 r1 m1) (h2 : GE F tb G1 G2 r2 m2) : GE F (tOp rr ta tb) G G2 r3 (bnd m1 fun a => bnd m2 fun b => f a b) := by
  intro T t σ s H Q h q
  refine h1 T t σ s H _ h (wp_mono (wp_bnd q) (fun a s1 q1 v H1 at1 => ?_) fun _ _ z => z)
  refine h2 _ _ σ s1 H1 _ at1 (wp_mono (wp_bnd q1) (fun b s2 q2 w H2 at2 => ?_) fun _ _ z => z)
  obtain ⟨M1, B1, k1⟩ := snd_rel at2
  obtain ⟨M2, B2, k2⟩ := top_rel at2
  refine hv a b v w M1 B1 M2 B2 H2 Q s2 k1 k2 (wp_mono ((hf a b).wp q2) (fun c s3 q3 e u hu => ?_) fun _ _ z => z)
  exact q3.2 u H2 (fin2 at2 hu)
theorem ex_bin {op : Operator} {rr : R2} {f : U → W → SM S Z} (ho : OpR X (binaryOp op) rr) (hv : VO2 X.K S r1 r2 r3 rr f) (hf : ∀ a b, Stl (f a b)) (h1 : EX X F a ta G G1 r1 m1) (h2 : EX X F b tb G1 G2 r2 m2) :
    EX X F (.BinOp a op b pos) (tOp rr ta tb) G G2 r3 (bnd m1 fun a => bnd m2 fun b => f a b) := ⟨pe_op ho h1.pe h2.pe, go_op hf hv h1.go h2.go⟩
theorem ex_cmp {op : CmpOp} {rr : R2} {f : U → W → SM S Bool} (ho : OpR X (compareOp op) rr) (hv : VO2 X.K S r1 r2 rBool rr f) (hf : ∀ a b, Stl (f a b)) (h1 : EX X F a ta G G1 r1 m1) (h2 : EX X F b tb G1 G2 r2 m2) (hm : behindInMarks op b = false) :
    EX X F (.Compare a [op] [b] pos) (tOp rr ta tb) G G2 rBool (bnd m1 fun a => bnd m2 fun b => f a b) := ⟨pe_cmpR ho h1.pe h2.pe hm, go_op hf hv h1.go h2.go⟩
theorem go_test {te : TE} {m : SM S Bool} (h : GE F te G G' rBool m) : GT F (tTest te) G G' m := by
  intro T t σ s H Q h0 q
  refine h T t σ s H _ h0 (wp_mono q (fun c s1 q1 v H1 at1 => ?_) fun _ _ z => z)
  obtain ⟨M, B, k, _⟩ := top_rel at1
  exact ⟨c, k, q1 H1 at1.pop⟩
theorem go_B {te : TE} {m : SM S Bool} (h : GE F te G G' rBool m) : GT F (tB te) G G' m := go_test h
theorem et_cmp {op : CmpOp} {rr : R2} {f : U → W → SM S Bool} (ho : OpR X (compareOp op) rr) (hv : VO2 X.K S r1 r2 rBool rr f) (hf : ∀ a b, Stl (f a b)) (h1 : EX X F a ta G G1 r1 m1) (h2 : EX X F b tb G1 G2 r2 m2) (hm : behindInMarks op b = false) :
    ET X F (.Compare a [op] [b] pos) (tTest (tOp rr ta tb)) G G2 (bnd m1 fun a => bnd m2 fun b => f a b) := ⟨pt_cmpR ho h1.pe h2.pe hm, go_test (go_op hf hv h1.go h2.go)⟩
theorem et_val {m : SM S Bool} (h : EX X F e te G G' rBool m) (he : ∀ whole, isTrue e X.env whole = (do let v ← whole; standAt e.pos; holding [v] (truthy v)) := by intro _; rfl) : ET X F e (tB te) G G' m := ⟨pt_val h.pe he, go_B h.go⟩
/-- names, constants -/
theorem ex_var (i : Nat) {a : U} {x : Str} (c : r.Cp) (hG : ∀ s, (G s)[i]? = some (.is r a)) (hN : X.N[i]? = some x := by rfl) (hv : Vis X.env.scope x := by first | exact Or.inl rfl | exact Or.inr (Or.inl rfl) | exact Or.inr (Or.inr rfl))
    (hd : (x == ("__debug__" : Str)) = false := by decide) (hcd : (x == ("__classdict__" : Str)) = false := by decide) : EX X F (.Name x pos) (tVar i) G G r (ret a) :=
  ⟨pe_var hN hv hd hcd, fun T t σ s H Q h q => by
    obtain ⟨v, e, at1⟩ := h.copy c (hG s)
    exact ⟨v, e, q v H at1⟩⟩
/-- a name whose thing is taken out of it -/
theorem ex_mv (i : Nat) {a : U} {x : Str} (hG : ∀ s, (G s)[i]? = some (.is r a)) (hN : X.N[i]? = some x := by rfl) (hv : Vis X.env.scope x := by first | exact Or.inl rfl | exact Or.inr (Or.inl rfl) | exact Or.inr (Or.inr rfl))
    (hd : (x == ("__debug__" : Str)) = false := by decide) (hcd : (x == ("__classdict__" : Str)) = false := by decide) : EX X F (.Name x pos) (tVar i) G (fun s => (G s).set i .un) r (ret a) :=
  ⟨pe_var hN hv hd hcd, fun T t σ s H Q h q => by
    obtain ⟨v, e, at1⟩ := h.move (hG s)
    exact ⟨v, e, q v H at1⟩⟩
theorem go_c {f : U → V} {a : U} : GE F (tC (f a)) G G (rPl f) (ret a) := fun T t σ s H Q h q => q _ H (h.push fun _ => ⟨rfl, rfl⟩)
theorem ex_int {i : Int} {j : Nat} : EX X F (.Constant (.int i) j pos) (tC (.int i)) G G rInt (ret i) := ⟨pe_int, go_c⟩
theorem ex_bool {i : Bool} {j : Nat} : EX X F (.Constant (.bool i) j pos) (tC (.bl i)) G G rBool (ret i) := ⟨pe_bl, go_c⟩
theorem ex_str {i : Str} {j : Nat} : EX X F (.Constant (.str i) j pos) (tC (.str i)) G G rStr (ret i) := ⟨pe_str, go_c⟩
theorem ex_none {j : Nat} : EX X F (.Constant .none j pos) (tC .non) G G rNon (ret ()) := ⟨pe_non, go_c (f := fun _ : Unit => V.non) (a := ())⟩
theorem ex_noneO {j : Nat} : EX X F (.Constant .none j pos) (tC .non) G G (rOpt r) (ret none) := ⟨pe_non, fun T t σ s H Q h q => q _ H (h.push fun _ => ⟨rfl, rfl⟩)⟩
/-- the answer read another way -/
theorem go_map {f : U → W} (h : GE F te G G' r1 m1) (k : ∀ a v M H B, r1.rel X.K M H v a B → r2.rel X.K M H v (f a) B) : GE F te G G' r2 (bnd m1 fun a => ret (f a)) := by
  intro T t σ s H Q h0 q
  refine h T t σ s H Q h0 (wp_mono (wp_bnd q) (fun a s1 q1 v H1 at1 => q1 v H1 ?_) fun _ _ z => z)
  obtain ⟨A1, A2, at1⟩ := at1
  refine ⟨A1, A2, ?_, at1.loc, at1.good⟩
  obtain ⟨B, A', eA, ⟨v', ev, hr⟩, ht⟩ := AtS.cons_inv at1.tmp
  subst eA
  exact .cons ⟨v', ev, k _ _ _ _ _ hr⟩ ht
theorem ex_some (h : EX X F e te G G' r m) : EX X F e te G G' (rOpt r) (bnd m fun a => ret (some a)) := ⟨h.pe, go_map h.go fun _ _ _ _ _ h => h⟩
theorem ex_freeze (h : EX X F e te G G' r m) : EX X F e te G G' (sh r) m := ⟨h.pe, fun T t σ s H Q h0 q => h.go T t σ s H Q h0 (wp_mono q (fun a s1 q1 v H1 at1 => q1 v H1 at1.freeze) fun _ _ z => z)⟩
theorem ex_unsh (c : r.Cp) (h : EX X F e te G G' (sh r) m) : EX X F e te G G' r m := ⟨h.pe, fun T t σ s H Q h0 q => h.go T t σ s H Q h0 (wp_mono q (fun a s1 q1 v H1 at1 => q1 v H1 (at1.unsh c)) fun _ _ z => z)⟩
/-- tuples -/
theorem ex_tup2 {x1 : Nat} (h1 : EX X F a ta G G1 r1 m1) (h2 : EX X F b tb G1 G2 r2 m2) (hs2 : PySem.W.isStarred a = false := by rfl) (hs1 : PySem.W.isStarred b = false := by rfl) : EX X F (.Tuple [a, b] x1 pos) (tTup (tCons ta (tCons tb tNil))) G G2 (rPair r1 r2) (bnd m1 fun a => bnd m2 fun b => ret (a, b)) :=
  ⟨pe_tup (pa_cons h1.pe (pa_cons h2.pe pa_nil (star1 hs1)) (star1 hs2)), fun T t σ s H Q h q => by
    refine h1.go T t σ s H _ h (wp_mono (wp_bnd q) (fun a s1 q1 v H1 at1 => ?_) fun _ _ z => z)
    refine h2.go _ _ σ s1 H1 _ at1 (wp_mono (wp_bnd q1) (fun b s2 q2 w H2 at2 => ?_) fun _ _ z => z)
    refine ⟨by show 2 ≤ sizeLine; decide, fun p hp => ?_⟩
    exact q2 _ _ (at2.tup2 hp)⟩
theorem ex_tup3 {c : Expr} {tc : TE} {m3 : SM S Z} {G3 : S → List Slot} {x1 : Nat} (h1 : EX X F a ta G G1 r1 m1) (h2 : EX X F b tb G1 G2 r2 m2) (h3 : EX X F c tc G2 G3 r3 m3) (hs3 : PySem.W.isStarred a = false := by rfl) (hs2 : PySem.W.isStarred b = false := by rfl) (hs1 : PySem.W.isStarred c = false := by rfl) : EX X F (.Tuple [a, b, c] x1 pos) (tTup (tCons ta (tCons tb (tCons tc tNil)))) G G3 (rTup3 r1 r2 r3) (bnd m1 fun a => bnd m2 fun b => bnd m3 fun c => ret (a, b, c)) :=
  ⟨pe_tup (pa_cons h1.pe (pa_cons h2.pe (pa_cons h3.pe pa_nil (star1 hs1)) (star1 hs2)) (star1 hs3)), fun T t σ s H Q h q => by
    refine h1.go T t σ s H _ h (wp_mono (wp_bnd q) (fun a s1 q1 v H1 at1 => ?_) fun _ _ z => z)
    refine h2.go _ _ σ s1 H1 _ at1 (wp_mono (wp_bnd q1) (fun b s2 q2 w H2 at2 => ?_) fun _ _ z => z)
    refine h3.go _ _ σ s2 H2 _ at2 (wp_mono (wp_bnd q2) (fun c s3 q3 u H3 at3 => ?_) fun _ _ z => z)
    refine ⟨by show 3 ≤ sizeLine; decide, fun p hp => ?_⟩
    exact q3 _ _ (at3.tup3 hp)⟩
/-- a if t else b -/
theorem ex_if {c : Expr} {tc : TT} {mc : SM S Bool} {mb : SM S U} (hc : ET X F c tc G G1 mc) (h1 : EX X F a ta G1 G2 r m) (h2 : EX X F b tb G1 G2 r mb) : EX X F (.IfExp c a b pos) (tIf tc ta tb) G G2 r (bnd mc fun k => if k then m else mb) :=
  ⟨pe_ifExp hc.pt h1.pe h2.pe, fun T t σ s H Q h q => by
    refine hc.go T t σ s H _ h (wp_mono (wp_bnd q) (fun k s1 q1 H1 at1 => ?_) fun _ _ z => z)
    cases k with
    | true => exact h1.go T t σ s1 H1 Q at1 q1
    | false => exact h2.go T t σ s1 H1 Q at1 q1⟩
/-- and, or, not -/
theorem ew_and1 {mc : SM S Bool} {tc : TT} (h : ET X F a tc G G1 mc) : EW X F (.BoolOp .And [a] pos) tc G G1 mc := ⟨pw_and1 h.pt, h.go⟩
theorem ew_or1 {mc : SM S Bool} {tc : TT} (h : ET X F a tc G G1 mc) : EW X F (.BoolOp .Or [a] pos) tc G G1 mc := ⟨pw_or1 h.pt, h.go⟩
theorem ew_and {rest : List Expr} {mc md : SM S Bool} {tc td : TT} (h : ET X F a tc G G1 mc) (h2 : EW X F (.BoolOp .And (b :: rest) pos) td G1 G1 md) : EW X F (.BoolOp .And (a :: b :: rest) pos) (tAnd tc td) G G1 (bnd mc fun k => if k then md else ret false) :=
  ⟨pw_and h.pt h2.pw, fun T t σ s H Q h0 q => by
    refine h.go T t σ s H _ h0 (wp_mono (wp_bnd q) (fun k s1 q1 H1 at1 => ?_) fun _ _ z => z)
    cases k with
    | true => exact h2.go T t σ s1 H1 Q at1 q1
    | false => exact q1 H1 at1⟩
theorem ew_or {rest : List Expr} {mc md : SM S Bool} {tc td : TT} (h : ET X F a tc G G1 mc) (h2 : EW X F (.BoolOp .Or (b :: rest) pos) td G1 G1 md) : EW X F (.BoolOp .Or (a :: b :: rest) pos) (tOr tc td) G G1 (bnd mc fun k => if k then ret true else md) :=
  ⟨pw_or h.pt h2.pw, fun T t σ s H Q h0 q => by
    refine h.go T t σ s H _ h0 (wp_mono (wp_bnd q) (fun k s1 q1 H1 at1 => ?_) fun _ _ z => z)
    cases k with
    | true => exact q1 H1 at1
    | false => exact h2.go T t σ s1 H1 Q at1 q1⟩
theorem et_w {tc : TT} {mc : SM S Bool} (h : EW X F e tc G G1 mc) : ET X F e tc G G1 mc := ⟨h.pw.pt, h.go⟩
theorem et_not {tc : TT} {mc : SM S Bool} (h : ET X F a tc G G1 mc) : ET X F (.UnaryOp .Not a pos) (tNot tc) G G1 (bnd mc fun k => ret (!k)) :=
  ⟨pt_not h.pt, fun T t σ s H Q h0 q => h.go T t σ s H _ h0 (wp_mono (wp_bnd q) (fun k s1 q1 H1 at1 => q1 H1 at1) fun _ _ z => z)⟩
theorem ex_not {mc : SM S Bool} (h : EX X F a ta G G1 rBool mc) : EX X F (.UnaryOp .Not a pos) (tNotV ta) G G1 rBool (bnd mc fun k => ret (!k)) :=
  ⟨pe_not h.pe, fun T t σ s H Q h0 q => h.go T t σ s H _ h0 (wp_mono (wp_bnd q) (fun k s1 q1 v H1 at1 => by
    obtain ⟨M, B, e, _⟩ := top_rel at1
    exact ⟨k, e, q1 _ H1 (at1.pop.push fun _ => ⟨rfl, rfl⟩)⟩) fun _ _ z => z)⟩
theorem ex_one {op : BoolOp} {mc : SM S Bool} (h : EX X F a ta G G1 rBool mc) : EX X F (.BoolOp op [a] pos) ta G G1 rBool mc := ⟨pe_one h.pe, h.go⟩
theorem ex_and {rest : List Expr} {mc md : SM S Bool} (h : EX X F a ta G G1 rBool mc) (h2 : EX X F (.BoolOp .And (b :: rest) pos) tb G1 G1 rBool md) : EX X F (.BoolOp .And (a :: b :: rest) pos) (tAndV ta tb) G G1 rBool (bnd mc fun k => if k then md else ret false) :=
  ⟨pe_and h.pe h2.pe, fun T t σ s H Q h0 q => h.go T t σ s H _ h0 (wp_mono (wp_bnd q) (fun k s1 q1 v H1 at1 => by
    obtain ⟨M, B, e, _⟩ := top_rel at1
    refine ⟨k, e, ?_⟩
    cases k with
    | true => exact h2.go T t σ s1 H1 Q at1.pop q1
    | false => exact q1 _ H1 (at1.pop.push fun _ => ⟨rfl, rfl⟩)) fun _ _ z => z)⟩
theorem ex_or {rest : List Expr} {mc md : SM S Bool} (h : EX X F a ta G G1 rBool mc) (h2 : EX X F (.BoolOp .Or (b :: rest) pos) tb G1 G1 rBool md) : EX X F (.BoolOp .Or (a :: b :: rest) pos) (tOrV ta tb) G G1 rBool (bnd mc fun k => if k then ret true else md) :=
  ⟨pe_or h.pe h2.pe, fun T t σ s H Q h0 q => h.go T t σ s H _ h0 (wp_mono (wp_bnd q) (fun k s1 q1 v H1 at1 => by
    obtain ⟨M, B, e, _⟩ := top_rel at1
    refine ⟨k, e, ?_⟩
    cases k with
    | true => exact q1 _ H1 (at1.pop.push fun _ => ⟨rfl, rfl⟩)
    | false => exact h2.go T t σ s1 H1 Q at1.pop q1) fun _ _ z => z)⟩
end
end Td

set_option Elab.async false
set_option linter.all false
set_option maxRecDepth 100000
set_option maxHeartbeats 4000000
namespace Td
open PySem PySem.Spec PyProof.Rows L2

section
variable {K : PySem.W.Frag} {S : Type} {F : FC K S} {T : List Slot} {t : List V} {G : List Slot} {σ : L2.St} {H : Hp}
/-- what lies under the top temp goes -/
theorem At.dropU {g : Slot} {v : V} : ∀ {T1 : List Slot} {t1 : List V}, t1.length = T1.length → At F (g :: (T1 ++ T)) (v :: (t1 ++ t)) G σ H → At F (g :: T) (v :: t) G σ H := by
  intro T1 t1 e h
  obtain ⟨A1, A2, h⟩ := h
  have nd := h.good.nd
  obtain ⟨B, A', eA, h1, ht⟩ := AtS.cons_inv h.tmp
  rw [List.map_append] at ht
  obtain ⟨C, D, eC, h2, h3⟩ := AtS.split (by rw [List.length_map, e]) ht
  subst eA eC
  have hM : ∀ x, x ∈ B ++ D ++ A2 ++ F.M0 → x ∈ B ++ (C ++ D) ++ A2 ++ F.M0 ∨ H x = none := fun x hx => .inl (by simp only [List.mem_append] at *; grind)
  exact ⟨B ++ D, A2, .cons (Slot.ok_grow h1 hM) (h3.grow hM), h.loc.grow hM, h.good.sub (by simp only [List.nodup_append, List.mem_append] at *; grind) fun x hx => by simp only [List.mem_append] at *; grind⟩
theorem At.dropM {T0 T1 : List Slot} {t0 t1 : List V} (e0 : t0.length = T0.length) (e : t1.length = T1.length) (h : At F (T0 ++ (T1 ++ T)) (t0 ++ (t1 ++ t)) G σ H) : At F (T0 ++ T) (t0 ++ t) G σ H := by
  obtain ⟨A1, A2, h⟩ := h
  have nd := h.good.nd
  have ht := h.tmp
  rw [List.map_append, List.map_append] at ht
  obtain ⟨B, A', eA, h1, ht⟩ := AtS.split (by rw [List.length_map, e0]) ht
  obtain ⟨C, D, eC, h2, h3⟩ := AtS.split (by rw [List.length_map, e]) ht
  subst eA eC
  have hM : ∀ x, x ∈ B ++ D ++ A2 ++ F.M0 → x ∈ B ++ (C ++ D) ++ A2 ++ F.M0 ∨ H x = none := fun x hx => .inl (by simp only [List.mem_append] at *; grind)
  refine ⟨B ++ D, A2, ?_, h.loc.grow hM, h.good.sub (by simp only [List.nodup_append, List.mem_append] at *; grind) fun x hx => by simp only [List.mem_append] at *; grind⟩
  rw [List.map_append]
  exact (h1.grow hM).append (h3.grow hM)
/-- the arguments used up, a thing that owns nothing comes -/
theorem AtP.fin {L : List Arg} {ts vs : List V} {A1 A2 : List Addr} (h : AtP F ((tmps L).reverse ++ T) (ts.reverse ++ t) G σ H A1 A2) (av : ArgV σ L ts vs) {U : Type} {r : Rp U} {u : V} {a : U} (hr : r.rel K (A1 ++ A2 ++ F.M0) H u a []) : At F (.is r a :: T) (u :: t) G σ H :=
  At.dropU (by simp [(argV_len av).2]) (⟨A1, A2, .cons (B := []) ⟨u, rfl, hr⟩ h.tmp, h.loc, h.good⟩ : At F (.is r a :: ((tmps L).reverse ++ T)) (u :: (ts.reverse ++ t)) G σ H)
/-- .. and stay -/
theorem AtP.pushM {A1 A2 : List Addr} (h : AtP F T t G σ H A1 A2) {U : Type} {r : Rp U} {u : V} {a : U} (hr : r.rel K (A1 ++ A2 ++ F.M0) H u a []) : AtP F (.is r a :: T) (u :: t) G σ H A1 A2 :=
  ⟨.cons (B := []) ⟨u, rfl, hr⟩ h.tmp, h.loc, h.good⟩
theorem rddM {ts vs : List V} {L : List Arg} {j : Nat} {arg : Arg} {U : Type} {r : Rp U} {a : U} {A1 A2 : List Addr} (h : AtP F ((tmps L).reverse ++ T) (ts.reverse ++ t) G σ H A1 A2) (av : ArgV σ L ts vs) (e : L[j]? = some arg) (rd : Rdd G arg r a) :
    ∃ v B, vs[j]? = some v ∧ r.rel K (A1 ++ A2 ++ F.M0) H v a B := by
  have tmp : ∀ {g : Slot}, L[j]? = some (.t g) → ∃ v B, vs[j]? = some v ∧ g.ok K (A1 ++ A2 ++ F.M0) H (some v) B := by
    intro g e
    obtain ⟨k, v, h1, h2, h3⟩ := argV_tmp av e
    obtain ⟨x, B, e1, h4, _⟩ := h.tmp.mem (rev_get h1 T)
    rw [← (argV_len av).2, List.map_append, List.map_reverse] at e1
    have h2' : (ts.map some)[k]? = some (some v) := by rw [List.getElem?_map, h2]; rfl
    have z := rev_get h2' (t.map some)
    rw [List.length_map, e1] at z
    cases z
    exact ⟨v, B, h3, h4⟩
  have loc : ∀ {i : Nat} {g : Slot}, L[j]? = some (.v i) → G[i]? = some g → ∃ v B, vs[j]? = some v ∧ g.ok K (A1 ++ A2 ++ F.M0) H (some v) B := by
    intro i g e eg
    obtain ⟨v, h1, h2⟩ := argV_var av e
    obtain ⟨x, B, e1, h4, _⟩ := h.loc.mem eg
    rw [h2] at e1
    cases e1
    exact ⟨v, B, h1, h4⟩
  cases rd with
  | t =>
    obtain ⟨v, B, h1, v', e', h2⟩ := tmp e
    cases e'
    exact ⟨v, B, h1, h2⟩
  | ts =>
    obtain ⟨v, B, h1, v', e', h2⟩ := tmp e
    cases e'
    obtain ⟨_, A, h3, _⟩ := h2
    exact ⟨v, A, h1, h3⟩
  | v eg =>
    obtain ⟨v, B, h1, v', e', h2⟩ := loc e eg
    cases e'
    exact ⟨v, B, h1, h2⟩
  | vs eg =>
    obtain ⟨v, B, h1, v', e', h2⟩ := loc e eg
    cases e'
    obtain ⟨_, A, h3, _⟩ := h2
    exact ⟨v, A, h1, h3⟩
  | pn eg =>
    obtain ⟨v, B, h1, e', h2⟩ := loc e eg
    cases e'
    exact ⟨_, B, h1, h2⟩
/-- shared arguments -/
inductive RdS {U : Type} (G : List Slot) : Arg → Rp U → U → Prop
  | t {r a} : RdS G (.t (.is (sh r) a)) r a
  | v {i r a} (e : G[i]? = some (.is (sh r) a)) : RdS G (.v i) r a
  | tc {r a} (c : r.Cp) : RdS G (.t (.is r a)) r a
  | vc {i r a} (c : r.Cp) (e : G[i]? = some (.is r a)) : RdS G (.v i) r a
theorem rdS {ts vs : List V} {L : List Arg} {j : Nat} {arg : Arg} {U : Type} {r : Rp U} {a : U} {A1 A2 : List Addr} (h : AtP F ((tmps L).reverse ++ T) (ts.reverse ++ t) G σ H A1 A2) (av : ArgV σ L ts vs) (e : L[j]? = some arg) (rd : RdS G arg r a) :
    ∃ v, vs[j]? = some v ∧ (sh r).rel K (A1 ++ A2 ++ F.M0) H v a [] := by
  cases rd with
  | t =>
    obtain ⟨v, B, h1, eB, A, h3⟩ := rddM (r := sh r) h av e .t
    exact ⟨v, h1, rfl, A, h3⟩
  | v eg =>
    obtain ⟨v, B, h1, eB, A, h3⟩ := rddM (r := sh r) h av e (.v eg)
    exact ⟨v, h1, rfl, A, h3⟩
  | tc c =>
    obtain ⟨v, B, h1, h3⟩ := rddM h av e .t
    have eB := c h3
    subst eB
    exact ⟨v, h1, rfl, [], h3, fun _ z => by cases z⟩
  | vc c eg =>
    obtain ⟨v, B, h1, h3⟩ := rddM h av e (.v eg)
    have eB := c h3
    subst eB
    exact ⟨v, h1, rfl, [], h3, fun _ z => by cases z⟩
/-- an operand -/
def GO (F : FC K S) {U : Type} (te : TE) (G G' : S → List Slot) (arg : U → Arg) (m : SM S U) : Prop :=
  ∀ (T : List Slot) (t : List V) (σ : L2.St) (s : S) (H : Hp) (Q : VK), At F T t (G s) σ H →
    (m s).wp (fun a s' => ∀ ts v H', At F ((tmps [arg a]).reverse ++ T) (ts.reverse ++ t) (G' s') σ H' → ArgV σ [arg a] ts [v] → Q v H') (XP F σ) → te σ H Q
end

structure EO (X : Cx) {S : Type} (F : FC X.K S) {U : Type} (e : Expr) (te : TE) (G G' : S → List Slot) (arg : U → Arg) (m : SM S U) : Prop where
  pe : PE X e te
  go : GO F te G G' arg m
section
variable {X : Cx} {S : Type} {F : FC X.K S} {U W Z : Type} {r r1 : Rp U} {r2 : Rp W} {r3 : Rp Z} {e a b : Expr} {es : List Expr} {te ta tb : TE} {tr : TA} {G G1 G2 G' : S → List Slot} {m m1 : SM S U} {m2 : SM S W} {pos : Pos} {arg : U → Arg} {L : W → List Arg}
theorem eo_t (h : EX X F e te G G' r m) : EO X F e te G G' (fun a => .t (.is r a)) m :=
  ⟨h.pe, fun T t σ s H Q h0 q => h.go T t σ s H Q h0 (wp_mono q (fun a s1 q1 v H1 at1 => q1 [v] v H1 (by simpa [tmps] using at1) (.t .nil)) fun _ _ z => z)⟩
theorem eo_v (i : Nat) {g : S → Slot} {x : Str} {a : U} (hG : ∀ s, (G s)[i]? = some (g s)) (hs : ∀ s v, v = none → ∀ M H B, ¬ (g s).ok X.K M H v B) (hN : X.N[i]? = some x := by rfl) (hv : Vis X.env.scope x := by first | exact Or.inl rfl | exact Or.inr (Or.inl rfl) | exact Or.inr (Or.inr rfl))
    (hd : (x == ("__debug__" : Str)) = false := by decide) (hcd : (x == ("__classdict__" : Str)) = false := by decide) : EO X F (.Name x pos) (tVar i) G G (fun _ : U => .v i) (ret a) :=
  ⟨pe_var hN hv hd hcd, fun T t σ s H Q h q => by
    obtain ⟨A1, A2, h0⟩ := id h
    obtain ⟨x, B, e1, h1, _⟩ := h0.loc.mem (hG s)
    cases x with
    | none => exact (hs s none rfl _ _ _ h1).elim
    | some v => exact ⟨v, e1, q [] v H (by simpa [tmps] using h) (.v e1 .nil)⟩⟩
theorem is_some {r : Rp U} {a : U} {K : PySem.W.Frag} : ∀ v, v = none → ∀ M H B, ¬ (Slot.is r a).ok K M H v B := fun v e M H B z => by
  obtain ⟨u, z, _⟩ := z
  rw [e] at z; cases z
theorem pn_some {r : Rp U} {a : U} {w : V} {K : PySem.W.Frag} : ∀ v, v = none → ∀ M H B, ¬ (Slot.pn w r a).ok K M H v B := fun v e M H B z => by
  obtain ⟨z, _⟩ := z
  rw [e] at z; cases z
/-- a name read where it stands -/
theorem eo_is (i : Nat) {a : U} {x : Str} (hG : ∀ s, (G s)[i]? = some (.is r a)) (hN : X.N[i]? = some x := by rfl) (hv : Vis X.env.scope x := by first | exact Or.inl rfl | exact Or.inr (Or.inl rfl) | exact Or.inr (Or.inr rfl))
    (hd : (x == ("__debug__" : Str)) = false := by decide) (hcd : (x == ("__classdict__" : Str)) = false := by decide) : EO X F (.Name x pos) (tVar i) G G (fun _ : U => .v i) (ret a) := eo_v i hG (fun _ => is_some) hN hv hd hcd
theorem eo_own (i : Nat) {b : Z} {a : U} {x : Str} (hG : ∀ s, (G s)[i]? = some (.is r3 b)) (hN : X.N[i]? = some x := by rfl) (hv : Vis X.env.scope x := by first | exact Or.inl rfl | exact Or.inr (Or.inl rfl) | exact Or.inr (Or.inr rfl))
    (hd : (x == ("__debug__" : Str)) = false := by decide) (hcd : (x == ("__classdict__" : Str)) = false := by decide) : EO X F (.Name x pos) (tVar i) G G (fun _ : U => .v i) (ret a) := eo_v i hG (fun _ => is_some) hN hv hd hcd
theorem eo_pn (i : Nat) {w : S → V} {f : S → Z} {a : U} {x : Str} (hG : ∀ s, (G s)[i]? = some (.pn (w s) r3 (f s))) (hN : X.N[i]? = some x := by rfl) (hv : Vis X.env.scope x := by first | exact Or.inl rfl | exact Or.inr (Or.inl rfl) | exact Or.inr (Or.inr rfl))
    (hd : (x == ("__debug__" : Str)) = false := by decide) (hcd : (x == ("__classdict__" : Str)) = false := by decide) : EO X F (.Name x pos) (tVar i) G G (fun _ : U => .v i) (ret a) := eo_v i hG (fun _ => pn_some) hN hv hd hcd
theorem ea_nil : EA X F [] tNil G G (fun _ : Unit => []) (ret ()) := ⟨pa_nil, ga_nil⟩
theorem tmps_cons (g : Arg) (L : List Arg) : tmps (g :: L) = tmps [g] ++ tmps L := by cases g <;> rfl
theorem argV_cons {σ : L2.St} {g : Arg} {L : List Arg} {ts us ws : List V} {v : V} (h : ArgV σ [g] ts [v]) (h2 : ArgV σ L us ws) : ArgV σ (g :: L) (ts ++ us) (v :: ws) := by
  cases h with
  | t h => cases h; exact .t h2
  | v e h => cases h; exact .v e h2
theorem ea_cons (h1 : EO X F e te G G1 arg m1) (h2 : EA X F es tr G1 G2 L m2) (hs : PySem.W.isStarred e = false := by rfl) :
    EA X F (e :: es) (tCons te tr) G G2 (fun p : U × W => arg p.1 :: L p.2) (bnd m1 fun a => bnd m2 fun b => ret (a, b)) :=
  ⟨pa_cons h1.pe h2.pa (star1 hs), fun T t σ s H Q h q => by
    refine h1.go T t σ s H _ h (wp_mono (wp_bnd q) (fun a s1 q1 ts v H1 at1 av1 => ?_) fun _ _ z => z)
    refine h2.go _ _ σ s1 H1 _ at1 (wp_mono (wp_bnd q1) (fun b s2 q2 us ws H2 at2 av2 => ?_) fun _ _ z => z)
    refine q2 (ts ++ us) (v :: ws) H2 ?_ (argV_cons av1 av2)
    rw [tmps_cons]
    simpa using at2⟩
/-- a two-place operation over arguments -/
theorem go_argop {A : Type} {LA : A → List Arg} {mA : SM S A} {rr : R2} {f : A → SM S Z} (h : GA F (tCons ta (tCons tb tNil)) G G' LA mA) (hl : ∀ a, (LA a).length = 2) (hf : ∀ a, Stl (f a))
    (hv : ∀ (a : A) (s : S) (T : List Slot) (t ts : List V) (x y : V) (σ : L2.St) (H : Hp) (Q : VK) (A1 A2 : List Addr), AtP F ((tmps (LA a)).reverse ++ T) (ts.reverse ++ t) (G' s) σ H A1 A2 → ArgV σ (LA a) ts [x, y] →
      (f a s).wp (fun c s' => s' = s ∧ ∀ u, At F (.is r3 c :: T) (u :: t) (G' s) σ H → Q u H) (fun _ _ => True) → rr x y H Q) : GE F (tOp rr ta tb) G G' r3 (bnd mA f) := by
  intro T t σ s H Q h0 q
  refine h T t σ s H (fun vs H => match vs with | [x, y] => rr x y H Q | _ => False) h0 (wp_mono (wp_bnd q) (fun a s1 q1 ts vs H1 at1 av => ?_) fun _ _ z => z)
  obtain ⟨A1, A2, at1⟩ := at1
  have key : ∀ x y, ArgV σ (LA a) ts [x, y] → rr x y H1 Q := fun x y av => by
    refine hv a s1 T t ts x y σ H1 Q A1 A2 at1 av (wp_mono ((hf a).wp (E' := fun _ _ => True) q1) (fun c s2 q2 => ?_) fun _ _ _ => trivial)
    obtain ⟨e, q2⟩ := q2
    subst e
    exact ⟨rfl, fun u hu => q2 u H1 hu⟩
  have len := (argV_len av).1
  rw [hl a] at len
  match vs, av, len with
  | [x, y], av, _ => exact key x y av
/-- .. a call's -/
theorem go_argcall {A : Type} {LA : A → List Arg} {mA : SM S A} {rr : List V → Hp → VK → Prop} {ta : TA} {f : A → SM S Z} (h : GA F ta G G' LA mA) (hf : ∀ a, Stl (f a))
    (hv : ∀ (a : A) (s : S) (T : List Slot) (t ts vs : List V) (σ : L2.St) (H : Hp) (Q : VK) (A1 A2 : List Addr), AtP F ((tmps (LA a)).reverse ++ T) (ts.reverse ++ t) (G' s) σ H A1 A2 → ArgV σ (LA a) ts vs →
      (f a s).wp (fun c s' => s' = s ∧ ∀ u H', At F (.is r3 c :: T) (u :: t) (G' s) σ H' → Q u H') (fun _ _ => True) → rr vs H Q) : GE F (tCB rr ta) G G' r3 (bnd mA f) := by
  intro T t σ s H Q h0 q
  refine h T t σ s H _ h0 (wp_mono (wp_bnd q) (fun a s1 q1 ts vs H1 at1 av => ?_) fun _ _ z => z)
  obtain ⟨A1, A2, at1⟩ := at1
  refine hv a s1 T t ts vs σ H1 Q A1 A2 at1 av (wp_mono ((hf a).wp (E' := fun _ _ => True) q1) (fun c s2 q2 => ?_) fun _ _ _ => trivial)
  obtain ⟨e, q2⟩ := q2
  subst e
  exact ⟨rfl, q2⟩

/-! ### items -/
def ixM {S T : Type} (xs : List T) (i : Int) : SM S T := match atI xs i with
  | some a => ret a
  | none => stk
theorem stl_ixM {T : Type} (xs : List T) (i : Int) : Stl (ixM xs i : SM S T) := by
  unfold ixM
  cases atI xs i with
  | none => exact stl_stk
  | some a => exact stl_ret a
theorem wp_ixM {T : Type} {xs : List T} {i : Int} {s : S} {P : T → S → Prop} {E : Exn → S → Prop} (h : (ixM xs i s).wp P E) : ∃ a, atI xs i = some a ∧ P a s := by
  unfold ixM at h
  cases e : atI xs i with
  | none => rw [e] at h; exact h.elim
  | some a => rw [e] at h; exact ⟨a, rfl, h⟩
theorem atI_all {K : PySem.W.Frag} {T : Type} {R : V → T → List Addr → Prop} {vs : List V} {as : List T} {A : List Addr} (h : All3 R vs as A) {i : Int} {a : T} (e : atI as i = some a) : ∃ v B, atI vs i = some v ∧ R v a B ∧ ∀ p, p ∈ B → p ∈ A := by
  unfold atI at e ⊢
  rw [h.length]
  cases q : ixN as.length i with
  | none => rw [q] at e; cases e
  | some j =>
    rw [q] at e
    exact h.get' (i := j) e
section
variable {A : Type} {LA : A → List Arg} {mA : SM S A} {xs : A → List Z} {ix : A → Int} {argX argI : A → Arg}
/-- xs[i], the item owning nothing -/
theorem ex_ixL (h : EA X F [a, b] (tCons ta (tCons tb tNil)) G G' LA mA) (hL : ∀ a, LA a = [argX a, argI a]) (c : r3.Cp) (hx : ∀ a s, Rdd (G' s) (argX a) (rList r3) (xs a)) (hi : ∀ a s, Rdd (G' s) (argI a) rInt (ix a)) (hs : PlainIx b := by exact fun _ _ => rfl) (p1 : PE X a ta) (p2 : PE X b tb) :
    EX X F (.Subscript a b pos) (tOp (rIxL X.K) ta tb) G G' r3 (bnd mA fun a => ixM (xs a) (ix a)) :=
  ⟨pe_ix ix_list p1 p2 hs, go_argop h.go (fun a => by rw [hL]; rfl) (fun a => stl_ixM _ _) fun a s T t ts x y σ H Q A1 A2 at1 av q => by
    obtain ⟨v, B, e1, p, vs, A, ev, hp, hA, eB⟩ := rddM (j := 0) at1 av (by rw [hL]; rfl) (hx a s)
    obtain ⟨w, B', e2, ew, _⟩ := rddM (j := 1) at1 av (by rw [hL]; rfl) (hi a s)
    cases e1; cases e2
    obtain ⟨z, ez, _, q⟩ := wp_ixM q
    obtain ⟨u, Bu, e3, hr, _⟩ := atI_all (K := X.K) hA ez
    have eBu := c hr
    subst eBu
    exact ⟨p, vs, ix a, u, ev, ew, SqL.of hp, e3, q u (at1.fin av hr)⟩⟩
/-- .. the item shared -/
theorem ex_ixLs (h : EA X F [a, b] (tCons ta (tCons tb tNil)) G G' LA mA) (hL : ∀ a, LA a = [argX a, argI a]) (hx : ∀ a s, RdS (G' s) (argX a) (rList r3) (xs a)) (hi : ∀ a s, Rdd (G' s) (argI a) rInt (ix a)) (hs : PlainIx b := by exact fun _ _ => rfl) (p1 : PE X a ta) (p2 : PE X b tb) :
    EX X F (.Subscript a b pos) (tOp (rIxL X.K) ta tb) G G' (sh r3) (bnd mA fun a => ixM (xs a) (ix a)) :=
  ⟨pe_ix ix_list p1 p2 hs, go_argop h.go (fun a => by rw [hL]; rfl) (fun a => stl_ixM _ _) fun a s T t ts x y σ H Q A1 A2 at1 av q => by
    obtain ⟨v, e1, _, C, ⟨p, vs, A, ev, hp, hA, eC⟩, hC⟩ := rdS (j := 0) at1 av (by rw [hL]; rfl) (hx a s)
    obtain ⟨w, B', e2, ew, _⟩ := rddM (j := 1) at1 av (by rw [hL]; rfl) (hi a s)
    cases e1; cases e2
    obtain ⟨z, ez, _, q⟩ := wp_ixM q
    obtain ⟨u, Bu, e3, hr, sub⟩ := atI_all (K := X.K) hA ez
    exact ⟨p, vs, ix a, u, ev, ew, SqL.of hp, e3, q u (at1.fin (r := sh r3) av ⟨rfl, Bu, hr, fun x hx => hC x (by rw [eC]; exact List.mem_cons_of_mem _ (sub x hx))⟩)⟩⟩
end
/-- a place of a tuple: R says at which place stands what -/
def Plc (K : PySem.W.Frag) {U W : Type} (R : Rp U) (i : Int) (r : Rp W) (f : U → W) : Prop :=
  ∀ {M H v a B}, R.rel K M H v a B → ∃ p vs u B', v = .ref p ∧ SqT K H p vs ∧ atI vs i = some u ∧ r.rel K M H u (f a) B' ∧ ∀ x, x ∈ B' → x ∈ B
theorem plc2_0 {K : PySem.W.Frag} : Plc K (rPair r1 r2) 0 r1 (fun p => p.1) := by
  rintro M H v a B ⟨p, v1, v2, B1, B2, e, hT, h1, h2, eB⟩
  exact ⟨p, _, v1, B1, e, hT, rfl, h1, fun x hx => by rw [eB]; exact List.mem_append_left _ hx⟩
theorem plc2_1 {K : PySem.W.Frag} : Plc K (rPair r1 r2) 1 r2 (fun p => p.2) := by
  rintro M H v a B ⟨p, v1, v2, B1, B2, e, hT, h1, h2, eB⟩
  exact ⟨p, _, v2, B2, e, hT, rfl, h2, fun x hx => by rw [eB]; exact List.mem_append_right _ hx⟩
theorem plc3_0 {K : PySem.W.Frag} : Plc K (rTup3 r1 r2 r3) 0 r1 (fun p => p.1) := by
  rintro M H v a B ⟨p, v1, v2, v3, B1, B2, B3, e, hT, h1, h2, h3, eB⟩
  exact ⟨p, _, v1, B1, e, hT, rfl, h1, fun x hx => by rw [eB]; exact List.mem_append_left _ hx⟩
theorem plc3_1 {K : PySem.W.Frag} : Plc K (rTup3 r1 r2 r3) 1 r2 (fun p => p.2.1) := by
  rintro M H v a B ⟨p, v1, v2, v3, B1, B2, B3, e, hT, h1, h2, h3, eB⟩
  exact ⟨p, _, v2, B2, e, hT, rfl, h2, fun x hx => by rw [eB]; exact List.mem_append_right _ (List.mem_append_left _ hx)⟩
theorem plc3_2 {K : PySem.W.Frag} : Plc K (rTup3 r1 r2 r3) 2 r3 (fun p => p.2.2) := by
  rintro M H v a B ⟨p, v1, v2, v3, B1, B2, B3, e, hT, h1, h2, h3, eB⟩
  exact ⟨p, _, v3, B3, e, hT, rfl, h3, fun x hx => by rw [eB]; exact List.mem_append_right _ (List.mem_append_right _ hx)⟩
section
variable {R : Rp W} {f : W → Z} {xs : U → W} {i : Int} {j : Nat} {p1 : Pos}
/-- t[0], t[1], .. of a tuple -/
theorem ex_plc (h : EO X F a ta G G' arg m) (hp : Plc X.K R i r3 f) (c : r3.Cp) (hx : ∀ a s, Rdd (G' s) (arg a) R (xs a)) :
    EX X F (.Subscript a (.Constant (.int i) j p1) pos) (tOp (rIxT X.K) ta (tC (.int i))) G G' r3 (bnd m fun a => ret (f (xs a))) :=
  ⟨pe_ix ix_tup h.pe pe_int fun _ _ => rfl, fun T t σ s H Q h0 q => h.go T t σ s H _ h0 (wp_mono (wp_bnd q) (fun a s1 q1 ts v H1 at1 av => by
    obtain ⟨A1, A2, at1⟩ := at1
    obtain ⟨v', B, e1, hr⟩ := rddM (j := 0) at1 av rfl (hx a s1)
    cases e1
    obtain ⟨p, vs, u, B', ev, hT, ei, hu, sub⟩ := hp hr
    have eB := c hu
    subst eB
    exact ⟨p, vs, i, u, ev, rfl, hT, ei, q1 u H1 (at1.fin av hu)⟩) fun _ _ z => z)⟩
theorem ex_plcS (h : EO X F a ta G G' arg m) (hp : Plc X.K R i r3 f) (hx : ∀ a s, RdS (G' s) (arg a) R (xs a)) :
    EX X F (.Subscript a (.Constant (.int i) j p1) pos) (tOp (rIxT X.K) ta (tC (.int i))) G G' (sh r3) (bnd m fun a => ret (f (xs a))) :=
  ⟨pe_ix ix_tup h.pe pe_int fun _ _ => rfl, fun T t σ s H Q h0 q => h.go T t σ s H _ h0 (wp_mono (wp_bnd q) (fun a s1 q1 ts v H1 at1 av => by
    obtain ⟨A1, A2, at1⟩ := at1
    obtain ⟨v', e1, _, C, hr, hC⟩ := rdS (j := 0) at1 av rfl (hx a s1)
    cases e1
    obtain ⟨p, vs, u, B', ev, hT, ei, hu, sub⟩ := hp hr
    exact ⟨p, vs, i, u, ev, rfl, hT, ei, q1 u H1 (at1.fin (r := sh r3) av ⟨rfl, B', hu, fun x hx => hC x (sub x hx)⟩)⟩) fun _ _ z => z)⟩
end
end
end Td

set_option Elab.async false
set_option linter.all false
set_option maxRecDepth 100000
set_option maxHeartbeats 4000000
namespace Td
open PySem PySem.Spec PyProof.Rows L2

section
variable {K : PySem.W.Frag} {S : Type} {F : FC K S} {T : List Slot} {t : List V} {G : List Slot} {σ : L2.St} {H : Hp}
/-- the heap with one owned list changed: what does not own it stays -/
theorem keep_upd {M B : List Addr} {D : Addr} {vs : List V} {o' : HO} (hD : H D = some (.lst vs)) (hM : D ∈ M) (hB : D ∉ B) : ∀ p o, H p = some o → (p ∉ M ∨ p ∈ B ∨ isTup o = true) → upd H D o' p = some o := by
  intro p o e hp
  have ne : p ≠ D := by
    rintro rfl
    rcases hp with z | z | z
    · exact z hM
    · exact hB z
    · rw [hD] at e; cases e; cases z
  rw [upd_ne ne]; exact e
theorem good_upd {D : Addr} {vs ws : List V} {A A' : List Addr} (g : Good F H A) (hD : H D = some (.lst vs)) (hA : D ∈ A) (nd : A'.Nodup) (sub : ∀ p, p ∈ A' → p ∈ A) : Good F (upd H D (.lst ws)) A' := by
  have g' := g.sub nd sub
  refine ⟨g'.nd, g'.out, g'.new, fun p hp => ?_, fun p o e hI => ?_, g'.m0⟩
  · obtain ⟨o, ho, z⟩ := g.has p hp
    by_cases h : p = D
    · subst h; exact ⟨_, upd_same, rfl⟩
    · exact ⟨o, by rw [upd_ne h]; exact ho, z⟩
  · have ne : p ≠ D := by
      rintro rfl
      rcases g.new p hA with z | z
      · rw [z] at e; cases e
      · exact hI z
    rw [upd_ne ne]
    exact g.stay p o e hI
/-- a list in slot i is changed: what its items and the temps own is given anew -/
theorem AtP.mutS {i : Nat} {U : Type} {r : Rp U} {xs : List U} {A1 A2 : List Addr} (h : AtP F T t G σ H A1 A2) (e : G[i]? = some (.is (rList r) xs)) :
    ∃ D vs B, σ[i]? = some (some (.ref D)) ∧ H D = some (.lst vs) ∧ All3 (r.rel K (A1 ++ A2 ++ F.M0) H) vs xs B ∧ vs.length = xs.length ∧ (B ++ A1).Nodup ∧
      ∀ (ws : List V) (ys : List U) (B' : List Addr) (T' : List Slot) (t' : List V) (A1' : List Addr), All3 (r.rel K (A1 ++ A2 ++ F.M0) H) ws ys B' → AtS K (A1 ++ A2 ++ F.M0) H T' (t'.map some) A1' →
        (B' ++ A1').Nodup → (∀ p, p ∈ B' ++ A1' → p ∈ B ++ A1) → At F T' t' (G.set i (.is (rList r) ys)) σ (upd H D (.lst ws)) := by
  obtain ⟨x, C, P1, P2, e1, ⟨v, ev, D, vs, B, ed, hD, hA, eC⟩, eA, back⟩ := h.loc.at_ e
  subst ev ed eC eA
  have nd := h.good.nd
  refine ⟨D, vs, B, e1, hD, hA, hA.length, by simp only [List.cons_append, List.nodup_append, List.nodup_cons, List.mem_cons, List.mem_append] at *; grind, fun ws ys B' T' t' A1' h1 h2 nd' sub => ?_⟩
  have hM : ∀ x, x ∈ A1' ++ (P1 ++ ((D :: B') ++ P2)) ++ F.M0 → x ∈ A1 ++ (P1 ++ ((D :: B) ++ P2)) ++ F.M0 ∨ H x = none := fun x hx => .inl (by
    have := sub x
    simp only [List.cons_append, List.mem_cons, List.mem_append] at *
    grind)
  have hMD : D ∈ A1' ++ (P1 ++ ((D :: B') ++ P2)) ++ F.M0 := by simp
  have hDB : D ∉ B' ++ A1' := fun z => by
    have := sub D z
    simp only [List.cons_append, List.nodup_append, List.nodup_cons, List.mem_cons, List.mem_append] at *
    grind
  have hDP : D ∉ P1 ++ P2 := fun z => by
    simp only [List.cons_append, List.nodup_append, List.nodup_cons, List.mem_cons, List.mem_append] at *
    grind
  refine ⟨A1', P1 ++ ((D :: B') ++ P2), (h2.grow hM).keep (keep_upd hD hMD fun z => hDB (List.mem_append_right _ z)), ?_, good_upd h.good hD (by simp) ?_ fun p hp => ?_⟩
  · have z := back (A1' ++ (P1 ++ ((D :: B') ++ P2)) ++ F.M0) (upd H D (.lst ws)) (.is (rList r) ys) (some (.ref D)) (D :: B')
      (fun h sub => Slot.ok_keep (Slot.ok_grow h hM) (keep_upd hD hMD fun z => hDP (by
        rcases sub D z with q | q
        · exact List.mem_append_left _ q
        · exact List.mem_append_right _ q)))
      ⟨_, rfl, D, ws, B', rfl, upd_same, h1.imp fun v a C hC hr => r.keep (r.grow hr hM) (keep_upd hD hMD fun z => hDB (List.mem_append_left _ (hC D z))), rfl⟩
    rwa [set_self e1] at z
  · have hsub := sub
    simp only [List.cons_append, List.nodup_append, List.nodup_cons, List.mem_cons, List.mem_append] at *
    grind
  · have := sub p
    simp only [List.cons_append, List.mem_cons, List.mem_append] at *
    grind
/-- a thing at the end of a list in a slot -/
theorem At.appendS {i : Nat} {U : Type} {r : Rp U} {xs : List U} {y : U} {v : V} (h : At F (.is r y :: T) (v :: t) G σ H) (e : G[i]? = some (.is (rList r) xs)) :
    ∃ D vs, σ[i]? = some (some (.ref D)) ∧ H D = some (.lst vs) ∧ vs.length = xs.length ∧ At F T t (G.set i (.is (rList r) (xs ++ [y]))) σ (upd H D (.lst (vs ++ [v]))) := by
  obtain ⟨A1, A2, h⟩ := h
  obtain ⟨D, vs, B, e1, hD, hA, hl, nd0, k⟩ := h.mutS e
  obtain ⟨C, A', eA, ⟨v', ev, hr⟩, ht⟩ := AtS.cons_inv h.tmp
  cases ev
  refine ⟨D, vs, e1, hD, hl, k (vs ++ [v]) (xs ++ [y]) (B ++ (C ++ [])) T t A' (hA.append (.cons hr .nil)) ht ?_ fun p hp => ?_⟩
  · rw [eA] at nd0
    simpa using nd0
  · rw [eA]
    simpa using hp
/-- the same where the list is a temp -/
theorem AtP.mutT {U : Type} {r : Rp U} {xs : List U} {D : Addr} {A1 A2 : List Addr} (h : AtP F (.is (rList r) xs :: T) (.ref D :: t) G σ H A1 A2) :
    ∃ vs B A', A1 = (D :: B) ++ A' ∧ H D = some (.lst vs) ∧ All3 (r.rel K (A1 ++ A2 ++ F.M0) H) vs xs B ∧ vs.length = xs.length ∧ AtS K (A1 ++ A2 ++ F.M0) H T (t.map some) A' := by
  obtain ⟨C, A', eA, ⟨v', ev, p, vs, B, ed, hD, hA, eC⟩, ht⟩ := AtS.cons_inv h.tmp
  cases ev
  cases ed
  subst eC
  exact ⟨vs, B, A', eA, hD, hA, hA.length, ht⟩
theorem At.appendT {U : Type} {r : Rp U} {xs : List U} {y : U} {v : V} {D : Addr} (h : At F (.is r y :: .is (rList r) xs :: T) (v :: .ref D :: t) G σ H) :
    ∃ vs, H D = some (.lst vs) ∧ vs.length = xs.length ∧ At F (.is (rList r) (xs ++ [y]) :: T) (.ref D :: t) G σ (upd H D (.lst (vs ++ [v]))) := by
  obtain ⟨A1, A2, h⟩ := h
  obtain ⟨C, A', eA, ⟨v', ev, hr⟩, ht⟩ := AtS.cons_inv h.tmp
  obtain ⟨C', A'', eA', ⟨v2, ev2, p, vs, B, ed, hD, hA, eC⟩, ht'⟩ := AtS.cons_inv ht
  cases ev
  cases ev2
  cases ed
  subst eA eA' eC
  have nd := h.good.nd
  have hM : ∀ x, x ∈ (D :: (B ++ (C ++ []))) ++ A'' ++ A2 ++ F.M0 → x ∈ C ++ ((D :: B) ++ A'') ++ A2 ++ F.M0 ∨ H x = none := fun x hx => .inl (by
    simp only [List.cons_append, List.mem_cons, List.mem_append, List.append_nil] at *
    grind)
  have hMD : D ∈ (D :: (B ++ (C ++ []))) ++ A'' ++ A2 ++ F.M0 := by simp
  have ndx : D ∉ B ∧ D ∉ C ∧ D ∉ A'' ∧ D ∉ A2 := by
    simp only [List.cons_append, List.nodup_append, List.nodup_cons, List.mem_cons, List.mem_append] at nd
    grind
  refine ⟨vs, hD, hA.length, (D :: (B ++ (C ++ []))) ++ A'', A2, .cons ⟨_, rfl, D, vs ++ [v], B ++ (C ++ []), rfl, upd_same, ?_, rfl⟩ ?_, ?_, good_upd h.good hD (by simp) ?_ fun p hp => ?_⟩
  · refine All3.imp (hA.append (.cons hr .nil)) fun w a E hE hw => r.keep (r.grow hw hM) (keep_upd hD hMD fun z => ?_)
    have := hE D z
    simp only [List.append_nil, List.mem_append] at this
    grind
  · exact (ht'.grow hM).keep (keep_upd hD hMD ndx.2.2.1)
  · exact (h.loc.grow hM).keep (keep_upd hD hMD ndx.2.2.2)
  · simp only [List.cons_append, List.nodup_append, List.nodup_cons, List.mem_cons, List.mem_append, List.append_nil] at *
    grind
  · simp only [List.cons_append, List.mem_cons, List.mem_append, List.append_nil] at *
    grind
/-- all pushed -/
theorem AtP.pushAll {U : Type} {r : Rp U} {A1 A2 : List Addr} : ∀ {vs : List V} {as : List U} {A : List Addr}, All3 (r.rel K (A1 ++ A2 ++ F.M0) H) vs as A → A = [] → ∀ {T : List Slot} {t : List V}, AtP F T t G σ H A1 A2 → AtP F (pend r as ++ T) (vs.reverse ++ t) G σ H A1 A2 := by
  intro vs as A h
  induction h with
  | nil => intro _ T t h0; exact h0
  | @cons v a B vs as A h ht ih =>
    intro e T t h0
    have e1 : B = [] := (List.append_eq_nil_iff.mp e).1
    have e2 : A = [] := (List.append_eq_nil_iff.mp e).2
    subst e1
    have z := ih e2 (h0.pushM h)
    simpa [pend] using z
theorem cp_all {U : Type} {r : Rp U} (c : r.Cp) {M : List Addr} {vs : List V} {as : List U} {A : List Addr} (h : All3 (r.rel K M H) vs as A) : A = [] := by
  induction h with
  | nil => rfl
  | cons h t ih => rw [c h, ih]; rfl
theorem sh_all {U : Type} {r : Rp U} {M : List Addr} {vs : List V} {as : List U} {A : List Addr} (h : All3 (r.rel K M H) vs as A) (hA : ∀ p, p ∈ A → p ∉ M) : All3 ((sh r).rel K M H) vs as [] := by
  induction h with
  | nil => exact .nil
  | @cons v a B vs as A h t ih =>
    exact .cons (B := []) ⟨rfl, B, h, fun p hp => hA p (List.mem_append_left _ hp)⟩ (ih fun p hp => hA p (List.mem_append_right _ hp))
/-- a new list of things that own nothing, the arguments used up -/
theorem AtP.newL {L : List Arg} {ts vs : List V} {A1 A2 : List Addr} (h : AtP F ((tmps L).reverse ++ T) (ts.reverse ++ t) G σ H A1 A2) (av : ArgV σ L ts vs) {U : Type} {r : Rp U} {as : List U} {ws : List V} (hr : All3 (r.rel K (A1 ++ A2 ++ F.M0) H) ws as []) {p : Addr} (hp : H p = none) :
    At F (.is (rList r) as :: T) (.ref p :: t) G σ (upd H p (.lst ws)) := by
  have z := h.pushAll hr rfl
  exact At.dropU (by simp [(argV_len av).2]) (At.lst ⟨A1, A2, z⟩ hr.length hp)
end

/-! ### displays of lists -/
def GL {K : PySem.W.Frag} {S : Type} (F : FC K S) {U : Type} (ta : TA) (G G' : S → List Slot) (r : Rp U) (m : SM S (List U)) : Prop :=
  ∀ (T : List Slot) (t : List V) (σ : L2.St) (s : S) (H : Hp) (Q : List V → Hp → Prop), At F T t (G s) σ H →
    (m s).wp (fun as s' => ∀ vs H', At F (pend r as ++ T) (vs.reverse ++ t) (G' s') σ H' → vs.length = as.length → Q vs H') (XP F σ) → ta σ H Q
structure EL (X : Cx) {S : Type} (F : FC X.K S) {U : Type} (es : List Expr) (ta : TA) (G G' : S → List Slot) (r : Rp U) (m : SM S (List U)) : Prop where
  pa : PA X es ta
  go : GL F ta G G' r m
section
variable {X : Cx} {S : Type} {F : FC X.K S} {U W Z : Type} {r r1 : Rp U} {r2 : Rp W} {r3 : Rp Z} {e a b : Expr} {es : List Expr} {te ta tb : TE} {tr : TA} {G G1 G2 G' : S → List Slot} {m m1 : SM S U} {m2 : SM S W} {ml : SM S (List U)} {pos : Pos} {arg : U → Arg} {argW : W → Arg}
theorem el_nil : EL X F [] tNil G G r (ret []) := ⟨pa_nil, fun T t σ s H Q h q => q [] H (by simpa [pend] using h) rfl⟩
theorem el_cons (h1 : EX X F e te G G1 r m1) (h2 : EL X F es tr G1 G2 r ml) (hs : PySem.W.isStarred e = false := by rfl) : EL X F (e :: es) (tCons te tr) G G2 r (bnd m1 fun a => bnd ml fun l => ret (a :: l)) :=
  ⟨pa_cons h1.pe h2.pa (star1 hs), fun T t σ s H Q h q => by
    refine h1.go T t σ s H _ h (wp_mono (wp_bnd q) (fun a s1 q1 v H1 at1 => ?_) fun _ _ z => z)
    refine h2.go _ _ σ s1 H1 _ at1 (wp_mono (wp_bnd q1) (fun l s2 q2 vs H2 at2 hl => ?_) fun _ _ z => z)
    exact q2 (v :: vs) H2 (by simpa [pend] using at2) (by simp [hl])⟩
/-- *e: the items own nothing -/
theorem el_star {p : Pos} {xs : W → List U} (h1 : EO X F e te G G1 argW m2) (c : r.Cp) (hx : ∀ a s, Rdd (G1 s) (argW a) (rList r) (xs a)) (h2 : EL X F es tr G1 G2 r ml) (hs : starEach (.Starred e p :: es) X.env = (true, eval e X.env) :: starEach es X.env := by rfl) :
    EL X F (.Starred e p :: es) (StX.tStar X.K te tr) G G2 r (bnd m2 fun a => bnd ml fun l => ret (xs a ++ l)) :=
  ⟨StX.pa_star h1.pe h2.pa hs, fun T t σ s H Q h q => by
    refine h1.go T t σ s H _ h (wp_mono (wp_bnd q) (fun a s1 q1 ts v H1 at1 av => ?_) fun _ _ z => z)
    obtain ⟨A1, A2, at1⟩ := at1
    obtain ⟨v', B, e1, p, vs, A, ev, hp, hA, eB⟩ := rddM (j := 0) at1 av rfl (hx a s1)
    cases e1
    have eA := cp_all c hA
    subst eA
    refine ⟨p, vs, ev, .inr (SqL.of hp), ?_⟩
    have at2 := at1.pushAll hA rfl
    have at3 : At F (pend r (xs a) ++ T) (vs.reverse ++ t) (G1 s1) σ H1 := At.dropM (by rw [List.length_reverse, pend_len, hA.length]) (by simp [(argV_len av).2]) ⟨A1, A2, at2⟩
    refine h2.go _ _ σ s1 H1 _ at3 (wp_mono (wp_bnd q1) (fun l s2 q2 ws H2 at4 hl => ?_) fun _ _ z => z)
    exact q2 (vs ++ ws) H2 (by simpa [pend] using at4) (by simp [hl, hA.length])⟩
end
end Td

set_option Elab.async false
set_option linter.all false
set_option maxRecDepth 100000
set_option maxHeartbeats 4000000
namespace Td
open PySem PySem.Spec PyProof.Rows L2

section
variable {X : Cx} {S : Type} {F : FC X.K S} {U W Z : Type} {r r1 : Rp U} {r2 : Rp W} {r3 : Rp Z} {e a b : Expr} {es : List Expr} {te ta tb : TE} {tr : TA} {G G1 G2 G' : S → List Slot} {m m1 : SM S U} {m2 : SM S W} {ml : SM S (List U)} {pos p0 : Pos} {arg : U → Arg} {argW : W → Arg}
def lenG {S T : Type} (xs : List T) : SM S Unit := grd (xs.length ≤ sizeLine)
theorem ex_lst (h : EL X F es tr G G' r ml) : EX X F (.List es pos) (tLst tr) G G' (rList r) (bnd ml fun xs => bnd (lenG xs) fun _ => ret xs) :=
  ⟨pe_lst h.pa, fun T t σ s H Q h0 q => h.go T t σ s H _ h0 (wp_mono (wp_bnd q) (fun xs s1 q1 vs H1 at1 hl => by
    obtain ⟨hz, q1⟩ := wp_grd (wp_bnd q1)
    exact ⟨by rw [hl]; exact hz, fun p hp => q1 _ _ (at1.lst hl hp)⟩) fun _ _ z => z)⟩
/-- one argument read -/
theorem go_call1 {rr : List V → Hp → VK → Prop} {f : U → SM S Z} (h : GO F te G G' arg m) (hf : ∀ a, Stl (f a))
    (hv : ∀ (a : U) (s : S) (T : List Slot) (t ts : List V) (v : V) (σ : L2.St) (H : Hp) (Q : VK) (A1 A2 : List Addr), AtP F ((tmps [arg a]).reverse ++ T) (ts.reverse ++ t) (G' s) σ H A1 A2 → ArgV σ [arg a] ts [v] →
      (f a s).wp (fun c s' => s' = s ∧ ∀ u H', At F (.is r3 c :: T) (u :: t) (G' s) σ H' → Q u H') (fun _ _ => True) → rr [v] H Q) : GE F (tCB rr (tCons te tNil)) G G' r3 (bnd m f) := by
  intro T t σ s H Q h0 q
  refine h T t σ s H _ h0 (wp_mono (wp_bnd q) (fun a s1 q1 ts v H1 at1 av => ?_) fun _ _ z => z)
  obtain ⟨A1, A2, at1⟩ := at1
  refine hv a s1 T t ts v σ H1 Q A1 A2 at1 av (wp_mono ((hf a).wp (E' := fun _ _ => True) q1) (fun c s2 q2 => ?_) fun _ _ _ => trivial)
  obtain ⟨e, q2⟩ := q2
  subst e
  exact ⟨rfl, q2⟩
theorem ex_callB1 {id : String} {x : Str} {rr : List V → Hp → VK → Prop} {f : U → SM S Z} (hc : CallR X (.builtin id) rr) (hg : Gl X x) (hm : X.mg x = none) (hv : bootBuiltins x = some (.builtin id)) (h : EO X F e te G G' arg m) (hgo : GE F (tCB rr (tCons te tNil)) G G' r3 (bnd m f))
    (hs : PySem.W.isStarred e = false := by rfl) (hn : x ≠ "__name__" := by decide) (hdb : (x == ("__debug__" : Str)) = false := by decide) : EX X F (.Call (.Name x p0) [e] [] pos) (tCB rr (tCons te tNil)) G G' r3 (bnd m f) :=
  ⟨pe_callB hc hg hm hv (pa_cons h.pe pa_nil (star1 hs)) hn hdb (star1 hs), hgo⟩
theorem ex_len {xs : U → List Z} (h : EO X F e te G G' arg m) (hx : ∀ a s, Rdd (G' s) (arg a) (rList r3) (xs a)) (hg : Gl X "len") (hm : X.mg "len" = none) (hs : PySem.W.isStarred e = false := by rfl) :
    EX X F (.Call (.Name "len" p0) [e] [] pos) (tCB (fun xs H Q => ∃ p ys, xs = [.ref p] ∧ (SqL X.K H p ys ∨ SqT X.K H p ys) ∧ Q (.int ys.length) H) (tCons te tNil)) G G' rInt (bnd m fun a => ret ((xs a).length : Int)) :=
  ex_callB1 call_len_seq hg hm PySem.boot_len h (go_call1 h.go (fun _ => stl_ret _) fun a s T t ts v σ H Q A1 A2 at1 av q => by
    obtain ⟨v', B, e1, p, vs, A, ev, hp, hA, eB⟩ := rddM (j := 0) at1 av rfl (hx a s)
    cases e1
    obtain ⟨_, q⟩ := q
    exact ⟨p, vs, by rw [ev], .inl (SqL.of hp), q _ H (at1.fin av ⟨by rw [hA.length], rfl⟩)⟩) hs
theorem ex_lenT {xs : U → List Z} (h : EO X F e te G G' arg m) (hx : ∀ a s, Rdd (G' s) (arg a) (rTupL r3) (xs a)) (hg : Gl X "len") (hm : X.mg "len" = none) (hs : PySem.W.isStarred e = false := by rfl) :
    EX X F (.Call (.Name "len" p0) [e] [] pos) (tCB (fun xs H Q => ∃ p ys, xs = [.ref p] ∧ (SqL X.K H p ys ∨ SqT X.K H p ys) ∧ Q (.int ys.length) H) (tCons te tNil)) G G' rInt (bnd m fun a => ret ((xs a).length : Int)) :=
  ex_callB1 call_len_seq hg hm PySem.boot_len h (go_call1 h.go (fun _ => stl_ret _) fun a s T t ts v σ H Q A1 A2 at1 av q => by
    obtain ⟨v', B, e1, p, vs, ev, hp, hA⟩ := rddM (j := 0) at1 av rfl (hx a s)
    cases e1
    obtain ⟨_, q⟩ := q
    exact ⟨p, vs, by rw [ev], .inr hp, q _ H (at1.fin av ⟨by rw [hA.length], rfl⟩)⟩) hs
/-- list(xs): a new list of things that own nothing -/
theorem ex_list {xs : U → List Z} (h : EO X F e te G G' arg m) (c : r3.Cp) (hx : ∀ a s, Rdd (G' s) (arg a) (rList r3) (xs a)) (hg : Gl X "list") (hm : X.mg "list" = none) (hs : PySem.W.isStarred e = false := by rfl) :
    EX X F (.Call (.Name "list" p0) [e] [] pos) (tCB (fun xs H Q => ∃ p ys, xs = [.ref p] ∧ (SqL X.K H p ys ∨ SqT X.K H p ys) ∧ ∀ l, H l = none → Q (.ref l) (upd H l (.lst ys))) (tCons te tNil)) G G' (rList r3) (bnd m fun a => ret (xs a)) :=
  ⟨pe_callTy call_list_of hg hm PyProof.Rows.boot_list (pa_cons h.pe pa_nil (star1 hs)) (he := star1 hs), go_call1 h.go (fun _ => stl_ret _) fun a s T t ts v σ H Q A1 A2 at1 av q => by
    obtain ⟨v', B, e1, p, vs, A, ev, hp, hA, eB⟩ := rddM (j := 0) at1 av rfl (hx a s)
    cases e1
    obtain ⟨_, q⟩ := q
    have eA := cp_all c hA
    subst eA
    exact ⟨p, vs, by rw [ev], .inl (SqL.of hp), fun l hl => q _ _ (at1.newL av hA hl)⟩⟩
theorem ex_listT {xs : U → List Z} (h : EO X F e te G G' arg m) (c : r3.Cp) (hx : ∀ a s, Rdd (G' s) (arg a) (rTupL r3) (xs a)) (hg : Gl X "list") (hm : X.mg "list" = none) (hs : PySem.W.isStarred e = false := by rfl) :
    EX X F (.Call (.Name "list" p0) [e] [] pos) (tCB (fun xs H Q => ∃ p ys, xs = [.ref p] ∧ (SqL X.K H p ys ∨ SqT X.K H p ys) ∧ ∀ l, H l = none → Q (.ref l) (upd H l (.lst ys))) (tCons te tNil)) G G' (rList r3) (bnd m fun a => ret (xs a)) :=
  ⟨pe_callTy call_list_of hg hm PyProof.Rows.boot_list (pa_cons h.pe pa_nil (star1 hs)) (he := star1 hs), go_call1 h.go (fun _ => stl_ret _) fun a s T t ts v σ H Q A1 A2 at1 av q => by
    obtain ⟨v', B, e1, p, vs, ev, hp, hA⟩ := rddM (j := 0) at1 av rfl (hx a s)
    cases e1
    obtain ⟨_, q⟩ := q
    have eA := cp_all c hA
    subst eA
    exact ⟨p, vs, by rw [ev], .inr hp, fun l hl => q _ _ (at1.newL av hA hl)⟩⟩
/-- calls of built-ins on plain values -/
theorem go_callP1 {rr : List V → Hp → VK → Prop} {f : U → SM S Z} (h : GE F te G G' r m) (hf : ∀ a, Stl (f a)) (hv : VO1 X.K S r r3 (fun v H Q => rr [v] H Q) f) : GE F (tCB rr (tCons te tNil)) G G' r3 (bnd m f) := by
  intro T t σ s H Q h0 q
  refine h T t σ s H _ h0 (wp_mono (wp_bnd q) (fun a s1 q1 v H1 at1 => ?_) fun _ _ z => z)
  obtain ⟨M, B, k⟩ := top_rel at1
  refine hv a v M B H1 Q s1 k (wp_mono ((hf a).wp q1) (fun c s2 q2 e u hu => ?_) fun _ _ z => z)
  exact q2.2 u H1 (at1.pop.push hu)
theorem go_callP2 {rr : List V → Hp → VK → Prop} {f : U → W → SM S Z} (h1 : GE F ta G G1 r m) (h2 : GE F tb G1 G2 r2 m2) (hf : ∀ a b, Stl (f a b)) (hv : VO2 X.K S r r2 r3 (fun v w H Q => rr [v, w] H Q) f) : GE F (tCB rr (tCons ta (tCons tb tNil))) G G2 r3 (bnd m fun a => bnd m2 fun b => f a b) := by
  intro T t σ s H Q h0 q
  refine h1 T t σ s H _ h0 (wp_mono (wp_bnd q) (fun a s1 q1 v H1 at1 => ?_) fun _ _ z => z)
  refine h2 _ _ σ s1 H1 _ at1 (wp_mono (wp_bnd q1) (fun b s2 q2 w H2 at2 => ?_) fun _ _ z => z)
  obtain ⟨M1, B1, k1⟩ := snd_rel at2
  obtain ⟨M2, B2, k2⟩ := top_rel at2
  refine hv a b v w M1 B1 M2 B2 H2 Q s2 k1 k2 (wp_mono ((hf a b).wp q2) (fun c s3 q3 e u hu => ?_) fun _ _ z => z)
  exact q3.2 u H2 (fin2 at2 hu)
end
section
variable {X : Cx} {S : Type} {F : FC X.K S} {e a b : Expr} {te ta tb : TE} {G G1 G2 G' : S → List Slot} {m m1 m2 : SM S Int} {mb : SM S Bool} {pos p0 : Pos}
theorem ex_abs (h : EX X F e te G G' rInt m) (hg : Gl X "abs") (hm : X.mg "abs" = none) (hs : PySem.W.isStarred e = false := by rfl) :
    EX X F (.Call (.Name "abs" p0) [e] [] pos) (tCB (fun xs H Q => ∃ i, xs = [.int i] ∧ Q (.int (if i < 0 then -i else i)) H) (tCons te tNil)) G G' rInt (bnd m fun i => ret (if i < 0 then -i else i)) :=
  ⟨pe_callB call_abs hg hm PyProof.Rows.boot_abs (pa_cons h.pe pa_nil (star1 hs)) (he := star1 hs), go_callP1 h.go (fun _ => stl_ret _) fun a v M B H Q s k q => ⟨a, by rw [k.1], q rfl _ fun _ => ⟨rfl, rfl⟩⟩⟩
theorem ex_intI (h : EX X F e te G G' rInt m) (hg : Gl X "int") (hm : X.mg "int" = none) (hs : PySem.W.isStarred e = false := by rfl) :
    EX X F (.Call (.Name "int" p0) [e] [] pos) (tCB (fun xs H Q => (∃ i, xs = [.int i] ∧ Q (.int i) H) ∨ ∃ k, xs = [.bl k] ∧ Q (.int (if k then 1 else 0)) H) (tCons te tNil)) G G' rInt (bnd m fun i => ret i) :=
  ⟨pe_callTy call_int1 hg hm PyProof.Rows.boot_int (pa_cons h.pe pa_nil (star1 hs)) (he := star1 hs), go_callP1 h.go (fun _ => stl_ret _) fun a v M B H Q s k q => .inl ⟨a, by rw [k.1], q rfl _ fun _ => ⟨rfl, rfl⟩⟩⟩
theorem ex_intB (h : EX X F e te G G' rBool mb) (hg : Gl X "int") (hm : X.mg "int" = none) (hs : PySem.W.isStarred e = false := by rfl) :
    EX X F (.Call (.Name "int" p0) [e] [] pos) (tCB (fun xs H Q => (∃ i, xs = [.int i] ∧ Q (.int i) H) ∨ ∃ k, xs = [.bl k] ∧ Q (.int (if k then 1 else 0)) H) (tCons te tNil)) G G' rInt (bnd mb fun k => ret (if k then 1 else 0)) :=
  ⟨pe_callTy call_int1 hg hm PyProof.Rows.boot_int (pa_cons h.pe pa_nil (star1 hs)) (he := star1 hs), go_callP1 h.go (fun _ => stl_ret _) fun a v M B H Q s k q => .inr ⟨a, by rw [k.1], q rfl _ fun _ => ⟨rfl, rfl⟩⟩⟩
theorem ex_max2 (h1 : EX X F a ta G G1 rInt m1) (h2 : EX X F b tb G1 G2 rInt m2) (hg : Gl X "max") (hm : X.mg "max" = none) (hc : X.calm = true := by rfl) (hs : PySem.W.isStarred a = false := by rfl) (hs2 : PySem.W.isStarred b = false := by rfl) :
    EX X F (.Call (.Name "max" p0) [a, b] [] pos) (tCB (fun xs H Q => ∃ i j, xs = [.int i, .int j] ∧ Q (.int (if j > i then j else i)) H) (tCons ta (tCons tb tNil))) G G2 rInt (bnd m1 fun i => bnd m2 fun j => ret (if j > i then j else i)) :=
  ⟨pe_callB (call_max2 hc) hg hm PyProof.Rows.boot_max (pa_cons h1.pe (pa_cons h2.pe pa_nil (star1 hs2)) (star1 hs)) (he := star1 hs) (hpl := by rw [star1 hs2]; rfl), go_callP2 h1.go h2.go (fun _ _ => stl_ret _) fun a b v w M B M' B' H Q s k k' q => ⟨a, b, by rw [k.1, k'.1], q rfl _ fun _ => ⟨rfl, rfl⟩⟩⟩
theorem ex_min2 (h1 : EX X F a ta G G1 rInt m1) (h2 : EX X F b tb G1 G2 rInt m2) (hg : Gl X "min") (hm : X.mg "min" = none) (hc : X.calm = true := by rfl) (hs : PySem.W.isStarred a = false := by rfl) (hs2 : PySem.W.isStarred b = false := by rfl) :
    EX X F (.Call (.Name "min" p0) [a, b] [] pos) (tCB (fun xs H Q => ∃ i j, xs = [.int i, .int j] ∧ Q (.int (if j < i then j else i)) H) (tCons ta (tCons tb tNil))) G G2 rInt (bnd m1 fun i => bnd m2 fun j => ret (if j < i then j else i)) :=
  ⟨pe_callB (call_min2 hc) hg hm PyProof.Rows.boot_min (pa_cons h1.pe (pa_cons h2.pe pa_nil (star1 hs2)) (star1 hs)) (he := star1 hs) (hpl := by rw [star1 hs2]; rfl), go_callP2 h1.go h2.go (fun _ _ => stl_ret _) fun a b v w M B M' B' H Q s k k' q => ⟨a, b, by rw [k.1, k'.1], q rfl _ fun _ => ⟨rfl, rfl⟩⟩⟩
/-- unary minus -/
theorem ex_neg (h : EX X F e te G G' rInt m) : EX X F (.UnaryOp .USub e pos) (tUn (rU fun i => .int (-i)) te) G G' rInt (bnd m fun i => ret (-i)) :=
  ⟨pe_un un_neg h.pe, fun T t σ s H Q h0 q => h.go T t σ s H _ h0 (wp_mono (wp_bnd q) (fun i s1 q1 v H1 at1 => by
    obtain ⟨M, B, k, _⟩ := top_rel at1
    exact ⟨i, k, q1 _ H1 (at1.pop.push fun _ => ⟨rfl, rfl⟩)⟩) fun _ _ z => z)⟩
end

/-! ### things that are walked -/
structure Src {K : PySem.W.Frag} {S : Type} (F : FC K S) (C : List Slot → Prop) (J : It) (g : List Slot) (hv : List V) {A : Type} (rx : Rp A) (xs : List A) : Prop where
  len : hv.length = g.length
  go : ∀ {i T1 t1 T t G σ H}, C G → t1.length = T1.length → At F (T1 ++ (g ++ T)) (t1 ++ (hv ++ t)) G σ H → i < xs.length → J.go i H
  stop : ∀ {i T1 t1 T t G σ H}, C G → t1.length = T1.length → At F (T1 ++ (g ++ T)) (t1 ++ (hv ++ t)) G σ H → xs.length ≤ i → J.stop i H
  yld : ∀ {i a x T1 t1 T t G σ H H'}, C G → t1.length = T1.length → At F (T1 ++ (g ++ T)) (t1 ++ (hv ++ t)) G σ H → J.yld i H x H' → xs[i]? = some a → At F (.is rx a :: (T1 ++ (g ++ T))) (x :: (t1 ++ (hv ++ t))) G σ H'
def GI {K : PySem.W.Frag} {S : Type} (F : FC K S) {A : Type} (wi : TI) (G G' : S → List Slot) (C : List Slot → Prop) (rx : Rp A) (m : SM S (List A)) : Prop :=
  ∀ (T : List Slot) (t : List V) (σ : L2.St) (s : S) (H : Hp) (R : It → Hp → Prop), At F T t (G s) σ H →
    (m s).wp (fun xs s' => ∀ J g hv H', Src F C J g hv rx xs → At F (g ++ T) (hv ++ t) (G' s') σ H' → R J H') (XP F σ) → wi σ H R
structure EI (X : Cx) {S : Type} (F : FC X.K S) {A : Type} (tg e : Expr) (wi : TI) (G G' : S → List Slot) (C : List Slot → Prop) (rx : Rp A) (m : SM S (List A)) : Prop where
  pi : PI X tg e wi
  go : GI F wi G G' C rx m
section
variable {K : PySem.W.Frag} {S : Type} {F : FC K S} {T : List Slot} {t : List V} {G : List Slot} {σ : L2.St} {H : Hp} {A : Type} {rx : Rp A} {xs : List A}
theorem rev_get' {T : Type _} (l1 l2 : List T) (k : Nat) : (l1 ++ l2)[l1.length + k]? = l2[k]? := by
  rw [List.getElem?_append_right (by omega)]
  congr 1; omega
/-- a held temp, wherever it stands -/
theorem held {T1 : List Slot} {t1 : List V} {g : Slot} {v : V} {A1 A2 : List Addr} (e : t1.length = T1.length) (h : AtP F (T1 ++ ([g] ++ T)) (t1 ++ ([v] ++ t)) G σ H A1 A2) : ∃ B, g.ok K (A1 ++ A2 ++ F.M0) H (some v) B := by
  obtain ⟨x, B, e1, h1, _⟩ := h.tmp.mem (i := T1.length + 0) (g := g) (by rw [rev_get']; rfl)
  rw [List.map_append, show T1.length + 0 = (t1.map some).length + 0 by rw [List.length_map, e], rev_get'] at e1
  cases e1
  exact ⟨B, h1⟩
/-- a shared list -/
theorem src_sh {a : Addr} (c : rx.Cp) : Src F (fun _ => True) (Itl K a) [.is (sh (rList rx)) xs] [.ref a] rx xs where
  len := rfl
  go := by
    intro i T1 t1 T t G σ H _ e h hi
    obtain ⟨A1, A2, h⟩ := h
    obtain ⟨B, v, ev, _, C, ⟨p, vs, A, ep, hp, hA, _⟩, _⟩ := held e h
    cases ev
    cases ep
    have hi' : i < vs.length := by rw [hA.length]; exact hi
    exact ⟨vs, vs[i], SqL.of hp, List.getElem?_eq_getElem hi'⟩
  stop := by
    intro i T1 t1 T t G σ H _ e h hi
    obtain ⟨A1, A2, h⟩ := h
    obtain ⟨B, v, ev, _, C, ⟨p, vs, A, ep, hp, hA, _⟩, _⟩ := held e h
    cases ev
    cases ep
    exact ⟨vs, SqL.of hp, by rw [hA.length]; exact hi⟩
  yld := by
    intro i a x T1 t1 T t G σ H H' _ e h hy ha
    obtain ⟨A1, A2, h⟩ := h
    obtain ⟨B, v, ev, _, C, ⟨p, vs, A, ep, hp, hA, _⟩, _⟩ := held e h
    cases ev
    cases ep
    obtain ⟨rfl, hy⟩ := hy
    obtain ⟨w, D, e1, hr, _⟩ := hA.get' ha
    have e2 := hy vs (SqL.of hp)
    rw [e1] at e2
    cases e2
    have eD := c hr
    subst eD
    exact ⟨A1, A2, h.pushM hr⟩
theorem src_shS {a : Addr} : Src F (fun _ => True) (Itl K a) [.is (sh (rList rx)) xs] [.ref a] (sh rx) xs where
  len := rfl
  go := by
    intro i T1 t1 T t G σ H _ e h hi
    obtain ⟨A1, A2, h⟩ := h
    obtain ⟨B, v, ev, _, C, ⟨p, vs, A, ep, hp, hA, _⟩, _⟩ := held e h
    cases ev
    cases ep
    have hi' : i < vs.length := by rw [hA.length]; exact hi
    exact ⟨vs, vs[i], SqL.of hp, List.getElem?_eq_getElem hi'⟩
  stop := by
    intro i T1 t1 T t G σ H _ e h hi
    obtain ⟨A1, A2, h⟩ := h
    obtain ⟨B, v, ev, _, C, ⟨p, vs, A, ep, hp, hA, _⟩, _⟩ := held e h
    cases ev
    cases ep
    exact ⟨vs, SqL.of hp, by rw [hA.length]; exact hi⟩
  yld := by
    intro i a x T1 t1 T t G σ H H' _ e h hy ha
    obtain ⟨A1, A2, h⟩ := h
    obtain ⟨B, v, ev, _, C, ⟨p, vs, A, ep, hp, hA, eC⟩, hC⟩ := held e h
    cases ev
    cases ep
    obtain ⟨rfl, hy⟩ := hy
    obtain ⟨w, D, e1, hr, sub⟩ := hA.get' ha
    have e2 := hy vs (SqL.of hp)
    rw [e1] at e2
    cases e2
    exact ⟨A1, A2, h.pushM (r := sh rx) ⟨rfl, D, hr, fun x hx => hC x (by rw [eC]; exact List.mem_cons_of_mem _ (sub x hx))⟩⟩
/-- lo, lo + 1, .. -/
def upto (lo : Int) (n : Nat) : List Int := (List.range n).map fun (i : Nat) => lo + (i : Int)
theorem upto_len (lo : Int) (n : Nat) : (upto lo n).length = n := by simp [upto]
theorem upto_get {lo : Int} {n i : Nat} {a : Int} (h : (upto lo n)[i]? = some a) : a = lo + (i : Int) := by
  unfold upto at h
  rw [List.getElem?_map] at h
  cases e : (List.range n)[i]? with
  | none => rw [e] at h; cases h
  | some j =>
    rw [e] at h
    have e2 : j = i := by
      rw [List.getElem?_range] at e
      · cases e; rfl
      · have := (List.getElem?_eq_some_iff.mp e).1
        simpa using this
    subst e2
    exact (Option.some.inj h).symm
theorem src_rng {lo : Int} {n : Nat} : Src F (fun _ => True) (Itr lo n) [] [] rInt (upto lo n) where
  len := rfl
  go := fun _ _ _ hi => by rw [upto_len] at hi; exact hi
  stop := fun _ _ _ hi => by rw [upto_len] at hi; exact hi
  yld := by
    intro i a x T1 t1 T t G σ H H' _ e h hy ha
    obtain ⟨rfl, rfl⟩ := hy
    rw [upto_get ha]
    exact At.push h fun _ => ⟨rfl, rfl⟩
end
end Td

set_option Elab.async false
set_option linter.all false
set_option maxRecDepth 100000
set_option maxHeartbeats 4000000
namespace Td
open PySem PySem.Spec PyProof.Rows L2

/-! ### targets -/
def GG {K : PySem.W.Frag} {S : Type} (F : FC K S) (g : TG) (ws : List Nat) {A : Type} (rx : Rp A) (G : List Slot) (Gt : A → List Slot) : Prop :=
  ∀ (T : List Slot) (t : List V) (σ : L2.St) (H : Hp) (v : V) (a : A) (Q : L2.St → Hp → Prop), At F (.is rx a :: T) (v :: t) G σ H →
    (∀ σ', At F T t (Gt a) σ' H → σ'.length = σ.length → (∀ j, j ∉ ws → σ'[j]? = σ[j]?) → Q σ' H) → g v σ H Q
structure EG (X : Cx) {S : Type} (F : FC X.K S) (tg : Expr) (g : TG) (ws : List Nat) {A : Type} (rx : Rp A) (G : List Slot) (Gt : A → List Slot) : Prop where
  pg : PG X tg g
  go : GG F g ws rx G Gt
section
variable {X : Cx} {S : Type} {F : FC X.K S} {A B C : Type} {rx : Rp A} {ry : Rp B} {rz : Rp C} {G : List Slot} {pos : Pos}
theorem gg_name {K : PySem.W.Frag} {F : FC K S} {i : Nat} {g' : Slot} (e : G[i]? = some g') : GG F (gName i) [i] rx G (fun a => G.set i (.is rx a)) := by
  intro T t σ H v a Q h q
  refine q _ (h.store i e) (by simp) fun j hj => ?_
  rw [List.getElem?_set_ne (by intro z; exact hj (by simp [z]))]
theorem eg_name {i : Nat} {x : Str} {g' : Slot} (e : G[i]? = some g') (hN : X.N.Nodup) (hi : X.N[i]? = some x := by rfl) (hx : Loc X.env.scope x := by first | exact Or.inl rfl | exact Or.inr rfl) (hf : X.fn x = true ∨ X.env.scope.names.lookup x = some .local := by first | exact .inl rfl | exact .inr rfl) :
    EG X F (.Name x pos) (gName i) [i] rx G (fun a => G.set i (.is rx a)) := ⟨pg_name hN hi hx hf, gg_name e⟩
theorem eg_pair {e1 e2 : Expr} {g1 g2 : TG} {w1 w2 : List Nat} {k : Nat} {ws : List Nat} {Gt : A × B → List Slot} {G1 : A → List Slot} {G2 : A → B → List Slot} (hc : X.calm = true) (h1 : EG X F e1 g1 w1 rx G G1) (h2 : ∀ a, EG X F e2 g2 w2 ry (G1 a) (G2 a))
    (ha : Inhabited A) (hws : ws = w1 ++ w2 := by rfl) (hGt : ∀ p, Gt p = G2 p.1 p.2 := by intro _; rfl) (hs1 : (assignEach [e1, e2] X.env).map (·.2) = assign e1 X.env :: (assignEach [e2] X.env).map (·.2) := by rfl) (hs2 : (assignEach [e2] X.env).map (·.2) = assign e2 X.env :: (assignEach [] X.env).map (·.2) := by rfl)
    (hn : (assignEach [e1, e2] X.env).length = 2 := by rfl) (hst : (assignEach [e1, e2] X.env).findIdx? (·.1) = none := by rfl) :
    EG X F (.Tuple [e1, e2] k pos) (gTup X.K 2 (gCons g1 (gCons g2 gNil))) ws (rPair rx ry) G Gt :=
  ⟨pg_tup hc (pgs_cons h1.pg (pgs_cons (h2 ha.default).pg pgs_nil hs2) hs1) hn hst, fun T t σ H v a Q h q => by
    have eG : Gt = fun p => G2 p.1 p.2 := funext hGt
    subst hws eG
    obtain ⟨p, x, y, ev, hT, h⟩ := h.unpair
    refine ⟨p, [x, y], ev, hT, rfl, x, [y], rfl, ?_⟩
    refine h1.go _ _ σ H x a.1 _ h fun σ1 at1 l1 k1 => ?_
    refine ⟨y, [], rfl, ?_⟩
    refine (h2 a.1).go _ _ σ1 H y a.2 _ at1 fun σ2 at2 l2 k2 => ?_
    exact ⟨rfl, q σ2 at2 (l2.trans l1) fun j hj => (k2 j fun z => hj (List.mem_append_right _ z)).trans (k1 j fun z => hj (List.mem_append_left _ z))⟩⟩
theorem eg_pairS {e1 e2 : Expr} {g1 g2 : TG} {w1 w2 : List Nat} {k : Nat} {ws : List Nat} {Gt : A × B → List Slot} {G1 : A → List Slot} {G2 : A → B → List Slot} (hc : X.calm = true) (h1 : EG X F e1 g1 w1 (sh rx) G G1) (h2 : ∀ a, EG X F e2 g2 w2 (sh ry) (G1 a) (G2 a))
    (ha : Inhabited A) (hws : ws = w1 ++ w2 := by rfl) (hGt : ∀ p, Gt p = G2 p.1 p.2 := by intro _; rfl) (hs1 : (assignEach [e1, e2] X.env).map (·.2) = assign e1 X.env :: (assignEach [e2] X.env).map (·.2) := by rfl) (hs2 : (assignEach [e2] X.env).map (·.2) = assign e2 X.env :: (assignEach [] X.env).map (·.2) := by rfl)
    (hn : (assignEach [e1, e2] X.env).length = 2 := by rfl) (hst : (assignEach [e1, e2] X.env).findIdx? (·.1) = none := by rfl) :
    EG X F (.Tuple [e1, e2] k pos) (gTup X.K 2 (gCons g1 (gCons g2 gNil))) ws (sh (rPair rx ry)) G Gt :=
  ⟨pg_tup hc (pgs_cons h1.pg (pgs_cons (h2 ha.default).pg pgs_nil hs2) hs1) hn hst, fun T t σ H v a Q h q => by
    have eG : Gt = fun p => G2 p.1 p.2 := funext hGt
    subst hws eG
    obtain ⟨p, x, y, ev, hT, h⟩ := h.unpairS
    refine ⟨p, [x, y], ev, hT, rfl, x, [y], rfl, ?_⟩
    refine h1.go _ _ σ H x a.1 _ h fun σ1 at1 l1 k1 => ?_
    refine ⟨y, [], rfl, ?_⟩
    refine (h2 a.1).go _ _ σ1 H y a.2 _ at1 fun σ2 at2 l2 k2 => ?_
    exact ⟨rfl, q σ2 at2 (l2.trans l1) fun j hj => (k2 j fun z => hj (List.mem_append_right _ z)).trans (k1 j fun z => hj (List.mem_append_left _ z))⟩⟩
end

/-! ### statements -/
/-- how a block ends: on its end with n, at a return with b, at break or continue with l -/
inductive Fl (N L R : Type) where
  | nx (n : N)
  | rt (b : R)
  | bk (l : L)
  | ct (l : L)
def FlP {K : PySem.W.Frag} {S : Type} (F : FC K S) {N L R : Type} (T : List Slot) (t : List V) (GN : N → S → List Slot) (GL : L → S → List Slot) (r : Rp R) (D : Ends) : Fl N L R → S → Prop
  | .nx n, s => ∀ σ' H', At F T t (GN n s) σ' H' → D.nx σ' H'
  | .ct l, s => ∀ σ' H', At F T t (GL l s) σ' H' → D.ct σ' H'
  | .bk l, s => ∀ σ' H', At F T t (GL l s) σ' H' → D.bk σ' H'
  | .rt b, s => ∀ v σ' H', At F [.is r b] [v] (F.io s) σ' H' → D.rt v H'
def XA {K : PySem.W.Frag} {S : Type} (F : FC K S) (e : Exn) (s : S) : Prop := ∀ σ, XP F σ e s
def GB {K : PySem.W.Frag} {S : Type} (F : FC K S) {N L R : Type} (ts : TS) (G : S → List Slot) (GN : N → S → List Slot) (GL : L → S → List Slot) (r : Rp R) (out : SM S (Fl N L R)) : Prop :=
  ∀ (T : List Slot) (t : List V) (σ : L2.St) (s : S) (H : Hp) (D : Ends), At F T t (G s) σ H → (out s).wp (FlP F T t GN GL r D) (XA F) → ts D σ H
structure BX (X : Cx) {S : Type} (F : FC X.K S) {N L R : Type} (sts : List Stmt) (ts : TS) (G : S → List Slot) (GN : N → S → List Slot) (GL : L → S → List Slot) (r : Rp R) (out : SM S (Fl N L R)) : Prop where
  ps : PSs X sts ts
  go : GB F ts G GN GL r out
def thn_ {S N N' L R : Type} (m : SM S (Fl N L R)) (k : N → SM S (Fl N' L R)) : SM S (Fl N' L R) := bnd m fun fl => match fl with
  | .nx n => k n
  | .rt b => ret (.rt b)
  | .bk l => ret (.bk l)
  | .ct l => ret (.ct l)
/-- a block that does not come to its end -/
def esc {S N L R : Type} (m : SM S (Fl Empty L R)) : SM S (Fl N L R) := bnd m fun fl => match fl with
  | .nx n => n.elim
  | .rt b => ret (.rt b)
  | .bk l => ret (.bk l)
  | .ct l => ret (.ct l)
inductive Lp (L R : Type) where
  | dn (l : L)
  | rt (b : R)
/-- for: the items, the body, the loop's state -/
def forM_ {S A L R : Type} : List A → (L → A → SM S (Fl L L R)) → L → SM S (Lp L R)
  | [], _, l => ret (.dn l)
  | x :: xs, f, l => bnd (f l x) fun fl => match fl with
    | .nx l' => forM_ xs f l'
    | .ct l' => forM_ xs f l'
    | .bk l' => ret (.dn l')
    | .rt b => ret (.rt b)
/-- while: fuel, test, body -/
def whileM_ {S L R : Type} : Nat → (L → SM S Bool) → (L → SM S (Fl L L R)) → L → SM S (Lp L R)
  | 0, _, _, _ => stk
  | n + 1, c, f, l => bnd (c l) fun k => if k then bnd (f l) fun fl => (match fl with
    | .nx l' => whileM_ n c f l'
    | .ct l' => whileM_ n c f l'
    | .bk l' => ret (.dn l')
    | .rt b => ret (.rt b)) else ret (.dn l)
def lpM {S N L L' R : Type} (m : SM S (Lp L R)) (k : L → SM S (Fl N L' R)) : SM S (Fl N L' R) := bnd m fun fl => match fl with
  | .dn l => k l
  | .rt b => ret (.rt b)
section
variable {X : Cx} {S : Type} {F : FC X.K S} {N N' L L' R : Type} {G G1 G2 : S → List Slot} {GN : N → S → List Slot} {GJ : N' → S → List Slot} {GL : L → S → List Slot} {GP : L' → S → List Slot} {r : Rp R} {pos p0 p1 : Pos} {rest : List Stmt} {tr : TS}
theorem bx_end (n : N) (hw : ∀ s, Weak (G s) (GN n s)) : BX X F [] tNext G GN GL r (ret (.nx n)) :=
  ⟨pss_nil, fun T t σ s H D h q => q σ H (h.weak (hw s))⟩
theorem bx_asg {U : Type} {r1 : Rp U} {e : Expr} {te : TE} {m : SM S U} {out : U → SM S (Fl N L R)} {x : Str} (i : Nat) {gs : S → Slot} (hN : X.N.Nodup) (h : EX X F e te G G1 r1 m) (hb : ∀ a, BX X F rest tr (fun s => (G1 s).set i (.is r1 a)) GN GL r (out a)) (ha : Inhabited U)
    (he : ∀ s, (G1 s)[i]? = some (gs s)) (hs : swapsWith e (some (.Name x p0)) pos.line X.env = pure false := by rfl) (hi : X.N[i]? = some x := by rfl) (hx : Loc X.env.scope x := by first | exact Or.inl rfl | exact Or.inr rfl) (hf : X.fn x = true ∨ X.env.scope.names.lookup x = some .local := by first | exact .inl rfl | exact .inr rfl) :
    BX X F (.Assign [.Name x p0] e pos :: rest) (tSeq (tAsg te (gName i)) tr) G GN GL r (bnd m out) :=
  ⟨pss_cons (ps_set hN hi hx h.pe hs hf) (hb ha.default).ps, fun T t σ s H D h0 q =>
    h.go T t σ s H _ h0 (wp_mono (wp_bnd q) (fun a s1 q1 v H1 at1 => (hb a).go T t _ s1 H1 D (at1.store i (he s1)) q1) fun e s z => z σ)⟩
/-- a comprehension given to a name on one line -/
theorem bx_asgW {U : Type} {r1 : Rp U} {st : Stmt} {te : TE} {m : SM S U} {out : U → SM S (Fl N L R)} (i : Nat) {gs : S → Slot} (hp : PS X st (tAsg te (gName i))) (h : GE F te G G1 r1 m) (hb : ∀ a, BX X F rest tr (fun s => (G1 s).set i (.is r1 a)) GN GL r (out a)) (ha : Inhabited U)
    (he : ∀ s, (G1 s)[i]? = some (gs s)) : BX X F (st :: rest) (tSeq (tAsg te (gName i)) tr) G GN GL r (bnd m out) :=
  ⟨pss_cons hp (hb ha.default).ps, fun T t σ s H D h0 q =>
    h T t σ s H _ h0 (wp_mono (wp_bnd q) (fun a s1 q1 v H1 at1 => (hb a).go T t _ s1 H1 D (at1.store i (he s1)) q1) fun e s z => z σ)⟩
/-- a target of several names -/
theorem bx_tgt {U : Type} {r1 : Rp U} {e tg : Expr} {te : TE} {g : TG} {ws : List Nat} {Gt : S → U → List Slot} {m : SM S U} {out : U → SM S (Fl N L R)} (h : EX X F e te G G1 r1 m) (hg : ∀ s, EG X F tg g ws r1 (G1 s) (Gt s)) (hb : ∀ a, BX X F rest tr (fun s => Gt s a) GN GL r (out a)) (ha : Inhabited U) (hS : Inhabited S)
    (hs : swapsWithSole [tg] e pos.line X.env = pure false := by rfl) (hw : swappedStores [tg] e X.env = pure none := by rfl) (h1 : (assignEach [tg] X.env).map (·.2) = [assign tg X.env] := by rfl) :
    BX X F (.Assign [tg] e pos :: rest) (tSeq (tAsg te g) tr) G GN GL r (bnd m out) :=
  ⟨pss_cons (ps_asg h.pe (hg hS.default).pg hs hw h1) (hb ha.default).ps, fun T t σ s H D h0 q =>
    h.go T t σ s H _ h0 (wp_mono (wp_bnd q) (fun a s1 q1 v H1 at1 => (hg s1).go T t σ H1 v a _ at1 fun σ' at2 _ _ => (hb a).go T t σ' s1 H1 D at2 q1) fun e s z => z σ)⟩
/-- a, b = e1, e2 -/
theorem bx_par {U W : Type} {r1 : Rp U} {r2 : Rp W} {a b : Expr} {ta tb : TE} {m1 : SM S U} {m2 : SM S W} {out : U → W → SM S (Fl N L R)} {x y : Str} {px py pt pt2 : Pos} {kt k2 : Nat} (i j : Nat) {gs gs' : S → Slot} (hN : X.N.Nodup) (hc : X.calm = true) (hij : i ≠ j)
    (h1 : EX X F a ta G G1 r1 m1) (h2 : EX X F b tb G1 G2 r2 m2) (hb : ∀ a b, BX X F rest tr (fun s => ((G2 s).set j (.is r2 b)).set i (.is r1 a)) GN GL r (out a b)) (ha : Inhabited U) (ha2 : Inhabited W) (he : ∀ s, (G2 s)[i]? = some (gs s)) (he2 : ∀ s, (G2 s)[j]? = some (gs' s))
    (hw : swappedStores [.Tuple [.Name x px, .Name y py] kt pt] (.Tuple [a, b] k2 pt2) X.env = pure (some [x, y]) := by rfl) (hs : swapsWithSole [.Tuple [.Name x px, .Name y py] kt pt] (.Tuple [a, b] k2 pt2) pos.line X.env = pure false := by rfl)
    (hi : X.N[i]? = some x := by rfl) (hj : X.N[j]? = some y := by rfl) (hx : X.env.scope.names.lookup x = some .local := by rfl) (hy : X.env.scope.names.lookup y = some .local := by rfl) (hsa : PySem.W.isStarred a = false := by rfl) (hsb : PySem.W.isStarred b = false := by rfl) :
    BX X F (.Assign [.Tuple [.Name x px, .Name y py] kt pt] (.Tuple [a, b] k2 pt2) pos :: rest) (tSeq (tPar i j (tCons ta (tCons tb tNil))) tr) G GN GL r (bnd m1 fun a => bnd m2 fun b => out a b) :=
  ⟨pss_cons (ps_par hc hN hi hj hij hx hy (pa_cons h1.pe (pa_cons h2.pe pa_nil (star1 hsb)) (star1 hsa)) hw hs) (hb ha.default ha2.default).ps, fun T t σ s H D h0 q => by
    refine h1.go T t σ s H _ h0 (wp_mono (wp_bnd q) (fun a s1 q1 v H1 at1 => ?_) fun e s z => z σ)
    refine h2.go _ _ σ s1 H1 _ at1 (wp_mono (wp_bnd q1) (fun b s2 q2 w H2 at2 => ?_) fun e s z => z σ)
    refine ⟨v, w, rfl, (hb a b).go T t _ s2 H2 D ?_ q2⟩
    have z := (at2.store j (he2 s2)).store i (by rw [List.getElem?_set_ne (Ne.symm hij)]; exact he s2)
    rwa [List.set_comm (l := σ) _ _ (Ne.symm hij)] at z⟩
theorem bx_ret {e : Expr} {te : TE} {m : SM S R} (h : EX X F e te G G1 r m) (hw : ∀ s, Weak (G1 s) (F.io s)) : BX X F (.Return (some e) pos :: rest) (tSeq (tRet te) tNever) G GN GL r (bnd m fun a => ret (.rt a)) :=
  ⟨pss_cons (ps_ret h.pe) pss_never, fun T t σ s H D h0 q =>
    h.go T t σ s H _ h0 (wp_mono (wp_bnd q) (fun a s1 q1 v H1 at1 => q1 v σ H1 (by
      have z := at1.weak (hw s1)
      exact At.dropM (T0 := [_]) (t0 := [v]) (T := []) (t := []) rfl (T1 := T) (t1 := t) (by obtain ⟨A1, A2, hz⟩ := h0; have := hz.tmp.length; simpa using this) (by simpa using z))) fun e s z => z σ)⟩
theorem bx_expr {U : Type} {r1 : Rp U} {e : Expr} {te : TE} {m : SM S U} {out : SM S (Fl N L R)} (h : EX X F e te G G1 r1 m) (hb : BX X F rest tr G1 GN GL r out) (hs : swapsWith e none pos.line X.env = pure false := by rfl) :
    BX X F (.Expr e pos :: rest) (tSeq (tDrop te) tr) G GN GL r (bnd m fun _ => out) :=
  ⟨pss_cons (ps_expr h.pe hs) hb.ps, fun T t σ s H D h0 q =>
    h.go T t σ s H _ h0 (wp_mono (wp_bnd q) (fun a s1 q1 v H1 at1 => hb.go T t σ s1 H1 D at1.pop q1) fun e s z => z σ)⟩
theorem bx_pass {out : SM S (Fl N L R)} (hb : BX X F rest tr G GN GL r out) : BX X F (.Pass pos :: rest) (tSeq tNext tr) G GN GL r out := ⟨pss_cons ps_pass hb.ps, fun T t σ s H D h0 q => hb.go T t σ s H D h0 q⟩
theorem bx_brk (l : L) (hw : ∀ s, Weak (G s) (GL l s)) : BX X F (.Break pos :: rest) (tSeq tBreak tNever) G GN GL r (ret (.bk l)) := ⟨pss_cons ps_break pss_never, fun T t σ s H D h0 q => q σ H (h0.weak (hw s))⟩
theorem bx_cnt (l : L) (hw : ∀ s, Weak (G s) (GL l s)) : BX X F (.Continue pos :: rest) (tSeq tCont tNever) G GN GL r (ret (.ct l)) := ⟨pss_cons ps_continue pss_never, fun T t σ s H D h0 q => q σ H (h0.weak (hw s))⟩
theorem flp_mono {T : List Slot} {t : List V} {D D' : Ends} {fl : Fl N L R} {s : S} (h : FlP F T t GN GL r D fl s) (hn : ∀ σ H, D.nx σ H → D'.nx σ H) (hr : ∀ v H, D.rt v H → D'.rt v H) (hb : ∀ σ H, D.bk σ H → D'.bk σ H) (hc : ∀ σ H, D.ct σ H → D'.ct σ H) : FlP F T t GN GL r D' fl s := by
  cases fl with
  | nx n => exact fun σ' H' z => hn _ _ (h σ' H' z)
  | rt b => exact fun v σ' H' z => hr _ _ (h v σ' H' z)
  | bk l => exact fun σ' H' z => hb _ _ (h σ' H' z)
  | ct l => exact fun σ' H' z => hc _ _ (h σ' H' z)
theorem bx_if {c : Expr} {A B : List Stmt} {tc : TT} {ta tb : TS} {mc : SM S Bool} {oA oB : SM S (Fl N' L R)} {out : N' → SM S (Fl N L R)} (hc : ET X F c tc G G1 mc) (h1 : BX X F A ta G1 GJ GL r oA) (h2 : BX X F B tb G1 GJ GL r oB) (hr : ∀ n, BX X F rest tr (GJ n) GN GL r (out n)) (ha : Inhabited N') :
    BX X F (.If c A B pos :: rest) (tSeq (tIfS tc ta tb) tr) G GN GL r (bnd mc fun k => thn_ (if k then oA else oB) out) :=
  ⟨pss_cons (ps_if hc.pt h1.ps h2.ps) (hr ha.default).ps, fun T t σ s H D h0 q => by
    refine hc.go T t σ s H _ h0 (wp_mono (wp_bnd q) (fun k s1 q1 H1 at1 => ?_) fun e s z => z σ)
    have fin : ∀ {fl : Fl N' L R} {s2 : S}, ((match fl with | .nx n => out n | .rt b => ret (.rt b) | .bk l => ret (.bk l) | .ct l => ret (.ct l) : SM S (Fl N L R)) s2).wp (FlP F T t GN GL r D) (XA F) → FlP F T t GJ GL r { D with nx := tr D } fl s2 := fun {fl s2} q2 => by
      cases fl with
      | nx n => exact fun σ' H' at2 => (hr n).go T t σ' s2 H' D at2 q2
      | rt b => exact q2
      | bk l => exact q2
      | ct l => exact q2
    cases k with
    | true => exact h1.go T t σ s1 H1 { D with nx := tr D } at1 (wp_mono (wp_bnd q1) (fun fl s2 q2 => fin q2) fun _ _ z => z)
    | false => exact h2.go T t σ s1 H1 { D with nx := tr D } at1 (wp_mono (wp_bnd q1) (fun fl s2 q2 => fin q2) fun _ _ z => z)⟩
/-- if whose suite does not come to its end, without else -/
theorem bx_ifr {c : Expr} {A : List Stmt} {tc : TT} {ta : TS} {mc : SM S Bool} {oA : SM S (Fl Empty L R)} {out : SM S (Fl N L R)} {GE_ : Empty → S → List Slot} (hc : ET X F c tc G G1 mc) (h1 : BX X F A ta G1 GE_ GL r oA) (hr : BX X F rest tr G1 GN GL r out) :
    BX X F (.If c A [] pos :: rest) (tSeq (tIfS tc ta tNext) tr) G GN GL r (bnd mc fun k => if k then esc oA else out) :=
  ⟨pss_cons (ps_if hc.pt h1.ps pss_nil) hr.ps, fun T t σ s H D h0 q => by
    refine hc.go T t σ s H _ h0 (wp_mono (wp_bnd q) (fun k s1 q1 H1 at1 => ?_) fun e s z => z σ)
    cases k with
    | true =>
      refine h1.go T t σ s1 H1 { D with nx := tr D } at1 (wp_mono (wp_bnd q1) (fun fl s2 q2 => ?_) fun _ _ z => z)
      cases fl with
      | nx n => exact n.elim
      | rt b => exact q2
      | bk l => exact q2
      | ct l => exact q2
    | false => exact hr.go T t σ s1 H1 D at1 q1⟩
/-- both suites do not come to their ends -/
theorem bx_ife {c : Expr} {A B : List Stmt} {tc : TT} {ta tb : TS} {mc : SM S Bool} {oA oB : SM S (Fl Empty L R)} {GE_ : Empty → S → List Slot} {GE2 : Empty → S → List Slot} (hc : ET X F c tc G G1 mc) (h1 : BX X F A ta G1 GE_ GL r oA) (h2 : BX X F B tb G1 GE2 GL r oB) :
    BX X F (.If c A B pos :: rest) (tSeq (tIfS tc ta tb) tNever) G GN GL r (bnd mc fun k => if k then esc oA else esc oB) :=
  ⟨pss_cons (ps_if hc.pt h1.ps h2.ps) pss_never, fun T t σ s H D h0 q => by
    refine hc.go T t σ s H _ h0 (wp_mono (wp_bnd q) (fun k s1 q1 H1 at1 => ?_) fun e s z => z σ)
    cases k with
    | true =>
      refine h1.go T t σ s1 H1 _ at1 (wp_mono (wp_bnd q1) (fun fl s2 q2 => ?_) fun _ _ z => z)
      cases fl with
      | nx n => exact n.elim
      | rt b => exact q2
      | bk l => exact q2
      | ct l => exact q2
    | false =>
      refine h2.go T t σ s1 H1 _ at1 (wp_mono (wp_bnd q1) (fun fl s2 q2 => ?_) fun _ _ z => z)
      cases fl with
      | nx n => exact n.elim
      | rt b => exact q2
      | bk l => exact q2
      | ct l => exact q2⟩
/-- for -/
theorem bx_for {A : Type} {rx : Rp A} {tg e : Expr} {body : List Stmt} {wi : TI} {g : TG} {ws : List Nat} {tb : TS} {mi : SM S (List A)} {f : L' → A → SM S (Fl L' L' R)} {out : L' → SM S (Fl N L R)} {Gt : L' → S → A → List Slot} {C : List Slot → Prop}
    (hp : PassesOwn (model X.prog X.w) X.A X.env X.xe) (hc : X.calm = true) (GP : L' → S → List Slot) (l0 : L') (hi : EI X F tg e wi G G1 C rx mi) (hw : ∀ s, Weak (G1 s) (GP l0 s)) (hC : ∀ l s, C (GP l s)) (hg : ∀ l s, EG X F tg g ws rx (GP l s) (Gt l s))
    (hb : ∀ l x, BX X F body tb (fun s => Gt l s x) GP GP r (f l x)) (hr : ∀ l, BX X F rest tr (GP l) GN GL r (out l)) (hA : Inhabited A) (hS : Inhabited S) (hs : ∀ x, foldedSetIterable e X.env x = pure x := by intro _; rfl) :
    BX X F (.For tg e body [] pos :: rest) (tSeq (tFor wi g tb) tr) G GN GL r (bnd mi fun xs => lpM (forM_ xs f l0) out) :=
  ⟨pss_cons (ps_for hp hc hi.pi (hg l0 hS.default).pg (hb l0 hA.default).ps hs) (hr l0).ps, fun T t σ s H D h0 q => by
    refine hi.go T t σ s H _ h0 (wp_mono (wp_bnd q) (fun xs s1 q1 J gv hv H1 src at1 => ?_) fun e s z => z σ)
    refine ⟨fun i m σ H => m = xs.length - i ∧ i ≤ xs.length ∧ ∃ l s, At F (gv ++ T) (hv ++ t) (GP l s) σ H ∧ ((lpM (forM_ (xs.drop i) f l) out : SM S (Fl N L R)) s).wp (FlP F T t GN GL r D) (XA F),
      ⟨xs.length, by simp, Nat.zero_le _, l0, s1, at1.weak (hw s1), by simpa using q1⟩, ?_⟩
    rintro i m σ H ⟨rfl, hi, l, s, at2, q2⟩
    by_cases hlt : i < xs.length
    · refine .inr ⟨src.go (T1 := []) (t1 := []) (hC l s) rfl at2 hlt, fun σ' H' => ∃ l s, At F (gv ++ T) (hv ++ t) (GP l s) σ' H' ∧ ((lpM (forM_ (xs.drop (i + 1)) f l) out : SM S (Fl N L R)) s).wp (FlP F T t GN GL r D) (XA F),
        fun σ' H' ⟨l, s, at3, q3⟩ => ⟨xs.length - (i + 1), by omega, rfl, hlt, l, s, at3, q3⟩, fun x H' hy => ?_⟩
      have at3 := src.yld (T1 := []) (t1 := []) (hC l s) rfl at2 hy (List.getElem?_eq_getElem hlt)
      refine (hg l s).go _ _ σ H' x xs[i] _ at3 fun σ2 at4 _ _ => ?_
      rw [List.drop_eq_getElem_cons hlt] at q2
      refine (hb l xs[i]).go (gv ++ T) (hv ++ t) σ2 s H' _ at4 ?_
      refine wp_mono (wp_bnd (wp_bnd q2)) (fun fl s3 q3 => ?_) fun _ _ z => z
      cases fl with
      | nx l' => exact fun σ' H' z => ⟨l', s3, z, bnd_wp q3⟩
      | ct l' => exact fun σ' H' z => ⟨l', s3, z, bnd_wp q3⟩
      | bk l' => exact fun σ' H' z => (hr l').go T t σ' s3 H' D (At.drop src.len z) q3
      | rt b => exact q3
    · have e : i = xs.length := by omega
      subst e
      refine .inl ⟨src.stop (T1 := []) (t1 := []) (hC l s) rfl at2 (Nat.le_refl _), ?_⟩
      rw [List.drop_length] at q2
      exact (hr l).go T t σ s H D (At.drop src.len at2) (wp_bnd q2)⟩
/-- while -/
theorem bx_while {c : Expr} {body : List Stmt} {tc : TT} {tb : TS} {mc : L' → SM S Bool} {f : L' → SM S (Fl L' L' R)} {out : L' → SM S (Fl N L R)}
    (hp : PassesOwn (model X.prog X.w) X.A X.env X.xe) (GP : L' → S → List Slot) (l0 : L') (n : Nat) (hw : ∀ s, Weak (G s) (GP l0 s)) (hc : ∀ l, ET X F c tc (GP l) (GP l) (mc l)) (hb : ∀ l, BX X F body tb (GP l) GP GP r (f l)) (hr : ∀ l, BX X F rest tr (GP l) GN GL r (out l)) :
    BX X F (.While c body [] pos :: rest) (tSeq (tWhile tc tb) tr) G GN GL r (lpM (whileM_ n mc f l0) out) :=
  ⟨pss_cons (ps_while hp (hc l0).pt (hb l0).ps) (hr l0).ps, fun T t σ s H D h0 q => by
    refine ⟨fun m σ H => ∃ l s, At F T t (GP l s) σ H ∧ ((lpM (whileM_ m mc f l) out : SM S (Fl N L R)) s).wp (FlP F T t GN GL r D) (XA F), ⟨n, l0, s, h0.weak (hw s), q⟩, ?_⟩
    rintro m σ H ⟨l, s, at1, q1⟩
    cases m with
    | zero => exact (wp_bnd q1).elim
    | succ m =>
      refine (hc l).go T t σ s H _ at1 (wp_mono (wp_bnd (wp_bnd q1)) (fun k s2 q2 H2 at2 => ?_) fun e s z => z σ)
      cases k with
      | true =>
        refine ⟨fun σ' H' => ∃ l s, At F T t (GP l s) σ' H' ∧ ((lpM (whileM_ m mc f l) out : SM S (Fl N L R)) s).wp (FlP F T t GN GL r D) (XA F), fun σ' H' z => ⟨m, Nat.lt_succ_self m, z⟩, ?_⟩
        refine (hb l).go T t σ s2 H2 _ at2 (wp_mono (wp_bnd q2) (fun fl s3 q3 => ?_) fun _ _ z => z)
        cases fl with
        | nx l' => exact fun σ' H' z => ⟨l', s3, z, bnd_wp q3⟩
        | ct l' => exact fun σ' H' z => ⟨l', s3, z, bnd_wp q3⟩
        | bk l' => exact fun σ' H' z => (hr l').go T t σ' s3 H' D z q3
        | rt b => exact q3
      | false => exact (hr l).go T t σ s2 H2 D at2 q2⟩
end
end Td

set_option Elab.async false
set_option linter.all false
set_option maxRecDepth 100000
set_option maxHeartbeats 4000000
namespace Td
open PySem PySem.Spec PyProof.Rows L2

/-! ### a def's promise -/
def FC.c {K : PySem.W.Frag} {S : Type} (H : Hp) (I M0 : List Addr) : FC K S := ⟨H, I, M0, fun _ => [], fun _ _ _ _ => True⟩
theorem At.re {K : PySem.W.Frag} {S S' : Type} {F : FC K S} {F' : FC K S'} {T : List Slot} {t : List V} {G : List Slot} {σ : L2.St} {H : Hp} (h : At F T t G σ H) (e1 : F'.H0 = F.H0) (e2 : F'.I = F.I) (e3 : F'.M0 = F.M0) : At F' T t G σ H := by
  obtain ⟨A1, A2, h⟩ := h
  obtain ⟨h1, h2, h3⟩ := h
  exact ⟨A1, A2, by rw [e3]; exact h1, by rw [e3]; exact h2, ⟨h3.nd, by rw [e3]; exact h3.out, by rw [e1, e2]; exact h3.new, by rw [e2]; exact h3.has, by rw [e1, e2]; exact h3.stay, by rw [e1, e2, e3]; exact h3.m0⟩⟩
def SpG (K : PySem.W.Frag) {S U W : Type} (n : Nat) (Ps : U → S → List V → List Slot) (ioT : S → List Slot) (iov : List V → List V) (r : Rp W) (f : U → SM S W) : Sp := fun vs H Q E =>
  ∃ (u : U) (s : S) (I M0 : List Addr), vs.length = n ∧ At (FC.c (K := K) (S := S) H I M0) [] [] (Ps u s vs) (vs.map some) H ∧
    (f u s).wp (fun b s' => ∀ v H', At (FC.c (K := K) (S := S) H I M0) (.is r b :: ioT s') (v :: iov vs) [] [] H' → Q v H')
      (fun e s' => ∀ d v H', At (FC.c (K := K) (S := S) H I M0) (.is rPay e.pay :: ioT s') (v :: iov vs) [] [] H' → H' d = some (.xd [("value", v)]) → E (.ref (He.ga K e.cls)) (some d) H')
/-- a def without an in/out argument -/
abbrev SpP (K : PySem.W.Frag) {U W : Type} (n : Nat) (Ps : U → List Slot) (r : Rp W) (f : U → SM Unit W) : Sp := SpG K (S := Unit) n (fun u _ _ => Ps u) (fun _ => []) (fun _ => []) r f

/-- what stands in a representation does not hang on M -/
def Rp.Clo {T : Type} (r : Rp T) : Prop := ∀ {K M M' H v a B}, r.rel K M H v a B → r.rel K M' H v a B
theorem clo_pl {T : Type} {f : T → V} : (rPl f).Clo := fun h => h
theorem clo_int : rInt.Clo := fun h => h
theorem clo_bool : rBool.Clo := fun h => h
theorem clo_str : rStr.Clo := fun h => h
theorem clo_non : rNon.Clo := fun h => h
theorem clo_pair {T U : Type} {r : Rp T} {q : Rp U} (c1 : r.Clo) (c2 : q.Clo) : (rPair r q).Clo := by
  rintro K M M' H v a B ⟨p, v1, v2, B1, B2, e, hT, h1, h2, eB⟩
  exact ⟨p, v1, v2, B1, B2, e, hT, c1 h1, c2 h2, eB⟩
theorem clo_tup3 {T U W : Type} {r : Rp T} {q : Rp U} {t : Rp W} (c1 : r.Clo) (c2 : q.Clo) (c3 : t.Clo) : (rTup3 r q t).Clo := by
  rintro K M M' H v a B ⟨p, v1, v2, v3, B1, B2, B3, e, hT, h1, h2, h3, eB⟩
  exact ⟨p, v1, v2, v3, B1, B2, B3, e, hT, c1 h1, c2 h2, c3 h3, eB⟩
theorem clo_opt {T : Type} {r : Rp T} (c : r.Clo) : (rOpt r).Clo := by
  intro K M M' H v a B h
  cases a with
  | none => exact h
  | some a => exact c h
theorem clo_list {T : Type} {r : Rp T} (c : r.Clo) : (rList r).Clo := by
  rintro K M M' H v a B ⟨p, vs, A, e, hp, hA, eB⟩
  exact ⟨p, vs, A, e, hp, hA.imp fun _ _ _ _ h => c h, eB⟩
theorem clo_pay : rPay.Clo := by
  intro K M M' H v a B h
  cases a with
  | non => exact h
  | int i => exact h
  | pair a b => exact clo_pair clo_int clo_int h
  | lsI l => exact clo_list clo_int h
  | lsP l => exact clo_list (clo_pair clo_int clo_int) h
  | str x => exact h

section
variable {K : PySem.W.Frag} {S S' : Type} {F : FC K S} {T : List Slot} {t : List V} {G : List Slot} {σ : L2.St} {H H' : Hp}
/-- behind a call: what it gave, and all that stood -/
theorem At.back {U : Type} {r : Rp U} {b : U} {v : V} {M0' : List Addr} {A1 A2 : List Addr} (h : AtP F T t G σ H A1 A2) (hx : At (FC.c (K := K) (S := S') H [] M0') [.is r b] [v] [] [] H')
    (hM : r.Clo ∨ ∀ p, p ∈ A1 ++ A2 ++ F.M0 → p ∈ M0') : At F (.is r b :: T) (v :: t) G σ H' := by
  obtain ⟨X1, X2, hx⟩ := hx
  obtain ⟨B, A', eA, ⟨v', ev, hr⟩, ht⟩ := AtS.cons_inv hx.tmp
  cases ev
  cases ht
  have e2 : X2 = [] := by
    have := hx.loc
    cases this; rfl
  subst e2 eA
  have gx := hx.good
  have nB : ∀ p, p ∈ B → H p = none := fun p hp => (gx.new p (by simpa using hp)).resolve_right (by intro z; cases z)
  have st : ∀ p o, H p = some o → H' p = some o := fun p o e => gx.stay p o e (by intro z; cases z)
  have ndB : B.Nodup := by simpa using gx.nd
  have tr : ∀ p, p ∈ A1 ++ A2 ++ F.M0 → H p ≠ none := fun p hp e => by
    rcases List.mem_append.mp hp with hp | hp
    · rcases List.mem_append.mp hp with hp | hp
      · obtain ⟨o, z, _⟩ := h.tmp.trk p hp; rw [e] at z; cases z
      · obtain ⟨o, z, _⟩ := h.loc.trk p hp; rw [e] at z; cases z
    · obtain ⟨⟨o, z, _⟩, hI⟩ := h.good.m0 p hp
      have := h.good.stay p o z hI
      rw [e] at this; cases this
  have dis : ∀ p, p ∈ B → p ∉ A1 ++ A2 ++ F.M0 := fun p hp z => tr p z (nB p hp)
  have hM' : ∀ x, x ∈ (B ++ A1) ++ A2 ++ F.M0 → x ∈ A1 ++ A2 ++ F.M0 ∨ H x = none := fun x hx => by
    by_cases hB : x ∈ B
    · exact .inr (nB x hB)
    · left
      simp only [List.mem_append] at *
      grind
  refine ⟨B ++ A1, A2, .cons ⟨v, rfl, ?_⟩ ((h.tmp.grow hM').keep fun p o e _ => st p o e), (h.loc.grow hM').keep fun p o e _ => st p o e, ?_⟩
  · rcases hM with c | hM
    · exact c hr
    · refine r.grow hr fun p hp => .inl ?_
      have z := hM p
      show p ∈ (B ++ []) ++ [] ++ M0'
      simp only [List.mem_append] at *
      grind
  · refine ⟨?_, fun p hp => ?_, fun p hp => ?_, fun p hp => ?_, fun p o e hI => st p o (h.good.stay p o e hI), h.good.m0⟩
    · have := h.good.nd
      have d := dis
      simp only [List.nodup_append, List.mem_append] at *
      grind
    · have := h.good.out p
      have d := dis p
      simp only [List.mem_append] at *
      grind
    · by_cases hB : p ∈ B
      · exact .inl (h.good.fresh (nB p hB)).1
      · exact h.good.new p (by simp only [List.mem_append] at *; grind)
    · obtain ⟨o, e, z⟩ := h.good.has p hp
      exact ⟨o, st p o e, z⟩
/-- arguments as a callee's slots -/
inductive Ent (G : List Slot) : List Arg → List Slot → Prop
  | nil : Ent G [] []
  | sh {arg L P U} {r : Rp U} {a : U} (rd : Rdd G arg r a) (h : Ent G L P) : Ent G (arg :: L) (.is (sh r) a :: P)
  | cp {arg L P U} {r : Rp U} {a : U} (c : r.Cp) (rd : Rdd G arg r a) (h : Ent G L P) : Ent G (arg :: L) (.is r a :: P)
inductive EntS (G : List Slot) : List Arg → List Slot → Prop
  | nil : EntS G [] []
  | sh {arg L P U} {r : Rp U} {a : U} (rd : RdS G arg r a) (h : EntS G L P) : EntS G (arg :: L) (.is (sh r) a :: P)
  | cp {arg L P U} {r : Rp U} {a : U} (c : r.Cp) (rd : RdS G arg r a) (h : EntS G L P) : EntS G (arg :: L) (.is r a :: P)
theorem ent_at {ts vs : List V} {L : List Arg} {A1 A2 : List Addr} (h : AtP F ((tmps L).reverse ++ T) (ts.reverse ++ t) G σ H A1 A2) (av : ArgV σ L ts vs) {P : List Slot} (he : Ent G L P) : AtS K [] H P (vs.map some) [] := by
  have key : ∀ {L1 : List Arg} {P : List Slot}, Ent G L1 P → ∀ (k : Nat), L1 = L.drop k → AtS K [] H P ((vs.drop k).map some) [] := by
    intro L1 P he
    induction he with
    | nil =>
      intro k e
      have hk : L.length ≤ k := by
        have := congrArg List.length e
        simp at this
        omega
      rw [List.drop_of_length_le (by rw [(argV_len av).1]; exact hk)]
      exact .nil
    | @sh arg L1 P U r a rd _ ih =>
      intro k e
      have ek : L[k]? = some arg := by
        have := congrArg (fun l => l[0]?) e
        simpa using this.symm
      obtain ⟨v, B, ev, hr⟩ := rddM h av ek rd
      have e2 : L1 = L.drop (k + 1) := by
        have := congrArg List.tail e
        simpa using this
      have z := ih (k + 1) e2
      obtain ⟨hk, ev'⟩ := List.getElem?_eq_some_iff.mp ev
      rw [List.drop_eq_getElem_cons hk, ev']
      exact .cons (B := []) ⟨v, rfl, rfl, B, rel_nil hr, fun _ _ z => by cases z⟩ z
    | @cp arg L1 P U r a c rd _ ih =>
      intro k e
      have ek : L[k]? = some arg := by
        have := congrArg (fun l => l[0]?) e
        simpa using this.symm
      obtain ⟨v, B, ev, hr⟩ := rddM h av ek rd
      have e2 : L1 = L.drop (k + 1) := by
        have := congrArg List.tail e
        simpa using this
      have z := ih (k + 1) e2
      obtain ⟨hk, ev'⟩ := List.getElem?_eq_some_iff.mp ev
      rw [List.drop_eq_getElem_cons hk, ev']
      have eB := c hr
      subst eB
      exact .cons (B := []) ⟨v, rfl, rel_nil hr⟩ z
  exact key he 0 rfl
theorem entS_at {ts vs : List V} {L : List Arg} {A1 A2 : List Addr} (h : AtP F ((tmps L).reverse ++ T) (ts.reverse ++ t) G σ H A1 A2) (av : ArgV σ L ts vs) {P : List Slot} (he : EntS G L P) : AtS K (A1 ++ A2 ++ F.M0) H P (vs.map some) [] := by
  have key : ∀ {L1 : List Arg} {P : List Slot}, EntS G L1 P → ∀ (k : Nat), L1 = L.drop k → AtS K (A1 ++ A2 ++ F.M0) H P ((vs.drop k).map some) [] := by
    intro L1 P he
    induction he with
    | nil =>
      intro k e
      have hk : L.length ≤ k := by
        have := congrArg List.length e
        simp at this
        omega
      rw [List.drop_of_length_le (by rw [(argV_len av).1]; exact hk)]
      exact .nil
    | @sh arg L1 P U r a rd _ ih =>
      intro k e
      have ek : L[k]? = some arg := by
        have := congrArg (fun l => l[0]?) e
        simpa using this.symm
      obtain ⟨v, ev, hr⟩ := rdS h av ek rd
      have e2 : L1 = L.drop (k + 1) := by
        have := congrArg List.tail e
        simpa using this
      have z := ih (k + 1) e2
      obtain ⟨hk, ev'⟩ := List.getElem?_eq_some_iff.mp ev
      rw [List.drop_eq_getElem_cons hk, ev']
      exact .cons (B := []) ⟨v, rfl, hr⟩ z
    | @cp arg L1 P U r a c rd _ ih =>
      intro k e
      have ek : L[k]? = some arg := by
        have := congrArg (fun l => l[0]?) e
        simpa using this.symm
      obtain ⟨v, ev, _, B, hr, _⟩ := rdS h av ek rd
      have e2 : L1 = L.drop (k + 1) := by
        have := congrArg List.tail e
        simpa using this
      have z := ih (k + 1) e2
      obtain ⟨hk, ev'⟩ := List.getElem?_eq_some_iff.mp ev
      rw [List.drop_eq_getElem_cons hk, ev']
      have eB := c hr
      subst eB
      exact .cons (B := []) ⟨v, rfl, hr⟩ z
  exact key he 0 rfl
theorem good_c {M0 : List Addr} (h : ∀ p, p ∈ M0 → ∃ o, H p = some o ∧ isTup o = false) : Good (FC.c (K := K) (S := S') H [] M0) H [] :=
  ⟨.nil, fun _ z => (nomatch z), fun _ z => (nomatch z), fun _ z => (nomatch z), fun _ _ e _ => e, fun p hp => ⟨h p hp, fun z => (nomatch z)⟩⟩
theorem AtP.m_trk {A1 A2 : List Addr} (h : AtP F T t G σ H A1 A2) : ∀ p, p ∈ A1 ++ A2 ++ F.M0 → ∃ o, H p = some o ∧ isTup o = false := fun p hp => by
  rcases List.mem_append.mp hp with hp | hp
  · rcases List.mem_append.mp hp with hp | hp
    · exact h.tmp.trk p hp
    · exact h.loc.trk p hp
  · obtain ⟨⟨o, z, zt⟩, hI⟩ := h.good.m0 p hp
    exact ⟨o, h.good.stay p o z hI, zt⟩
/-- the reading of a call of a def without an in/out argument -/
theorem go_call {U W A : Type} {n : Nat} {Ps : U → List Slot} {r : Rp W} {f : U → SM Unit W} {fa : A → SM Unit W} {E : XK} {ta : TA} {G G' : S → List Slot} {LA : A → List Arg} {mA : SM S A} (u : A → U) (hf : ∀ a, fa a = f (u a)) (h : GA F ta G G' LA mA) (hn : ∀ a, (LA a).length = n)
    (he : (r.Clo ∧ ∀ a s, Ent (G' s) (LA a) (Ps (u a))) ∨ ∀ a s, EntS (G' s) (LA a) (Ps (u a))) (hW : ∀ c d σ H, F.W c d σ H → E c d H) (hw : ∀ s, Weak (G' s) (F.io s)) :
    GE F (tCall (SpP K n Ps r f) [] E ta) G G' r (bnd mA fun a => lft (fa a)) := by
  intro T t σ s H Q h0 q
  have ef : fa = fun a => f (u a) := funext hf
  subst ef
  refine h T t σ s H _ h0 (wp_mono (wp_bnd q) (fun a s1 q1 ts vs H1 at1 av => ?_) fun _ _ z => z)
  have q2 := wp_lft q1
  have lv : (vs ++ ([] : List V)).length = n := by rw [List.append_nil, (argV_len av).1, hn]
  obtain ⟨A1, A2, at1⟩ := at1
  have run : ∀ (M0 : List Addr), (∀ p, p ∈ M0 → ∃ o, H1 p = some o ∧ isTup o = false) → AtS K M0 H1 (Ps (u a)) (vs.map some) [] → (r.Clo ∨ ∀ p, p ∈ A1 ++ A2 ++ F.M0 → p ∈ M0) → SpP K n Ps r f (vs ++ []) H1 Q E := by
    intro M0 hM0 hat hor
    have hat2 : AtS K ([] ++ [] ++ (FC.c (K := K) (S := Unit) H1 [] M0).M0) H1 (Ps (u a)) ((vs ++ []).map some) [] := by
      rw [List.append_nil vs]
      exact hat
    refine ⟨u a, (), [], M0, lv, ⟨[], [], .nil, hat2, good_c hM0⟩, wp_mono q2 (fun b _ q3 v H' hx => ?_) (fun e _ q3 d v H' hx hd => ?_)⟩
    · have z := At.back at1 hx hor
      exact q3 v H' (At.dropU (by simp [(argV_len av).2]) z)
    · have z := At.back at1 hx (.inl clo_pay)
      have z2 := (At.dropU (by simp [(argV_len av).2]) z).weak (hw s1)
      refine hW _ _ σ _ (q3 d v H' ?_ hd)
      exact At.dropM (T0 := [_]) (t0 := [v]) (T := []) (t := []) rfl (T1 := T) (t1 := t) (by obtain ⟨B1, B2, hz⟩ := h0; have := hz.tmp.length; simpa using this) (by simpa using z2)
  rcases he with ⟨c, he⟩ | he
  · exact run [] (fun _ z => by cases z) (ent_at at1 av (he a s1)) (.inl c)
  · exact run (A1 ++ A2 ++ F.M0) at1.m_trk (entS_at at1 av (he a s1)) (.inr fun _ z => z)
end
section
variable {X : Cx} {S : Type} {F : FC X.K S} {U W A : Type} {n k : Nat} {Ps : U → List Slot} {r : Rp W} {f : U → SM Unit W} {E : XK} {ta : TA} {G G' : S → List Slot} {LA : A → List Arg} {mA : SM S A} {CX : CXT} {fA : Addr} {fd : FuncData} {ps : List Str} {x : Str} {p pos : Pos} {e : Expr} {es : List Expr}
theorem ex_call {fm : A → SM Unit W} (u : A → U) (FO : FnOk X.prog X.w X.K X.mg X.base CX k fA fd ps (SpP X.K n Ps r f)) (hr : Room k X.A) (hg : Gl X x) (hm : X.mg x = some (.ref fA)) (hk : PySem.W.keepIn X.K (.ref fA) = true) (hb : Binds X.K fd ps []) (hx : Passes CX X E)
    (h : EA X F (e :: es) ta G G' LA mA) (hn : ∀ a, (LA a).length = n) (he : (r.Clo ∧ ∀ a s, Ent (G' s) (LA a) (Ps (u a))) ∨ ∀ a s, EntS (G' s) (LA a) (Ps (u a))) (hW : ∀ c d σ H, F.W c d σ H → E c d H) (hw : ∀ s, Weak (G' s) (F.io s))
    (hf : ∀ a, fm a = f (u a) := by intro _; rfl)
    (hst : PySem.W.isStarred e = false := by rfl) (hpl : (backTo pos (starEach es X.env)).any (·.1) = false := by rfl) (hdb : (x == ("__debug__" : Str)) = false := by decide) :
    EX X F (.Call (.Name x p) (e :: es) [] pos) (tCall (SpP X.K n Ps r f) [] E ta) G G' r (bnd mA fun a => lft (fm a)) :=
  ⟨pe_call FO hr hg hm hk hb .nil hx h.pa (hdb := hdb) (he := star1 hst) (hpl := hpl), go_call u hf h.go hn he hW hw⟩
end
end Td

set_option Elab.async false
set_option linter.all false
set_option maxRecDepth 100000
set_option maxHeartbeats 4000000
namespace Td
open PySem PySem.Spec PyProof.Rows L2

/-! ### a def's body -/
def runB {S R : Type} (m : SM S (Fl Empty Empty R)) : SM S R := bnd m fun fl => match fl with
  | .rt b => ret b
  | .nx n => n.elim
  | .bk l => l.elim
  | .ct l => l.elim
/-- a def that may come to its end: None -/
def runP {S : Type} (m : SM S (Fl Unit Empty Unit)) : SM S Unit := bnd m fun fl => match fl with
  | .rt b => ret b
  | .nx n => ret n
  | .bk l => l.elim
  | .ct l => l.elim
def uns (n : Nat) : List Slot := List.replicate n .un
section
variable {K : PySem.W.Frag} {S : Type}
theorem at_start {F : FC K S} {P : List Slot} {vs : List V} {H : Hp} {N : List Str} (h : At F [] [] P (vs.map some) H) : At F [] [] (P ++ uns (N.length - vs.length)) (start N vs) H := by
  obtain ⟨A1, A2, h⟩ := h
  have z : AtS K (A1 ++ A2 ++ F.M0) H (uns (N.length - vs.length)) (List.replicate (N.length - vs.length) none) [] := by
    have y := AtS.un (K := K) (H := H) (M := A1 ++ A2 ++ F.M0) (s := List.replicate (N.length - vs.length) (none : Option V))
    simpa [uns] using y
  have w := h.loc.append z
  rw [List.append_nil] at w
  exact ⟨A1, A2, h.tmp, w, h.good⟩
theorem AtS.uns_nil {M : List Addr} {H : Hp} : ∀ {n : Nat} {s : List (Option V)} {A : List Addr}, AtS K M H (uns n) s A → A = []
  | 0, _, _, h => by cases h; rfl
  | n + 1, _, _, h => by
    unfold uns at h
    rw [List.replicate_succ] at h
    cases h with
    | @cons _ _ B _ _ A h t =>
      rw [show B = [] from h, AtS.uns_nil (n := n) t]; rfl
theorem at_exit {F : FC K S} {T : List Slot} {t : List V} {n : Nat} {σ : L2.St} {H : Hp} (h : At F T t (uns n) σ H) : At F T t [] [] H := by
  obtain ⟨A1, A2, h⟩ := h
  have e := AtS.uns_nil h.loc
  subst e
  exact ⟨A1, [], h.tmp, .nil, h.good⟩
/-- the in/out thing in slot 0 becomes a temp, the slots go -/
theorem at_exitIo {F : FC K S} {g : Slot} {x v : V} {U : Type} {r : Rp U} {a : U} {n : Nat} {σ : L2.St} {H : Hp} (h : At F [g] [x] (.pn v r a :: uns n) σ H) : At F [g, .is r a] [x, v] [] [] H := by
  obtain ⟨A1, A2, h⟩ := h
  have hl := h.loc
  cases hl with
  | @cons _ y B _ s A hs ht =>
    obtain ⟨ey, hr⟩ := hs
    have e := AtS.uns_nil ht
    subst e
    obtain ⟨C, A', eA, h1, h2⟩ := AtS.cons_inv h.tmp
    cases h2
    subst eA
    have hM : ∀ p, p ∈ (C ++ (B ++ [])) ++ [] ++ F.M0 → p ∈ (C ++ []) ++ (B ++ []) ++ F.M0 ∨ H p = none := fun p hp => .inl (by simp only [List.append_nil, List.mem_append] at *; grind)
    exact ⟨C ++ (B ++ []), [], .cons (Slot.ok_grow h1 hM) (.cons ⟨v, rfl, r.grow hr hM⟩ .nil), .nil, h.good.sub (by simpa using h.good.nd) fun p hp => by simp only [List.append_nil, List.mem_append] at *; grind⟩
end
section
variable {P : Program} {w : World} {K : PySem.W.Frag} {mg : Str → Option Value} {base : Heap} {x qual : Str} {params : Arguments} {body : List Stmt} {scope : Scope} {f : Addr} {fd : FuncData} {N ps : List Str} {k : Nat}
/-- a def without an in/out argument: by its body -/
theorem fn_pure {U W : Type} {Ps : U → List Slot} {r : Rp W} {fm : U → SM Unit W} (FD : FunD K x qual params body scope [] [] f fd) (Sc : FnScope N ps scope) (out : U → SM Unit (Fl Empty Empty W)) (hfm : ∀ u, fm u = runB (out u))
    (hbody : ∀ (u : U) (cdv : Value) (A : Around) (outer : List Env) (s : Shared) (H : Hp) (E : XK), Room k (A.deeper (envOfC qual scope s.heap.objs.size f cdv)) →
      ∀ F : FC K Unit, F.io = (fun _ => uns N.length) → F.W = (fun c d _ H' => E c d H') → ∃ t, BX (cxOf (L2.CX P w) P w K mg base N qual scope f cdv A outer s H E) F body t (fun _ => Ps u ++ uns (N.length - ps.length)) (fun (e : Empty) _ => e.elim) (fun (e : Empty) _ => e.elim) r (out u)) :
    FnOk P w K mg base (L2.CX P w) (k + 1) f fd ps (SpP K ps.length Ps r fm) := by
  refine FD.ok Sc (fun vs H Q E h => ?_) (fun cdv A outer s H vs Q E hr h => ?_)
  · obtain ⟨u, _, _, _, h, _⟩ := h
    exact h
  · obtain ⟨u, s0, I, M0, hl, at0, q⟩ := h
    obtain ⟨t, hB⟩ := hbody u cdv A outer s H E hr ⟨H, I, M0, fun _ => uns N.length, fun c d _ H' => E c d H'⟩ rfl rfl
    refine ⟨t, hB.ps, hB.go [] [] (start N vs) s0 H _ ?_ ?_⟩
    · have z := at_start (N := N) at0
      rw [hl] at z
      exact z.re rfl rfl rfl
    · rw [hfm u] at q
      refine wp_mono (wp_bnd q) (fun fl s1 q1 => ?_) (fun e s1 q1 σ d v H' h1 hd => q1 d v H' ((at_exit h1).re rfl rfl rfl) hd)
      cases fl with
      | nx n => exact n.elim
      | bk n => exact n.elim
      | ct n => exact n.elim
      | rt b => exact fun v σ' H' h1 => q1 v H' ((at_exit h1).re rfl rfl rfl)
theorem fn_proc {U : Type} {Ps : U → List Slot} {fm : U → SM Unit Unit} (FD : FunD K x qual params body scope [] [] f fd) (Sc : FnScope N ps scope) (out : U → SM Unit (Fl Unit Empty Unit)) (hfm : ∀ u, fm u = runP (out u))
    (hbody : ∀ (u : U) (cdv : Value) (A : Around) (outer : List Env) (s : Shared) (H : Hp) (E : XK), Room k (A.deeper (envOfC qual scope s.heap.objs.size f cdv)) →
      ∀ F : FC K Unit, F.io = (fun _ => uns N.length) → F.W = (fun c d _ H' => E c d H') → ∃ t, BX (cxOf (L2.CX P w) P w K mg base N qual scope f cdv A outer s H E) F body t (fun _ => Ps u ++ uns (N.length - ps.length)) (fun (_ : Unit) _ => uns N.length) (fun (e : Empty) _ => e.elim) rNon (out u)) :
    FnOk P w K mg base (L2.CX P w) (k + 1) f fd ps (SpP K ps.length Ps rNon fm) := by
  refine FD.ok Sc (fun vs H Q E h => ?_) (fun cdv A outer s H vs Q E hr h => ?_)
  · obtain ⟨u, _, _, _, h, _⟩ := h
    exact h
  · obtain ⟨u, s0, I, M0, hl, at0, q⟩ := h
    obtain ⟨t, hB⟩ := hbody u cdv A outer s H E hr ⟨H, I, M0, fun _ => uns N.length, fun c d _ H' => E c d H'⟩ rfl rfl
    refine ⟨t, hB.ps, hB.go [] [] (start N vs) s0 H _ ?_ ?_⟩
    · have z := at_start (N := N) at0
      rw [hl] at z
      exact z.re rfl rfl rfl
    · rw [hfm u] at q
      refine wp_mono (wp_bnd q) (fun fl s1 q1 => ?_) (fun e s1 q1 σ d v H' h1 hd => q1 d v H' ((at_exit h1).re rfl rfl rfl) hd)
      cases fl with
      | nx n => exact fun σ' H' h1 => q1 .non H' ((At.push (r := rNon) (a := ()) (v := V.non) (at_exit h1) fun _ => ⟨rfl, rfl⟩).re rfl rfl rfl)
      | bk n => exact n.elim
      | ct n => exact n.elim
      | rt b => exact fun v σ' H' h1 => q1 v H' ((at_exit h1).re rfl rfl rfl)
/-- a def whose first argument is in/out -/
abbrev SpI (K : PySem.W.Frag) {S U W : Type} (n : Nat) (rio : Rp S) (Pr : U → List Slot) (r : Rp W) (f : U → SM S W) : Sp := SpG K n (fun u s vs => .pn (vs.headD .non) rio s :: Pr u) (fun s => [.is rio s]) (fun vs => [vs.headD .non]) r f
theorem fn_io {S U W : Type} {rio : Rp S} {Pr : U → List Slot} {r : Rp W} {fm : U → SM S W} (FD : FunD K x qual params body scope [] [] f fd) (Sc : FnScope N ps scope) (out : U → SM S (Fl Empty Empty W)) (hfm : ∀ u, fm u = runB (out u))
    (hbody : ∀ (u : U) (v0 : V) (cdv : Value) (A : Around) (outer : List Env) (s : Shared) (H : Hp) (E : XK), Room k (A.deeper (envOfC qual scope s.heap.objs.size f cdv)) →
      ∀ F : FC K S, F.io = (fun s => .pn v0 rio s :: uns (N.length - 1)) → F.W = (fun c d _ H' => E c d H') → ∃ t, BX (cxOf (L2.CX P w) P w K mg base N qual scope f cdv A outer s H E) F body t (fun s => .pn v0 rio s :: (Pr u ++ uns (N.length - ps.length))) (fun (e : Empty) _ => e.elim) (fun (e : Empty) _ => e.elim) r (out u)) :
    FnOk P w K mg base (L2.CX P w) (k + 1) f fd ps (SpI K ps.length rio Pr r fm) := by
  refine FD.ok Sc (fun vs H Q E h => ?_) (fun cdv A outer s H vs Q E hr h => ?_)
  · obtain ⟨u, _, _, _, h, _⟩ := h
    exact h
  · obtain ⟨u, s0, I, M0, hl, at0, q⟩ := h
    obtain ⟨t, hB⟩ := hbody u (vs.headD .non) cdv A outer s H E hr ⟨H, I, M0, fun s => .pn (vs.headD .non) rio s :: uns (N.length - 1), fun c d _ H' => E c d H'⟩ rfl rfl
    refine ⟨t, hB.ps, hB.go [] [] (start N vs) s0 H _ ?_ ?_⟩
    · have z := at_start (N := N) at0
      rw [hl] at z
      exact z.re rfl rfl rfl
    · rw [hfm u] at q
      refine wp_mono (wp_bnd q) (fun fl s1 q1 => ?_) (fun e s1 q1 σ d v H' h1 hd => q1 d v H' ((at_exitIo h1).re rfl rfl rfl) hd)
      cases fl with
      | nx n => exact n.elim
      | bk n => exact n.elim
      | ct n => exact n.elim
      | rt b => exact fun v σ' H' h1 => q1 v H' ((at_exitIo h1).re rfl rfl rfl)
end

/-! ### calls with an in/out argument -/
section
variable {K : PySem.W.Frag} {S : Type} {F : FC K S} {T : List Slot} {t : List V} {G : List Slot} {σ : L2.St} {H H' : Hp}
theorem At.backIo {U S' : Type} {r : Rp U} {b : U} {v w : V} {M0' A1 A2 P1 P2 C : List Addr} {j : Nat} {Sio : Type} {rio : Rp Sio} {s' : Sio} (h : AtP F T t G σ H A1 A2) (eA : A2 = P1 ++ (C ++ P2))
    (back : ∀ (M' : List Addr) (H' : Hp) (g' : Slot) (x' : Option V) (B' : List Addr), (∀ {g x B}, Slot.ok K (A1 ++ A2 ++ F.M0) H g x B → (∀ p, p ∈ B → p ∈ P1 ∨ p ∈ P2) → Slot.ok K M' H' g x B) → g'.ok K M' H' x' B' → AtS K M' H' (G.set j g') (σ.set j x') (P1 ++ (B' ++ P2)))
    (ew : σ[j]? = some (some w)) (tC : ∀ p, p ∈ C → ∃ o, H p = some o ∧ isTup o = false) (hx : At (FC.c (K := K) (S := S') H C M0') [.is r b, .is rio s'] [v, w] [] [] H') (cio : rio.Clo)
    (hM : r.Clo ∨ ∀ p, p ∈ A1 ++ (P1 ++ P2) ++ F.M0 → p ∈ M0') : At F (.is r b :: T) (v :: t) (G.set j (.pn w rio s')) σ H' := by
  obtain ⟨X1, X2, hx⟩ := hx
  obtain ⟨B, A', eX, ⟨v', ev, hr⟩, ht⟩ := AtS.cons_inv hx.tmp
  obtain ⟨D, A'', eA'', ⟨w', ew', hio⟩, ht2⟩ := AtS.cons_inv ht
  cases ev
  cases ew'
  cases ht2
  have e2 : X2 = [] := by
    have := hx.loc
    cases this; rfl
  subst e2 eX eA'' eA
  have gx := hx.good
  have nd := h.good.nd
  have nB : ∀ p, p ∈ B ++ D → H p = none ∨ p ∈ C := fun p hp => gx.new p (by simpa using hp)
  have st : ∀ p o, H p = some o → p ∉ C → H' p = some o := fun p o e hp => gx.stay p o e hp
  have ndB : (B ++ D).Nodup := by simpa using gx.nd
  have tr := h.m_trk
  have trn : ∀ p, p ∈ A1 ++ (P1 ++ (C ++ P2)) ++ F.M0 → H p ≠ none := fun p hp e => by
    obtain ⟨o, z, _⟩ := tr p hp
    rw [e] at z; cases z
  have ndC : ∀ p, p ∈ C → p ∉ A1 ∧ p ∉ P1 ∧ p ∉ P2 := fun p hp => by
    simp only [List.nodup_append, List.mem_append] at nd
    grind
  have outC : ∀ p, p ∈ C → p ∉ F.M0 := fun p hp => h.good.out p (by simp only [List.mem_append]; grind)
  have inBD : ∀ p, p ∈ B ++ D → p ∉ A1 ∧ p ∉ P1 ∧ p ∉ P2 ∧ p ∉ F.M0 := fun p hp => by
    rcases nB p hp with z | z
    · have q := fun y => trn p y z
      simp only [List.mem_append] at q
      grind
    · have q := ndC p z
      have q2 := outC p z
      grind
  have hU : ∀ x, x ∈ (A1 ++ (P1 ++ (C ++ P2)) ++ F.M0) ++ (B ++ D) → x ∈ A1 ++ (P1 ++ (C ++ P2)) ++ F.M0 ∨ H x = none := fun x hx => by
    rcases List.mem_append.mp hx with z | z
    · exact .inl z
    · rcases nB x z with y | y
      · exact .inr y
      · left; simp only [List.mem_append]; grind
  have hV : ∀ x, x ∈ (B ++ A1) ++ (P1 ++ (D ++ P2)) ++ F.M0 → x ∈ (A1 ++ (P1 ++ (C ++ P2)) ++ F.M0) ++ (B ++ D) ∨ H' x = none := fun x hx => .inl (by
    simp only [List.mem_append] at *
    grind)
  have kp : ∀ {B0 : List Addr}, (∀ p, p ∈ B0 → p ∈ A1 ∨ p ∈ P1 ∨ p ∈ P2) → ∀ p o, H p = some o → (p ∉ (A1 ++ (P1 ++ (C ++ P2)) ++ F.M0) ++ (B ++ D) ∨ p ∈ B0 ∨ isTup o = true) → H' p = some o := by
    intro B0 hB0 p o e hp
    by_cases hC : p ∈ C
    · exfalso
      obtain ⟨o', z, zt⟩ := tC p hC
      rw [e] at z
      cases z
      rcases hp with q | q | q
      · exact q (by simp only [List.mem_append]; grind)
      · have := hB0 p q
        have := ndC p hC
        grind
      · rw [zt] at q; cases q
    · exact st p o e hC
  refine ⟨B ++ A1, P1 ++ (D ++ P2), .cons ⟨v, rfl, ?_⟩ (((h.tmp.grow hU).keep (kp fun p hp => .inl hp)).grow hV), ?_, ?_⟩
  · rcases hM with c | hM
    · exact c hr
    · refine r.grow hr fun p hp => ?_
      show p ∈ (B ++ (D ++ [])) ++ [] ++ M0' ∨ _
      have z := hM p
      left
      simp only [List.mem_append] at *
      grind
  · have z := back ((B ++ A1) ++ (P1 ++ (D ++ P2)) ++ F.M0) H' (.pn w rio s') (some w) D (fun hs sub => Slot.ok_grow (Slot.ok_keep (Slot.ok_grow hs hU) (kp fun p hp => .inr (sub p hp))) hV) ⟨rfl, cio hio⟩
    rwa [set_self ew] at z
  · refine ⟨?_, fun p hp => ?_, fun p hp => ?_, fun p hp => ?_, fun p o e hI => ?_, h.good.m0⟩
    · simp only [List.nodup_append, List.mem_append] at *
      grind
    · have := h.good.out p
      have := inBD p
      simp only [List.mem_append] at *
      grind
    · by_cases hB : p ∈ B ++ D
      · rcases nB p hB with z | z
        · exact .inl (h.good.fresh z).1
        · exact h.good.new p (by simp only [List.mem_append]; grind)
      · exact h.good.new p (by simp only [List.mem_append] at *; grind)
    · obtain ⟨o, e, z⟩ := h.good.has p hp
      by_cases hC : p ∈ C
      · exact gx.has p hC
      · exact ⟨o, st p o e hC, z⟩
    · by_cases hC : p ∈ C
      · rcases h.good.new p (by simp only [List.mem_append]; grind) with z | z
        · rw [z] at e; cases e
        · exact absurd z hI
      · exact st p o (h.good.stay p o e hI) hC
/-- the reading of such a call: the first argument is the name in slot j -/
theorem go_callIo {U W A : Type} {n : Nat} {rio : Rp S} {Pr : U → List Slot} {r : Rp W} {f : U → SM S W} {fm : A → SM S W} {E : XK} {ta : TA} {G G' : S → List Slot} {LA : A → List Arg} {mA : SM S A} {w : V} (j : Nat) (u : A → U) (hf : ∀ a, fm a = f (u a)) (cio : rio.Clo) (h : GA F ta G G' (fun a => .v j :: LA a) mA) (hn : ∀ a, (LA a).length + 1 = n)
    (hG : ∀ s, (G' s)[j]? = some (.pn w rio s)) (hS : ∀ s s', (G' s).set j (.pn w rio s') = G' s')
    (he : ∀ a s, EntS (G' s) (LA a) (Pr (u a))) (hW : ∀ c d σ H, F.W c d σ H → E c d H) (hw : ∀ s, Weak (G' s) (F.io s)) :
    GE F (tCall (SpI K n rio Pr r f) [] E ta) G G' r (bnd mA fm) := by
  intro T t σ s H Q h0 q
  have ef : fm = fun a => f (u a) := funext hf
  subst ef
  refine h T t σ s H _ h0 (wp_mono (wp_bnd q) (fun a s1 q1 ts vs H1 at1 av => ?_) fun _ _ z => z)
  obtain ⟨A1, A2, at1⟩ := at1
  have lv : (vs ++ ([] : List V)).length = n := by rw [List.append_nil, (argV_len av).1, List.length_cons, hn]
  obtain ⟨v0, vr, evs, ev0, avr⟩ : ∃ v0 vr, vs = v0 :: vr ∧ σ[j]? = some (some v0) ∧ ArgV σ (LA a) ts vr := by
    cases av with
    | v e h => exact ⟨_, _, rfl, e, h⟩
  subst evs
  have at1' : AtP F ((tmps (LA a)).reverse ++ T) (ts.reverse ++ t) (G' s1) σ H1 A1 A2 := at1
  obtain ⟨x, C, P1, P2, ex, hC, eA, back⟩ := at1.loc.at_ (hG s1)
  rw [ev0] at ex
  cases ex
  obtain ⟨ew, hio⟩ := hC
  have ew' : v0 = w := Option.some.inj ew
  subst ew'
  have tC := rio.trk hio
  have nd := at1.good.nd
  have ndC : C.Nodup := by
    rw [eA] at nd
    simp only [List.nodup_append] at nd
    exact nd.2.1.2.1.1
  have tr := at1.m_trk
  have disC : ∀ p, p ∈ C → p ∉ A1 ++ (P1 ++ P2) ++ F.M0 := fun p hp z => by
    have out := at1.good.out p
    rw [eA] at nd out
    simp only [List.nodup_append, List.mem_append] at *
    grind
  have hent := entS_at at1' avr (he a s1)
  have entry : At (FC.c (K := K) (S := S) H1 C (A1 ++ (P1 ++ P2) ++ F.M0)) [] [] (.pn v0 rio s1 :: Pr (u a)) ((v0 :: vr).map some) H1 := by
    refine ⟨[], C ++ [], .nil, .cons ⟨rfl, cio hio⟩ (hent.grow fun p hp => .inl ?_), ⟨by simpa using ndC, fun p hp => disC p (by simpa using hp), fun p hp => .inr (show p ∈ C by simpa using hp), tC, fun _ _ e _ => e, fun p hp => ⟨tr p ?_, fun z => disC p z hp⟩⟩⟩
    · have hp' : p ∈ [] ++ (C ++ []) ++ (A1 ++ (P1 ++ P2) ++ F.M0) := hp
      rw [eA]
      simp only [List.mem_append, List.append_nil, List.nil_append] at *
      grind
    · have hp' : p ∈ A1 ++ (P1 ++ P2) ++ F.M0 := hp
      rw [eA]
      clear back at1 at1' h0 q q1
      simp only [List.mem_append] at *
      grind
  have hM : ∀ p, p ∈ A1 ++ (P1 ++ P2) ++ F.M0 → p ∈ A1 ++ (P1 ++ P2) ++ F.M0 := fun _ z => z
  show SpI K n rio Pr r f (v0 :: vr ++ []) H1 Q E
  rw [List.append_nil]
  rw [List.append_nil] at lv
  refine ⟨u a, s1, C, _, lv, entry, wp_mono q1 (fun b s2 q3 v H' hx => ?_) (fun e s2 q3 d v H' hx hd => ?_)⟩
  · have z := At.backIo at1' eA back ev0 tC hx cio (.inr hM)
    rw [hS] at z
    exact q3 v H' (At.dropU (by simp [(argV_len avr).2]) z)
  · have z := At.backIo at1' eA back ev0 tC hx cio (.inr hM)
    rw [hS] at z
    have z2 := (At.dropU (by simp [(argV_len avr).2]) z).weak (hw s2)
    refine hW _ _ σ _ (q3 d v H' ?_ hd)
    exact At.dropM (T0 := [_]) (t0 := [v]) (T := []) (t := []) rfl (T1 := T) (t1 := t) (by obtain ⟨B1, B2, hz⟩ := h0; have := hz.tmp.length; simpa using this) (by simpa using z2)
end
section
variable {X : Cx} {S : Type} {F : FC X.K S} {U W A : Type} {n k : Nat} {rio : Rp S} {Pr : U → List Slot} {r : Rp W} {f : U → SM S W} {E : XK} {ta : TA} {G G' : S → List Slot} {LA : A → List Arg} {mA : SM S A} {CX : CXT} {fa : Addr} {fd : FuncData} {ps : List Str} {x : Str} {p pos : Pos} {e : Expr} {es : List Expr} {w : V}
theorem ex_callIo {fm : A → SM S W} (j : Nat) (u : A → U) (FO : FnOk X.prog X.w X.K X.mg X.base CX k fa fd ps (SpI X.K n rio Pr r f)) (hr : Room k X.A) (hg : Gl X x) (hm : X.mg x = some (.ref fa)) (hk : PySem.W.keepIn X.K (.ref fa) = true) (hb : Binds X.K fd ps []) (hx : Passes CX X E)
    (cio : rio.Clo) (h : EA X F (e :: es) ta G G' (fun a => .v j :: LA a) mA) (hn : ∀ a, (LA a).length + 1 = n) (hG : ∀ s, (G' s)[j]? = some (.pn w rio s)) (hS : ∀ s s', (G' s).set j (.pn w rio s') = G' s')
    (he : ∀ a s, EntS (G' s) (LA a) (Pr (u a))) (hW : ∀ c d σ H, F.W c d σ H → E c d H) (hw : ∀ s, Weak (G' s) (F.io s))
    (hf : ∀ a, fm a = f (u a) := by intro _; rfl)
    (hst : PySem.W.isStarred e = false := by rfl) (hpl : (backTo pos (starEach es X.env)).any (·.1) = false := by rfl) (hdb : (x == ("__debug__" : Str)) = false := by decide) :
    EX X F (.Call (.Name x p) (e :: es) [] pos) (tCall (SpI X.K n rio Pr r f) [] E ta) G G' r (bnd mA fm) :=
  ⟨pe_call FO hr hg hm hk hb .nil hx h.pa (hdb := hdb) (he := star1 hst) (hpl := hpl), go_callIo j u hf cio h.go hn hG hS he hW hw⟩
end
end Td

set_option Elab.async false
set_option linter.all false
set_option maxRecDepth 100000
set_option maxHeartbeats 4000000
namespace Td
open PySem PySem.Spec PyProof.Rows L2

/-! ### what is walked -/
section
variable {X : Cx} {S : Type} {F : FC X.K S} {A : Type} {rx : Rp A} {tg e a b c : Expr} {te ta tb tc : TE} {G G1 G2 G3 G' : S → List Slot} {m : SM S (List A)} {mi m1 m2 m3 : SM S Int} {pos p0 : Pos}
theorem ei_sh (h : EX X F e te G G' (sh (rList rx)) m) (c : rx.Cp) : EI X F tg e (iList X.K te) G G' (fun _ => True) rx m :=
  ⟨pi_list h.pe, fun T t σ s H R h0 q => h.go T t σ s H _ h0 (wp_mono q (fun xs s1 q1 v H1 at1 => by
    obtain ⟨M, B, _, C, ⟨p, vs, D, ev, hp, hD, _⟩, _⟩ := top_rel at1
    subst ev
    exact ⟨p, rfl, ⟨vs, SqL.of hp⟩, q1 _ [_] [_] H1 (src_sh c) at1⟩) fun _ _ z => z)⟩
theorem ei_shS (h : EX X F e te G G' (sh (rList rx)) m) : EI X F tg e (iList X.K te) G G' (fun _ => True) (sh rx) m :=
  ⟨pi_list h.pe, fun T t σ s H R h0 q => h.go T t σ s H _ h0 (wp_mono q (fun xs s1 q1 v H1 at1 => by
    obtain ⟨M, B, _, C, ⟨p, vs, D, ev, hp, hD, _⟩, _⟩ := top_rel at1
    subst ev
    exact ⟨p, rfl, ⟨vs, SqL.of hp⟩, q1 _ [_] [_] H1 src_shS at1⟩) fun _ _ z => z)⟩
def rngG {S : Type} (j : Int) : SM S Unit := grd (-(2 ^ 62) ≤ j ∧ j < 2 ^ 62)
theorem ei_rng1 (h : EX X F a ta G G' rInt mi) (hg : Gl X "range") (hm : X.mg "range" = none) (hs : PySem.W.isStarred a = false := by rfl) :
    EI X F tg (.Call (.Name "range" p0) [a] [] pos) (iRng1 (tCons ta tNil)) G G' (fun _ => True) rInt (bnd mi fun j => bnd (rngG j) fun _ => ret (upto 0 j.toNat)) :=
  ⟨pi_range1 hg hm (pa_cons h.pe pa_nil (star1 hs)) (by first | (rw [star1 hs]; done) | (rw [star1 hs]; rfl)), fun T t σ s H R h0 q => h.go T t σ s H _ h0 (wp_mono (wp_bnd q) (fun j s1 q1 v H1 at1 => by
    obtain ⟨⟨h1, h2⟩, q1⟩ := wp_grd (wp_bnd q1)
    obtain ⟨M, B, k, _⟩ := top_rel at1
    exact ⟨j, by rw [k], h1, h2, q1 _ [] [] H1 src_rng at1.pop⟩) fun _ _ z => z)⟩
theorem ei_rng2 (h : EX X F a ta G G1 rInt m1) (h2 : EX X F b tb G1 G2 rInt m2) (hg : Gl X "range") (hm : X.mg "range" = none) (hs : PySem.W.isStarred a = false := by rfl) (hs2 : PySem.W.isStarred b = false := by rfl) :
    EI X F tg (.Call (.Name "range" p0) [a, b] [] pos) (iRng2 (tCons ta (tCons tb tNil))) G G2 (fun _ => True) rInt (bnd m1 fun i => bnd m2 fun j => bnd (rngG i) fun _ => bnd (rngG j) fun _ => ret (upto i (j - i).toNat)) :=
  ⟨pi_range2 hg hm (pa_cons h.pe (pa_cons h2.pe pa_nil (star1 hs2)) (star1 hs)) (by first | (rw [star1 hs, star1 hs2]; done) | (rw [star1 hs, star1 hs2]; rfl)) (by first | (rw [star1 hs2]; done) | (rw [star1 hs2]; rfl)), fun T t σ s H R h0 q => h.go T t σ s H _ h0 (wp_mono (wp_bnd q) (fun i s1 q1 v H1 at1 => by
    refine h2.go _ _ σ s1 H1 _ at1 (wp_mono (wp_bnd q1) (fun j s2 q2 w H2 at2 => ?_) fun _ _ z => z)
    obtain ⟨⟨h1, h2⟩, q2⟩ := wp_grd (wp_bnd q2)
    obtain ⟨⟨h3, h4⟩, q2⟩ := wp_grd (wp_bnd q2)
    obtain ⟨M1, B1, k1, _⟩ := snd_rel at2
    obtain ⟨M2, B2, k2, _⟩ := top_rel at2
    exact ⟨i, j, by rw [k1, k2], ⟨h1, h2, h3, h4⟩, q2 _ [] [] H2 src_rng at2.pop.pop⟩) fun _ _ z => z)⟩
/-- hi, hi - 1, .. above lo -/
def dnto (hi : Int) (n : Nat) : List Int := (List.range n).map fun (i : Nat) => hi + (i : Int) * (-1)
theorem dnto_len (lo : Int) (n : Nat) : (dnto lo n).length = n := by simp [dnto]
theorem dnto_get {lo : Int} {n i : Nat} {a : Int} (h : (dnto lo n)[i]? = some a) : a = lo + (i : Int) * (-1) := by
  unfold dnto at h
  rw [List.getElem?_map] at h
  cases e : (List.range n)[i]? with
  | none => rw [e] at h; cases h
  | some j =>
    rw [e] at h
    have e2 : j = i := by
      rw [List.getElem?_range] at e
      · cases e; rfl
      · have := (List.getElem?_eq_some_iff.mp e).1
        simpa using this
    subst e2
    exact (Option.some.inj h).symm
theorem src_dn {K : PySem.W.Frag} {F : FC K S} {lo : Int} {n : Nat} : Src F (fun _ => True) (Itc lo (-1) n) [] [] rInt (dnto lo n) where
  len := rfl
  go := fun _ _ _ hi => by rw [dnto_len] at hi; exact hi
  stop := fun _ _ _ hi => by rw [dnto_len] at hi; exact hi
  yld := by
    intro i a x T1 t1 T t G σ H H' _ e h hy ha
    obtain ⟨rfl, rfl⟩ := hy
    rw [dnto_get ha]
    exact At.push h fun _ => ⟨rfl, rfl⟩
theorem ei_rng3 {k : Nat} {p1 p2 : Pos} (h : EX X F a ta G G1 rInt m1) (h2 : EX X F b tb G1 G2 rInt m2) (hg : Gl X "range") (hm : X.mg "range" = none) (hs : PySem.W.isStarred a = false := by rfl) (hs2 : PySem.W.isStarred b = false := by rfl) :
    EI X F tg (.Call (.Name "range" p0) [a, b, .UnaryOp .USub (.Constant (.int 1) k p1) p2] [] pos) (iRng3 (tCons ta (tCons tb (tCons (tUn (rU fun i => .int (-i)) (tC (.int 1))) tNil)))) G G2 (fun _ => True) rInt (bnd m1 fun i => bnd m2 fun j => bnd (rngG i) fun _ => bnd (rngG j) fun _ => ret (dnto i (i - j).toNat)) :=
  ⟨pi_range3 hg hm (pa_cons h.pe (pa_cons h2.pe (pa_cons (pe_un un_neg pe_int) pa_nil) (star1 hs2)) (star1 hs)) (star1 hs) (by rw [star1 hs2]; rfl), fun T t σ s H R h0 q => h.go T t σ s H _ h0 (wp_mono (wp_bnd q) (fun i s1 q1 v H1 at1 => by
    refine h2.go _ _ σ s1 H1 _ at1 (wp_mono (wp_bnd q1) (fun j s2 q2 w H2 at2 => ?_) fun _ _ z => z)
    obtain ⟨⟨h1, h2⟩, q2⟩ := wp_grd (wp_bnd q2)
    obtain ⟨⟨h3, h4⟩, q2⟩ := wp_grd (wp_bnd q2)
    obtain ⟨M1, B1, k1, _⟩ := snd_rel at2
    obtain ⟨M2, B2, k2, _⟩ := top_rel at2
    exact ⟨1, rfl, i, j, -1, (i - j).toNat, by rw [k1, k2], RgC.neg h1 h2 h3 h4, q2 _ [] [] H2 src_dn at2.pop.pop⟩) fun _ _ z => z)⟩
end
section
variable {K : PySem.W.Frag} {S : Type} {F : FC K S} {A B : Type} {rx : Rp A} {ry : Rp B}
/-- (0, x), (1, y), .. -/
def enum {A : Type} (xs : List A) : List (Int × A) := xs.mapIdx fun i x => ((i : Int), x)
theorem enum_len {A : Type} (xs : List A) : (enum xs).length = xs.length := by simp [enum]
theorem enum_get {A : Type} {xs : List A} {i : Nat} {a : Int × A} (h : (enum xs)[i]? = some a) : a.1 = (i : Int) ∧ xs[i]? = some a.2 := by
  unfold enum at h
  rw [List.getElem?_mapIdx] at h
  cases e : xs[i]? with
  | none => rw [e] at h; cases h
  | some x => rw [e] at h; cases h; exact ⟨rfl, rfl⟩
theorem src_enum {a : Addr} {xs : List A} : Src F (fun _ => True) (Ite K a) [.is (sh (rList rx)) xs] [.ref a] (rPair rInt (sh rx)) (enum xs) where
  len := rfl
  go := by
    intro i T1 t1 T t G σ H _ e h hi
    rw [enum_len] at hi
    obtain ⟨A1, A2, h⟩ := h
    obtain ⟨B, v, ev, _, C, ⟨p, vs, A, ep, hp, hA, _⟩, _⟩ := held e h
    cases ev
    cases ep
    have hi' : i < vs.length := by rw [hA.length]; exact hi
    exact ⟨vs, vs[i], SqL.of hp, List.getElem?_eq_getElem hi'⟩
  stop := by
    intro i T1 t1 T t G σ H _ e h hi
    rw [enum_len] at hi
    obtain ⟨A1, A2, h⟩ := h
    obtain ⟨B, v, ev, _, C, ⟨p, vs, A, ep, hp, hA, _⟩, _⟩ := held e h
    cases ev
    cases ep
    exact ⟨vs, SqL.of hp, by rw [hA.length]; exact hi⟩
  yld := by
    intro i a x T1 t1 T t G σ H H' _ e h hy ha
    obtain ⟨ha1, ha2⟩ := enum_get ha
    obtain ⟨A1, A2, h⟩ := h
    obtain ⟨B, v, ev, _, C, ⟨p, vs, A, ep, hp, hA, eC⟩, hC⟩ := held e h
    cases ev
    cases ep
    obtain ⟨T, y, rfl, hT, rfl, hy⟩ := hy
    obtain ⟨w, D, e1, hr, sub⟩ := hA.get' ha2
    have e2 := hy vs (SqL.of hp)
    rw [e1] at e2
    cases e2
    have z1 := h.pushM (r := rInt) (a := a.1) (u := .int (i : Nat)) ⟨by rw [ha1], rfl⟩
    have z2 := z1.pushM (r := sh rx) (a := a.2) (u := y) ⟨rfl, D, hr, fun x hx => hC x (by rw [eC]; exact List.mem_cons_of_mem _ (sub x hx))⟩
    exact At.tup2 ⟨A1, A2, z2⟩ hT
theorem src_enumC {a : Addr} {xs : List A} (c : rx.Cp) : Src F (fun _ => True) (Ite K a) [.is (sh (rList rx)) xs] [.ref a] (rPair rInt rx) (enum xs) where
  len := rfl
  go := (src_enum (rx := rx) (xs := xs) (a := a)).go
  stop := (src_enum (rx := rx) (xs := xs) (a := a)).stop
  yld := by
    intro i a x T1 t1 T t G σ H H' _ e h hy ha
    obtain ⟨ha1, ha2⟩ := enum_get ha
    obtain ⟨A1, A2, h⟩ := h
    obtain ⟨B, v, ev, _, C, ⟨p, vs, A, ep, hp, hA, eC⟩, hC⟩ := held e h
    cases ev
    cases ep
    obtain ⟨T, y, rfl, hT, rfl, hy⟩ := hy
    obtain ⟨w, D, e1, hr, sub⟩ := hA.get' ha2
    have e2 := hy vs (SqL.of hp)
    rw [e1] at e2
    cases e2
    have eD := c hr
    subst eD
    have z1 := h.pushM (r := rInt) (a := a.1) (u := .int (i : Nat)) ⟨by rw [ha1], rfl⟩
    have z2 := z1.pushM (r := rx) (a := a.2) (u := y) hr
    exact At.tup2 ⟨A1, A2, z2⟩ hT
/-- two lists side by side -/
theorem zip_get {xs : List A} {ys : List B} {i : Nat} {a : A × B} (h : (xs.zip ys)[i]? = some a) : xs[i]? = some a.1 ∧ ys[i]? = some a.2 := by
  rw [List.getElem?_zip_eq_some] at h
  exact h
theorem src_zip {a b : Addr} {xs : List A} {ys : List B} : Src F (fun _ => True) (Itz K a b) [.is (sh (rList ry)) ys, .is (sh (rList rx)) xs] [.ref b, .ref a] (rPair (sh rx) (sh ry)) (xs.zip ys) where
  len := rfl
  go := by
    intro i T1 t1 T t G σ H _ e h hi
    rw [List.length_zip] at hi
    obtain ⟨A1, A2, h⟩ := h
    obtain ⟨_, v, ev, _, _, ⟨p, vs, _, ep, hp, hA, _⟩, _⟩ := held e h
    have h2 : AtP F ((T1 ++ [.is (sh (rList ry)) ys]) ++ ([.is (sh (rList rx)) xs] ++ T)) ((t1 ++ [.ref b]) ++ ([.ref a] ++ t)) G σ H A1 A2 := by simpa using h
    obtain ⟨_, v2, ev2, _, _, ⟨p2, vs2, _, ep2, hp2, hA2, _⟩, _⟩ := held (by simp [e]) h2
    cases ev
    cases ep
    cases ev2
    cases ep2
    have i1 : i < vs2.length := by rw [hA2.length]; omega
    have i2 : i < vs.length := by rw [hA.length]; omega
    exact ⟨vs2, vs, vs2[i], vs[i], SqL.of hp2, SqL.of hp, List.getElem?_eq_getElem i1, List.getElem?_eq_getElem i2⟩
  stop := by
    intro i T1 t1 T t G σ H _ e h hi
    rw [List.length_zip] at hi
    obtain ⟨A1, A2, h⟩ := h
    obtain ⟨_, v, ev, _, _, ⟨p, vs, _, ep, hp, hA, _⟩, _⟩ := held e h
    have h2 : AtP F ((T1 ++ [.is (sh (rList ry)) ys]) ++ ([.is (sh (rList rx)) xs] ++ T)) ((t1 ++ [.ref b]) ++ ([.ref a] ++ t)) G σ H A1 A2 := by simpa using h
    obtain ⟨_, v2, ev2, _, _, ⟨p2, vs2, _, ep2, hp2, hA2, _⟩, _⟩ := held (by simp [e]) h2
    cases ev
    cases ep
    cases ev2
    cases ep2
    exact ⟨vs2, vs, SqL.of hp2, SqL.of hp, by rw [hA2.length, hA.length]; omega⟩
  yld := by
    intro i c x T1 t1 T t G σ H H' _ e h hy ha
    obtain ⟨ha1, ha2⟩ := zip_get ha
    obtain ⟨A1, A2, h⟩ := h
    obtain ⟨_, v, ev, _, C, ⟨p, vs, _, ep, hp, hA, eC⟩, hC⟩ := held e h
    have h2 : AtP F ((T1 ++ [.is (sh (rList ry)) ys]) ++ ([.is (sh (rList rx)) xs] ++ T)) ((t1 ++ [.ref b]) ++ ([.ref a] ++ t)) G σ H A1 A2 := by simpa using h
    obtain ⟨_, v2, ev2, _, C2, ⟨p2, vs2, _, ep2, hp2, hA2, eC2⟩, hC2⟩ := held (by simp [e]) h2
    cases ev
    cases ep
    cases ev2
    cases ep2
    obtain ⟨T, y1, y2, rfl, hT, rfl, hy1, hy2⟩ := hy
    obtain ⟨w1, D1, e1, hr1, sub1⟩ := hA2.get' ha1
    obtain ⟨w2, D2, e2, hr2, sub2⟩ := hA.get' ha2
    have q1 := hy1 vs2 (SqL.of hp2)
    have q2 := hy2 vs (SqL.of hp)
    rw [e1] at q1
    rw [e2] at q2
    cases q1
    cases q2
    have z1 := h.pushM (r := sh rx) (a := c.1) (u := y1) ⟨rfl, D1, hr1, fun x hx => hC2 x (by rw [eC2]; exact List.mem_cons_of_mem _ (sub1 x hx))⟩
    have z2 := z1.pushM (r := sh ry) (a := c.2) (u := y2) ⟨rfl, D2, hr2, fun x hx => hC x (by rw [eC]; exact List.mem_cons_of_mem _ (sub2 x hx))⟩
    exact At.tup2 ⟨A1, A2, z2⟩ hT
end
section
variable {X : Cx} {S : Type} {F : FC X.K S} {A B : Type} {rx : Rp A} {ry : Rp B} {e a b : Expr} {elts : List Expr} {kk : Nat} {tpos : Pos} {te ta tb : TE} {G G1 G2 G' : S → List Slot} {m : SM S (List A)} {m2 : SM S (List B)} {pos p0 : Pos}
theorem ei_enum (h : EX X F e te G G' (sh (rList rx)) m) (c : rx.Cp) (hg : Gl X "enumerate") (hm : X.mg "enumerate" = none) (hs : PySem.W.isStarred e = false := by rfl) :
    EI X F (.Tuple elts kk tpos) (.Call (.Name "enumerate" p0) [e] [] pos) (iEnum X.K (tCons te tNil)) G G' (fun _ => True) (rPair rInt rx) (bnd m fun xs => ret (enum xs)) :=
  ⟨pi_enum hg hm (pa_cons h.pe pa_nil (star1 hs)) (by first | (rw [star1 hs]; done) | (rw [star1 hs]; rfl)), fun T t σ s H R h0 q => h.go T t σ s H _ h0 (wp_mono (wp_bnd q) (fun xs s1 q1 v H1 at1 => by
    obtain ⟨M, B, _, C, ⟨p, vs, D, ev, hp, hD, _⟩, _⟩ := top_rel at1
    subst ev
    exact ⟨p, vs, rfl, SqL.of hp, q1 _ [_] [_] H1 (src_enumC c) at1⟩) fun _ _ z => z)⟩
theorem ei_enumS (h : EX X F e te G G' (sh (rList rx)) m) (hg : Gl X "enumerate") (hm : X.mg "enumerate" = none) (hs : PySem.W.isStarred e = false := by rfl) :
    EI X F (.Tuple elts kk tpos) (.Call (.Name "enumerate" p0) [e] [] pos) (iEnum X.K (tCons te tNil)) G G' (fun _ => True) (rPair rInt (sh rx)) (bnd m fun xs => ret (enum xs)) :=
  ⟨pi_enum hg hm (pa_cons h.pe pa_nil (star1 hs)) (by first | (rw [star1 hs]; done) | (rw [star1 hs]; rfl)), fun T t σ s H R h0 q => h.go T t σ s H _ h0 (wp_mono (wp_bnd q) (fun xs s1 q1 v H1 at1 => by
    obtain ⟨M, B, _, C, ⟨p, vs, D, ev, hp, hD, _⟩, _⟩ := top_rel at1
    subst ev
    exact ⟨p, vs, rfl, SqL.of hp, q1 _ [_] [_] H1 src_enum at1⟩) fun _ _ z => z)⟩
theorem ei_zip (h : EX X F a ta G G1 (sh (rList rx)) m) (h2 : EX X F b tb G1 G2 (sh (rList ry)) m2) (hg : Gl X "zip") (hm : X.mg "zip" = none) (hs : PySem.W.isStarred a = false := by rfl) (hs2 : PySem.W.isStarred b = false := by rfl) :
    EI X F (.Tuple elts kk tpos) (.Call (.Name "zip" p0) [a, b] [] pos) (iZip X.K (tCons ta (tCons tb tNil))) G G2 (fun _ => True) (rPair (sh rx) (sh ry)) (bnd m fun xs => bnd m2 fun ys => ret (xs.zip ys)) :=
  ⟨pi_zip hg hm (pa_cons h.pe (pa_cons h2.pe pa_nil (star1 hs2)) (star1 hs)) (by first | (rw [star1 hs, star1 hs2]; done) | (rw [star1 hs, star1 hs2]; rfl)) (by first | (rw [star1 hs2]; done) | (rw [star1 hs2]; rfl)), fun T t σ s H R h0 q => h.go T t σ s H _ h0 (wp_mono (wp_bnd q) (fun xs s1 q1 v H1 at1 => by
    refine h2.go _ _ σ s1 H1 _ at1 (wp_mono (wp_bnd q1) (fun ys s2 q2 w H2 at2 => ?_) fun _ _ z => z)
    obtain ⟨M, B, _, C, ⟨p, vs, D, ev, hp, hD, _⟩, _⟩ := snd_rel at2
    obtain ⟨M', B', _, C', ⟨p', vs', D', ev', hp', hD', _⟩, _⟩ := top_rel at2
    subst ev
    subst ev'
    exact ⟨p, p', vs, vs', rfl, SqL.of hp, SqL.of hp', q2 _ [_, _] [_, _] H2 src_zip at2⟩) fun _ _ z => z)⟩
end

/-! ### comprehensions -/
def FC.nx {K : PySem.W.Frag} {S : Type} (F : FC K S) : FC K S := { F with W := fun _ _ _ _ => False }
/-- nothing is raised -/
def nxc {S T : Type} (m : SM S T) : SM S T := fun s => match m s with
  | .ok a s' => .ok a s'
  | .exc _ _ => .stuck
  | .stuck => .stuck
theorem wp_nxc {S T : Type} {m : SM S T} {s : S} {P : T → S → Prop} {E E' : Exn → S → Prop} (h : (nxc m s).wp P E) : (m s).wp P E' := by
  unfold nxc at h
  cases hm : m s with
  | ok a s' => rw [hm] at h; exact h
  | exc e s' => rw [hm] at h; exact h.elim
  | stuck => rw [hm] at h; exact h
def lcM {S A B : Type} (f : A → SM S (Option B)) : List B → List A → SM S (List B)
  | acc, [] => ret acc
  | acc, x :: xs => bnd (nxc (f x)) fun o => match o with
    | some b => bnd (grd (acc.length < sizeLine)) fun _ => lcM f (acc ++ [b]) xs
    | none => lcM f acc xs
/-- an item of a comprehension: the test, then the element -/
def lcIt {S B : Type} (mt : SM S Bool) (me : SM S B) : SM S (Option B) := bnd mt fun k => if k then bnd me fun b => ret (some b) else ret none
structure ETs (X : Cx) {S : Type} (F : FC X.K S) (ifs : List Expr) (tt : TT) (G G' : S → List Slot) (m : SM S Bool) : Prop where
  pt : PTs X ifs tt
  go : GT F tt G G' m
section
variable {X : Cx} {S : Type} {F : FC X.K S} {G G1 G2 : S → List Slot}
theorem ets_nil : ETs X F [] tYes G G (ret true) := ⟨pts_nil, fun T t σ s H Q h q => q H h⟩
theorem ets_one {c : Expr} {tc : TT} {m : SM S Bool} (h : ET X F c tc G G1 m) : ETs X F [c] tc G G1 m := ⟨pts_one h.pt, h.go⟩
theorem nx_at {K : PySem.W.Frag} {F : FC K S} {T : List Slot} {t : List V} {Gs : List Slot} {σ : L2.St} {H : Hp} (h : At F T t Gs σ H) : At F.nx T t Gs σ H := h.re rfl rfl rfl
theorem at_nx {K : PySem.W.Frag} {F : FC K S} {T : List Slot} {t : List V} {Gs : List Slot} {σ : L2.St} {H : Hp} (h : At F.nx T t Gs σ H) : At F T t Gs σ H := h.re rfl rfl rfl
theorem wipe_get {vs : List Nat} {σ : L2.St} {j : Nat} (h : j ∉ vs) : (wipe σ vs)[j]? = σ[j]? := by
  induction vs with
  | nil => rfl
  | cons v vs ih =>
    unfold wipe
    rw [List.getElem?_set_ne (by intro z; exact h (by simp [z]))]
    exact ih fun z => h (List.mem_cons_of_mem _ z)
theorem wipe_in {vs : List Nat} {σ : L2.St} {j : Nat} (h : j ∈ vs) : (wipe σ vs)[j]? = if j < σ.length then some none else none := by
  induction vs with
  | nil => cases h
  | cons v vs ih =>
    unfold wipe
    by_cases e : v = j
    · subst e
      rw [List.getElem?_set]
      simp [wipe_length]
    · rw [List.getElem?_set_ne e]
      rcases List.mem_cons.mp h with z | z
      · exact absurd z.symm e
      · exact ih z
theorem wipe_eq {vs ws : List Nat} {σ σ2 : L2.St} (hl : σ2.length = (wipe σ vs).length) (hk : ∀ j, j ∉ ws → σ2[j]? = (wipe σ vs)[j]?) (sub : ∀ j, j ∈ ws → j ∈ vs) : wipe σ2 vs = wipe σ vs := by
  apply List.ext_getElem?
  intro j
  by_cases h : j ∈ vs
  · rw [wipe_in h, wipe_in h, hl, wipe_length]
  · rw [wipe_get h, wipe_get h, hk j fun z => h (sub j z), wipe_get h]
/-- the slots of a comprehension's own names -/
def setUn (G : List Slot) : List Nat → List Slot
  | [] => G
  | v :: vs => (setUn G vs).set v .un
theorem AtS.wiped {K : PySem.W.Frag} {M : List Addr} {H : Hp} : ∀ {vs : List Nat} {G : List Slot} {s : L2.St} {A : List Addr}, AtS K M H G s A → (∀ v, v ∈ vs → G[v]? = some .un ∨ G[v]? = none) → AtS K M H G (wipe s vs) A
  | [], _, _, _, h, _ => h
  | v :: vs, G, s, A, h, hv => by
    have z := AtS.wiped (vs := vs) h fun v h => hv v (List.mem_cons_of_mem _ h)
    unfold wipe
    rcases hv v (List.mem_cons_self ..) with e | e
    · obtain ⟨x, B, A1, A2, e1, h1, eA, back⟩ := z.at_ e
      have y := back M H .un none [] (fun h _ => h) rfl
      rw [set_self e] at y
      have eB : B = [] := h1
      subst eB
      rw [eA]
      exact y
    · have hl := z.length
      rw [List.set_eq_of_length_le (by rw [hl]; exact List.getElem?_eq_none_iff.mp e)]
      exact z
theorem At.wiped {K : PySem.W.Frag} {F : FC K S} {T : List Slot} {t : List V} {Gs : List Slot} {σ : L2.St} {H : Hp} {vs : List Nat} (h : At F T t Gs σ H) (hv : ∀ v, v ∈ vs → Gs[v]? = some .un ∨ Gs[v]? = none) : At F T t Gs (wipe σ vs) H := by
  obtain ⟨A1, A2, h⟩ := h
  exact ⟨A1, A2, h.tmp, h.loc.wiped hv, h.good⟩
end
end Td

set_option Elab.async false
set_option linter.all false
set_option maxRecDepth 100000
set_option maxHeartbeats 4000000
namespace Td
open PySem PySem.Spec PyProof.Rows L2

theorem AtS.re {K : PySem.W.Frag} {M : List Addr} {H : Hp} {G : List Slot} {s : L2.St} {A : List Addr} (h : AtS K M H G s A) : ∀ {s' : L2.St}, s'.length = s.length → (∀ (j : Nat), G[j]? = some Slot.un ∨ s'[j]? = s[j]?) → AtS K M H G s' A := by
  induction h with
  | nil =>
    intro s' e _
    obtain rfl : s' = [] := List.eq_nil_of_length_eq_zero (by simpa using e)
    exact .nil
  | @cons g x B G s A h t ih =>
    intro s' e k
    cases s' with
    | nil => simp at e
    | cons y s' =>
      refine .cons ?_ (ih (by simpa using e) fun j => by simpa using k (j + 1))
      rcases k 0 with z | z
      · have eg : g = .un := by simpa using z
        subst eg
        exact h
      · have ey : y = x := by simpa using z
        rw [ey]; exact h
theorem At.reS {K : PySem.W.Frag} {S : Type} {F : FC K S} {T : List Slot} {t : List V} {G : List Slot} {σ σ' : L2.St} {H : Hp} (h : At F T t G σ H) (e : σ'.length = σ.length) (k : ∀ (j : Nat), G[j]? = some Slot.un ∨ σ'[j]? = σ[j]?) : At F T t G σ' H := by
  obtain ⟨A1, A2, h⟩ := h
  exact ⟨A1, A2, h.tmp, h.loc.re e k, h.good⟩

section
variable {X : Cx} {S : Type} {F : FC X.K S} {A B : Type} {rx : Rp A} {rb : Rp B} {tg e elt : Expr} {ifs : List Expr} {scope : Scope} {own : List (Str × Nat)} {wi : TI} {g : TG} {ws : List Nat} {tt : TT} {te : TE} {G G1 : S → List Slot} {C : List Slot → Prop} {mi : SM S (List A)} {Gt : S → A → List Slot} {mt : A → SM S Bool} {me : A → SM S B} {pos : Pos}
theorem go_lc (hi : GI F wi G G1 C rx mi) (hC : ∀ s, C (G1 s)) (hun : ∀ s v, v ∈ own.map (·.2) → (G1 s)[v]? = some .un ∨ (G1 s)[v]? = none) (sub : ∀ j, j ∈ ws → j ∈ own.map (·.2)) (hg : ∀ s, GG F.nx g ws rx (G1 s) (Gt s)) (hwk : ∀ s x, Weak (Gt s x) (G1 s))
    (ht : ∀ x, GT F.nx tt (fun s => Gt s x) (fun s => Gt s x) (mt x)) (he : ∀ x, GE F.nx te (fun s => Gt s x) (fun s => Gt s x) rb (me x)) : GE F (tLc wi g tt te (own.map (·.2))) G G1 (rList rb) (bnd mi fun xs => lcM (fun x => lcIt (mt x) (me x)) [] xs) := by
  intro T t σ s H Q h0 q
  refine hi T t σ s H _ h0 (wp_mono (wp_bnd q) (fun xs s1 q1 J gv hv H1 src at1 D hD => ?_) fun _ _ z => z)
  refine ⟨fun i m H => m = xs.length - i ∧ i ≤ xs.length ∧ ∃ s acc, At F (.is (rList rb) acc :: (gv ++ T)) (.ref D :: (hv ++ t)) (G1 s) σ H ∧
      (lcM (fun x => lcIt (mt x) (me x)) acc (xs.drop i) s).wp (fun a s' => ∀ v H', At F (.is (rList rb) a :: T) (v :: t) (G1 s') σ H' → Q v H') (XP F σ),
    ⟨xs.length, by simp, Nat.zero_le _, s1, [], At.lst (r := rb) (as := []) (vs := []) (by simpa [pend] using at1) rfl hD, by simpa using q1⟩, ?_⟩
  rintro i m H ⟨rfl, hi, s, acc, at2, q2⟩
  by_cases hlt : i < xs.length
  · refine .inr ⟨src.go (T1 := [_]) (t1 := [_]) (hC s) rfl at2 hlt, fun H' => ∃ s acc, At F (.is (rList rb) acc :: (gv ++ T)) (.ref D :: (hv ++ t)) (G1 s) σ H' ∧
      (lcM (fun x => lcIt (mt x) (me x)) acc (xs.drop (i + 1)) s).wp (fun a s' => ∀ v H', At F (.is (rList rb) a :: T) (v :: t) (G1 s') σ H' → Q v H') (XP F σ),
      fun H' ⟨s, acc, at3, q3⟩ => ⟨xs.length - (i + 1), by omega, rfl, hlt, s, acc, at3, q3⟩, fun x H' hy => ?_⟩
    have at3 := src.yld (T1 := [_]) (t1 := [_]) (hC s) rfl at2 hy (List.getElem?_eq_getElem hlt)
    refine hg s _ _ _ H' x xs[i] _ (nx_at (at3.wiped (hun s))) fun σ2 at4 l4 k4 => ?_
    refine ⟨wipe_eq l4 k4 sub, ?_⟩
    rw [List.drop_eq_getElem_cons hlt] at q2
    have back : ∀ {T' : List Slot} {t' : List V} {s' : S} {H3 : Hp}, At F.nx T' t' (Gt s' xs[i]) σ2 H3 → At F T' t' (G1 s') σ H3 := fun {T' t' s' H3} z => by
      have y := (at_nx z).weak (hwk s' xs[i])
      refine y.reS (by rw [l4, wipe_length]) fun j => ?_
      by_cases hj : j ∈ own.map (·.2)
      · rcases hun s' j hj with w | w
        · exact .inl w
        · right
          have hl : σ2.length ≤ j := by rw [y.len]; exact List.getElem?_eq_none_iff.mp w
          rw [List.getElem?_eq_none hl, List.getElem?_eq_none (by rw [l4, wipe_length] at hl; exact hl)]
      · right
        rw [k4 j fun w => hj (sub j w), wipe_get hj]
    have q3 := wp_nxc (E' := XP F.nx σ2) (wp_bnd q2)
    refine ht xs[i] _ _ σ2 s H' _ at4 (wp_mono (wp_bnd q3) (fun k s4 q4 H4 at5 => ?_) fun _ _ z => z)
    cases k with
    | true =>
      rw [if_pos rfl] at q4
      rw [if_pos rfl]
      refine he xs[i] _ _ σ2 s4 H4 _ at5 (wp_mono (wp_bnd q4) (fun b s5 q5 v H5 at6 => ?_) fun _ _ z => z)
      have at7 := back at6
      obtain ⟨hz, q6⟩ := wp_grd (wp_bnd (show (bnd (grd (acc.length < sizeLine)) (fun _ => lcM (fun x => lcIt (mt x) (me x)) (acc ++ [b]) (List.drop (i + 1) xs)) s5).wp _ _ from q5))
      obtain ⟨us, hDu, hl, at8⟩ := At.appendT at7
      exact ⟨us, hDu, by rw [hl]; exact hz, s5, acc ++ [b], at8, q6⟩
    | false =>
      rw [if_neg Bool.false_ne_true] at q4
      rw [if_neg Bool.false_ne_true]
      exact ⟨s4, acc, back at5, q4⟩
  · have e : i = xs.length := by omega
    subst e
    rw [List.drop_length] at q2
    refine .inl ⟨src.stop (T1 := [_]) (t1 := [_]) (hC s) rfl at2 (Nat.le_refl _), ?_⟩
    exact q2 _ H (At.dropU src.len at2)
theorem ex_lc (sh0 : Shared) (hc : X.calm = true) (hN : X.N.Nodup) (hi : EI X F tg e wi G G1 C rx mi) (hC : ∀ s, C (G1 s)) (ok : BlkOk X.N X.env.scope scope own) (hun : ∀ s v, v ∈ own.map (·.2) → (G1 s)[v]? = some .un ∨ (G1 s)[v]? = none) (sub : ∀ j, j ∈ ws → j ∈ own.map (·.2)) (hwk : ∀ s x, Weak (Gt s x) (G1 s))
    (hg : ∀ (s0 : Shared) (H : Hp) (D : Addr) (cl : List (Str × Addr)) (fp : List Addr) (s : S), EG (X.blk s0 H scope (compEnvC scope cl D X.env) fp) F.nx tg g ws rx (G1 s) (Gt s))
    (ht : ∀ (s0 : Shared) (H : Hp) (D : Addr) (cl : List (Str × Addr)) (fp : List Addr) (x : A), ETs (X.blk s0 H scope (compEnvC scope cl D X.env) fp) F.nx ifs tt (fun s => Gt s x) (fun s => Gt s x) (mt x))
    (he : ∀ (s0 : Shared) (H : Hp) (D : Addr) (cl : List (Str × Addr)) (fp : List Addr) (x : A), EX (X.blk s0 H scope (compEnvC scope cl D X.env) fp) F.nx elt te (fun s => Gt s x) (fun s => Gt s x) rb (me x)) (hA : Inhabited A) (hS : Inhabited S)
    (hs : ∀ x, foldedSetIterable e X.env x = pure x := by intro _; rfl) : EX X F (.ListComp elt [⟨tg, e, ifs, 0⟩] scope pos) (tLc wi g tt te (own.map (·.2))) G G1 (rList rb) (bnd mi fun xs => lcM (fun x => lcIt (mt x) (me x)) [] xs) :=
  ⟨pe_lc hc hN hi.pi ok (fun s0 H D cl fp => (hg s0 H D cl fp hS.default).pg) (fun s0 H D cl fp => (ht s0 H D cl fp hA.default).pt) (fun s0 H D cl fp => (he s0 H D cl fp hA.default).pe) hs,
    go_lc hi.go hC hun sub (fun s => (hg sh0 (fun _ => none) 0 [] [] s).go) hwk (fun x => (ht sh0 (fun _ => none) 0 [] [] x).go) (fun x => (he sh0 (fun _ => none) 0 [] [] x).go)⟩
end
end Td

set_option Elab.async false
set_option linter.all false
set_option maxRecDepth 100000
set_option maxHeartbeats 4000000
namespace Td
open PySem PySem.Spec PyProof.Rows L2

def tChain3 (q1 q2 q3 : R2) (ta tb tc td : TE) : TE := fun σ H Q => ta σ H fun x H1 => tb σ H1 fun y H2 => q1 x y H2 fun z H3 => ∃ k, z = .bl k ∧
      (if k = true then tc σ H3 fun w H4 => q2 y w H4 (fun z2 H5 => ∃ k2, z2 = .bl k2 ∧ (if k2 = true then td σ H5 fun u H6 => q3 w u H6 Q else Q (.bl false) H5)) else Q (.bl false) H3)
section
variable {X : Cx} {S : Type} {F : FC X.K S} {U W Z N L R : Type} {r r1 : Rp U} {r2 : Rp W} {r3 : Rp Z} {rr : Rp R} {e a b c d : Expr} {es : List Expr} {te ta tb tc td : TE} {G G1 G2 G3 G4 G' : S → List Slot} {GN : N → S → List Slot} {GL : L → S → List Slot} {m m1 : SM S U} {m2 : SM S W} {m3 : SM S Z} {pos p0 : Pos} {arg argU : U → Arg} {argW : W → Arg}
/-! ### what is never reached -/
theorem ex_no : EX X F e (fun _ _ _ => False) G G' r stk := ⟨⟨fun _ _ _ _ _ _ h => h.elim⟩, fun T t σ s H Q h q => q.elim⟩
theorem bx_no {sts : List Stmt} : BX X F sts (fun _ _ _ => False) G GN GL rr stk := ⟨⟨fun _ _ _ _ _ _ h => h.elim⟩, fun T t σ s H D h q => q.elim⟩
/-! ### truth -/
theorem et_truI {mi : SM S Int} (h : EX X F e te G G' rInt mi) (he : ∀ whole, isTrue e X.env whole = (do let v ← whole; standAt e.pos; holding [v] (truthy v)) := by intro _; rfl) :
    ET X F e (fun σ H Q => te σ H fun x H' => ∃ k, TruV X.K x H' k ∧ Q k H') G G' (bnd mi fun i => ret (i != 0)) :=
  ⟨pt_truth h.pe he, fun T t σ s H Q h0 q => h.go T t σ s H _ h0 (wp_mono (wp_bnd q) (fun i s1 q1 v H1 at1 => by
    obtain ⟨M, B, k⟩ := top_rel at1
    obtain ⟨ev, _⟩ := k
    subst ev
    exact ⟨i != 0, rfl, q1 H1 at1.pop⟩) fun _ _ z => z)⟩
theorem et_truL {xs : U → List Z} (h : EO X F e te G G' arg m) (hx : ∀ a s, Rdd (G' s) (arg a) (rList r3) (xs a)) (he : ∀ whole, isTrue e X.env whole = (do let v ← whole; standAt e.pos; holding [v] (truthy v)) := by intro _; rfl) :
    ET X F e (fun σ H Q => te σ H fun x H' => ∃ k, TruV X.K x H' k ∧ Q k H') G G' (bnd m fun a => ret (!(xs a).isEmpty)) :=
  ⟨pt_truth h.pe he, fun T t σ s H Q h0 q => h.go T t σ s H _ h0 (wp_mono (wp_bnd q) (fun a s1 q1 ts v H1 at1 av => by
    obtain ⟨A1, A2, at2⟩ := id at1
    obtain ⟨v', B, e1, p, vs, A, ev, hp, hA, eB⟩ := rddM (j := 0) at2 av rfl (hx a s1)
    cases e1
    subst ev
    refine ⟨_, .inl ⟨vs, SqL.of hp, rfl⟩, ?_⟩
    have el : vs.isEmpty = (xs a).isEmpty := by
      have := hA.length
      cases vs <;> cases hxa : xs a <;> simp_all
    rw [el]
    exact q1 H1 (at1.drops av)) fun _ _ z => z)⟩
/-! ### is None -/
/-- never None -/
def Rp.Nn {T : Type} (r : Rp T) : Prop := ∀ {K M H v a B}, r.rel K M H v a B → v ≠ .non
theorem nn_int : rInt.Nn := fun h => by rw [h.1]; intro z; cases z
theorem nn_bool : rBool.Nn := fun h => by rw [h.1]; intro z; cases z
theorem nn_str : rStr.Nn := fun h => by rw [h.1]; intro z; cases z
theorem nn_pair {T U : Type} {r : Rp T} {q : Rp U} : (rPair r q).Nn := by
  rintro K M H v a B ⟨p, v1, v2, B1, B2, e, _⟩
  rw [e]; intro z; cases z
theorem nn_tup3 {T U W : Type} {r : Rp T} {q : Rp U} {l : Rp W} : (rTup3 r q l).Nn := by
  rintro K M H v a B ⟨p, v1, v2, v3, B1, B2, B3, e, _⟩
  rw [e]; intro z; cases z
theorem nn_list {T : Type} {r : Rp T} : (rList r).Nn := by
  rintro K M H v a B ⟨p, vs, A, e, _⟩
  rw [e]; intro z; cases z
theorem nn_tupL {T : Type} {r : Rp T} : (rTupL r).Nn := by
  rintro K M H v a B ⟨p, vs, e, _⟩
  rw [e]; intro z; cases z
theorem nn_sh {T : Type} {r : Rp T} (n : r.Nn) : (sh r).Nn := by
  rintro K M H v a B ⟨_, A, h, _⟩
  exact n h
theorem opt_non {T : Type} {r : Rp T} (n : r.Nn) {K M H v a B} (h : (rOpt r).rel K M H v a B) : decide (v = .non) = a.isNone := by
  cases a with
  | none =>
    have e : v = .non := h.1
    rw [e]; rfl
  | some a => exact decide_eq_false (n h)
theorem go_isN {oa : U → Option W} (n : r2.Nn) (h : GO F te G G' arg m) (hx : ∀ a s, Rdd (G' s) (arg a) (rOpt r2) (oa a)) : GE F (tOp (fun x y H Q => y = .non ∧ Q (.bl (decide (x = .non))) H) te (tC .non)) G G' rBool (bnd m fun a => ret (oa a).isNone) := by
  intro T t σ s H Q h0 q
  refine h T t σ s H _ h0 (wp_mono (wp_bnd q) (fun a s1 q1 ts v H1 at1 av => ?_) fun _ _ z => z)
  obtain ⟨A1, A2, at2⟩ := id at1
  obtain ⟨v', B, e1, hr⟩ := rddM (j := 0) at2 av rfl (hx a s1)
  cases e1
  refine ⟨rfl, ?_⟩
  rw [opt_non n hr]
  exact q1 _ H1 (at2.fin av ⟨rfl, rfl⟩)
theorem go_notN {oa : U → Option W} (n : r2.Nn) (h : GO F te G G' arg m) (hx : ∀ a s, Rdd (G' s) (arg a) (rOpt r2) (oa a)) : GE F (tOp (fun x y H Q => y = .non ∧ Q (.bl (!decide (x = .non))) H) te (tC .non)) G G' rBool (bnd m fun a => ret (oa a).isSome) := by
  intro T t σ s H Q h0 q
  refine h T t σ s H _ h0 (wp_mono (wp_bnd q) (fun a s1 q1 ts v H1 at1 av => ?_) fun _ _ z => z)
  obtain ⟨A1, A2, at2⟩ := id at1
  obtain ⟨v', B, e1, hr⟩ := rddM (j := 0) at2 av rfl (hx a s1)
  cases e1
  refine ⟨rfl, ?_⟩
  rw [opt_non n hr, show (!(oa a).isNone) = (oa a).isSome by cases oa a <;> rfl]
  exact q1 _ H1 (at2.fin av ⟨rfl, rfl⟩)
theorem ex_isN {oa : U → Option W} {j : Nat} {p1 : Pos} (n : r2.Nn) (h : EO X F e te G G' arg m) (hx : ∀ a s, Rdd (G' s) (arg a) (rOpt r2) (oa a)) : EX X F (.Compare e [.Is] [.Constant .none j p1] pos) (tOp (fun x y H Q => y = .non ∧ Q (.bl (decide (x = .non))) H) te (tC .non)) G G' rBool (bnd m fun a => ret (oa a).isNone) :=
  ⟨pe_cmpR op_isN h.pe pe_non rfl, go_isN n h.go hx⟩
theorem ex_notN {oa : U → Option W} {j : Nat} {p1 : Pos} (n : r2.Nn) (h : EO X F e te G G' arg m) (hx : ∀ a s, Rdd (G' s) (arg a) (rOpt r2) (oa a)) : EX X F (.Compare e [.IsNot] [.Constant .none j p1] pos) (tOp (fun x y H Q => y = .non ∧ Q (.bl (!decide (x = .non))) H) te (tC .non)) G G' rBool (bnd m fun a => ret (oa a).isSome) :=
  ⟨pe_cmpR op_notN h.pe pe_non rfl, go_notN n h.go hx⟩
theorem et_isN {oa : U → Option W} {j : Nat} {p1 : Pos} (n : r2.Nn) (h : EO X F e te G G' arg m) (hx : ∀ a s, Rdd (G' s) (arg a) (rOpt r2) (oa a)) : ET X F (.Compare e [.Is] [.Constant .none j p1] pos) (tTest (tOp (fun x y H Q => y = .non ∧ Q (.bl (decide (x = .non))) H) te (tC .non))) G G' (bnd m fun a => ret (oa a).isNone) :=
  ⟨pt_cmpR op_isN h.pe pe_non rfl, go_test (go_isN n h.go hx)⟩
theorem et_notN {oa : U → Option W} {j : Nat} {p1 : Pos} (n : r2.Nn) (h : EO X F e te G G' arg m) (hx : ∀ a s, Rdd (G' s) (arg a) (rOpt r2) (oa a)) : ET X F (.Compare e [.IsNot] [.Constant .none j p1] pos) (tTest (tOp (fun x y H Q => y = .non ∧ Q (.bl (!decide (x = .non))) H) te (tC .non))) G G' (bnd m fun a => ret (oa a).isSome) :=
  ⟨pt_cmpR op_notN h.pe pe_non rfl, go_test (go_notN n h.go hx)⟩
/-- what is known not to be None -/
def optM {T : Type} (o : Option T) : SM S T := match o with
  | some a => ret a
  | none => stk
theorem wp_optM {T : Type} {o : Option T} {s : S} {P : T → S → Prop} {E : Exn → S → Prop} (h : (optM o s).wp P E) : ∃ a, o = some a ∧ P a s := by
  cases o with
  | none => exact h.elim
  | some a => exact ⟨a, rfl, h⟩
theorem ex_unopt {mo : SM S (Option U)} (h : EX X F e te G G' (rOpt r) mo) : EX X F e te G G' r (bnd mo fun o => optM o) := ⟨h.pe, fun T t σ s H Q h0 q => h.go T t σ s H Q h0 (wp_mono (wp_bnd q) (fun o s1 q1 v H1 at1 => by
    obtain ⟨a, e, q2⟩ := wp_optM q1
    subst e
    refine q2 v H1 ?_
    obtain ⟨A1, A2, at1⟩ := at1
    refine ⟨A1, A2, ?_, at1.loc, at1.good⟩
    obtain ⟨B, A', eA, ⟨v', ev, hr⟩, ht⟩ := AtS.cons_inv at1.tmp
    subst eA
    exact .cons ⟨v', ev, hr⟩ ht) fun _ _ z => z)⟩
theorem ex_unoptS {mo : SM S (Option U)} (h : EX X F e te G G' (sh (rOpt r)) mo) : EX X F e te G G' (sh r) (bnd mo fun o => optM o) := ⟨h.pe, fun T t σ s H Q h0 q => h.go T t σ s H Q h0 (wp_mono (wp_bnd q) (fun o s1 q1 v H1 at1 => by
    obtain ⟨a, e, q2⟩ := wp_optM q1
    subst e
    refine q2 v H1 ?_
    obtain ⟨A1, A2, at1⟩ := at1
    refine ⟨A1, A2, ?_, at1.loc, at1.good⟩
    obtain ⟨B, A', eA, ⟨v', ev, eB, C, hr, hC⟩, ht⟩ := AtS.cons_inv at1.tmp
    subst eA
    exact .cons ⟨v', ev, eB, C, hr, hC⟩ ht) fun _ _ z => z)⟩
theorem pe_chain3 {op op' op2 : CmpOp} {q1 q2 q3 : R2} (ho : OpR X (compareOp op) q1) (ho' : OpR X (compareOp op') q2) (ho2 : OpR X (compareOp op2) q3) (ha : PE X a ta) (hb : PE X b tb) (hc : PE X c tc) (hd : PE X d td)
    (hm : lastMarks [op, op', op2] [b, c, d] = false := by with_unfolding_all rfl) : PE X (.Compare a [op, op', op2] [b, c, d] pos) (tChain3 q1 q2 q3 ta tb tc td) := by
  refine ⟨fun pins s σ H Q I h => ?_⟩
  refine Compare_chain (thn (ha.run pins s σ H _ I h) fun v s1 ⟨x, H1, I1, r1, q1⟩ => chain_link (thn (hb.run pins s1 σ H1 _ I1 q1) fun u s2 ⟨y, H2, I2, r2, q2⟩ =>
    thn (ho pins s2 σ H2 x y v u _ I2 r1 r2 q2) fun d s3 ⟨z, H3, I3, r3, k, e, q3⟩ => ?_)) hm
  subst e
  cases r3
  refine wpAny_truthy_bool ?_
  cases k with
  | false => exact ite_ff ⟨.bl false, H3, I3, rfl, q3⟩
  | true =>
    refine ite_tt (chain_link (thn (hc.run pins s3 σ H3 _ I3 q3) fun w' s4 ⟨z', H4, I4, r4, q4⟩ => thn (ho' pins s4 σ H4 y z' u w' _ I4 r2 r4 q4) fun d2 s5 ⟨z2, H5, I5, r5, k2, e2, q5⟩ => ?_))
    subst e2
    cases r5
    refine wpAny_truthy_bool ?_
    cases k2 with
    | false => exact ite_ff ⟨.bl false, H5, I5, rfl, q5⟩
    | true => exact ite_tt (chain_last (thn (hd.run pins s5 σ H5 _ I5 q5) fun w2 s6 ⟨z3, H6, I6, r6, q6⟩ => ho2 pins s6 σ H6 z' z3 w' w2 Q I6 r4 r6 q6))
theorem pt_chain3 {op op' op2 : CmpOp} {q1 q2 q3 : R2} (ho : OpR X (compareOp op) q1) (ho' : OpR X (compareOp op') q2) (ho2 : OpR X (compareOp op2) q3) (ha : PE X a ta) (hb : PE X b tb) (hc : PE X c tc) (hd : PE X d td)
    (hm : lastMarks [op, op', op2] [b, c, d] = false := by with_unfolding_all rfl) : PT X (.Compare a [op, op', op2] [b, c, d] pos) (tTest (tChain3 q1 q2 q3 ta tb tc td)) := by
  refine ⟨fun pins s σ H Q I h => ?_⟩
  refine isTrue_chain (thn (ha.run pins s σ H _ I h) fun v s1 ⟨x, H1, I1, r1, q1⟩ => test_link (thn (hb.run pins s1 σ H1 _ I1 q1) fun u s2 ⟨y, H2, I2, r2, q2⟩ =>
    thn (ho pins s2 σ H2 x y v u _ I2 r1 r2 q2) fun d s3 ⟨z, H3, I3, r3, k, e, q3⟩ => ?_)) hm
  subst e
  cases r3
  refine wpAny_truthy_bool ?_
  cases k with
  | false =>
    obtain ⟨k', e', q'⟩ := q3
    cases e'
    exact ite_ff ⟨H3, I3, q'⟩
  | true =>
    refine ite_tt (test_link (thn (hc.run pins s3 σ H3 _ I3 q3) fun w' s4 ⟨z', H4, I4, r4, q4⟩ => thn (ho' pins s4 σ H4 y z' u w' _ I4 r2 r4 q4) fun d2 s5 ⟨z2, H5, I5, r5, k2, e2, q5⟩ => ?_))
    subst e2
    cases r5
    refine wpAny_truthy_bool ?_
    cases k2 with
    | false =>
      obtain ⟨k', e', q'⟩ := q5
      cases e'
      exact ite_ff ⟨H5, I5, q'⟩
    | true =>
      refine ite_tt (test_last (thn (hd.run pins s5 σ H5 _ I5 q5) fun w2 s6 ⟨z3, H6, I6, r6, q6⟩ => thn (ho2 pins s6 σ H6 z' z3 w' w2 _ I6 r4 r6 q6) fun d' s7 ⟨z4, H7, I7, r7, k4, e4, q7⟩ => ?_))
      subst e4
      cases r7
      exact wpAny_truthy_bool ⟨H7, I7, q7⟩
end
section
variable {X : Cx} {S : Type} {F : FC X.K S} {a b c d : Expr} {ta tb tc td : TE} {G G1 G2 G3 G4 : S → List Slot} {ma mb mc md : SM S Int} {pos : Pos} {q1 q2 q3 : R2} {f1 f2 f3 : Int → Int → Bool} {op op' op2 : CmpOp}
/-- a comparison of ints -/
def CmpI (X : Cx) (op : CmpOp) (rr : R2) (f : Int → Int → Bool) : Prop := OpR X (compareOp op) rr ∧ ∀ i j H Q, Q (.bl (f i j)) H → rr (.int i) (.int j) H Q
theorem ci_lt : CmpI X .Lt (rI0 fun i j => .bl (decide (i < j))) (fun i j => decide (i < j)) := ⟨op_lt, fun i j H Q q => ⟨i, j, rfl, rfl, q⟩⟩
theorem ci_le : CmpI X .LtE (rI0 fun i j => .bl (decide (i ≤ j))) (fun i j => decide (i ≤ j)) := ⟨op_le, fun i j H Q q => ⟨i, j, rfl, rfl, q⟩⟩
theorem ci_gt : CmpI X .Gt (rI0 fun i j => .bl (decide (j < i))) (fun i j => decide (j < i)) := ⟨op_gt, fun i j H Q q => ⟨i, j, rfl, rfl, q⟩⟩
theorem ci_ge : CmpI X .GtE (rI0 fun i j => .bl (decide (j ≤ i))) (fun i j => decide (j ≤ i)) := ⟨op_ge, fun i j H Q q => ⟨i, j, rfl, rfl, q⟩⟩
theorem go_chain2 (c1 : CmpI X op q1 f1) (c2 : CmpI X op' q2 f2) (h1 : GE F ta G G1 rInt ma) (h2 : GE F tb G1 G2 rInt mb) (h3 : GE F tc G2 G2 rInt mc) : GE F (tChain q1 q2 ta tb tc) G G2 rBool (bnd ma fun i => bnd mb fun j => if f1 i j then bnd mc fun k => ret (f2 j k) else ret false) := by
  intro T t σ s H Q h0 q
  refine h1 T t σ s H _ h0 (wp_mono (wp_bnd q) (fun i s1 q1 v H1 at1 => ?_) fun _ _ z => z)
  refine h2 _ _ σ s1 H1 _ at1 (wp_mono (wp_bnd q1) (fun j s2 q2 w H2 at2 => ?_) fun _ _ z => z)
  obtain ⟨_, _, k1⟩ := snd_rel at2
  obtain ⟨_, _, k2⟩ := top_rel at2
  obtain ⟨ev, _⟩ := k1
  obtain ⟨ew, _⟩ := k2
  subst ev ew
  refine c1.2 i j H2 _ ⟨_, rfl, ?_⟩
  cases hf : f1 i j with
  | false =>
    rw [hf] at q2
    exact q2 _ H2 (at2.pop.pop.push fun _ => ⟨rfl, rfl⟩)
  | true =>
    rw [hf] at q2
    refine h3 _ _ σ s2 H2 _ at2.pop.pop (wp_mono (wp_bnd q2) (fun k s3 q3 u H3 at3 => ?_) fun _ _ z => z)
    obtain ⟨_, _, k3⟩ := top_rel at3
    obtain ⟨eu, _⟩ := k3
    subst eu
    exact c2.2 j k H3 _ (q3 _ H3 (at3.pop.push fun _ => ⟨rfl, rfl⟩))
theorem ex_chain2 (c1 : CmpI X op q1 f1) (c2 : CmpI X op' q2 f2) (h1 : EX X F a ta G G1 rInt ma) (h2 : EX X F b tb G1 G2 rInt mb) (h3 : EX X F c tc G2 G2 rInt mc) (hm : lastMarks [op, op'] [b, c] = false := by with_unfolding_all rfl) :
    EX X F (.Compare a [op, op'] [b, c] pos) (tChain q1 q2 ta tb tc) G G2 rBool (bnd ma fun i => bnd mb fun j => if f1 i j then bnd mc fun k => ret (f2 j k) else ret false) := ⟨pe_chain c1.1 c2.1 h1.pe h2.pe h3.pe hm, go_chain2 c1 c2 h1.go h2.go h3.go⟩
theorem et_chain2 (c1 : CmpI X op q1 f1) (c2 : CmpI X op' q2 f2) (h1 : EX X F a ta G G1 rInt ma) (h2 : EX X F b tb G1 G2 rInt mb) (h3 : EX X F c tc G2 G2 rInt mc) (hm : lastMarks [op, op'] [b, c] = false := by with_unfolding_all rfl) :
    ET X F (.Compare a [op, op'] [b, c] pos) (tTest (tChain q1 q2 ta tb tc)) G G2 (bnd ma fun i => bnd mb fun j => if f1 i j then bnd mc fun k => ret (f2 j k) else ret false) := ⟨pt_chain c1.1 c2.1 h1.pe h2.pe h3.pe hm, go_test (go_chain2 c1 c2 h1.go h2.go h3.go)⟩
theorem go_chain3 (c1 : CmpI X op q1 f1) (c2 : CmpI X op' q2 f2) (c3 : CmpI X op2 q3 f3) (h1 : GE F ta G G1 rInt ma) (h2 : GE F tb G1 G2 rInt mb) (h3 : GE F tc G2 G2 rInt mc) (h4 : GE F td G2 G2 rInt md) : GE F (tChain3 q1 q2 q3 ta tb tc td) G G2 rBool (bnd ma fun i => bnd mb fun j => if f1 i j then bnd mc fun k => if f2 j k then bnd md fun l => ret (f3 k l) else ret false else ret false) := by
  intro T t σ s H Q h0 q
  refine h1 T t σ s H _ h0 (wp_mono (wp_bnd q) (fun i s1 q1 v H1 at1 => ?_) fun _ _ z => z)
  refine h2 _ _ σ s1 H1 _ at1 (wp_mono (wp_bnd q1) (fun j s2 q2 w H2 at2 => ?_) fun _ _ z => z)
  obtain ⟨_, _, k1⟩ := snd_rel at2
  obtain ⟨_, _, k2⟩ := top_rel at2
  obtain ⟨ev, _⟩ := k1
  obtain ⟨ew, _⟩ := k2
  subst ev ew
  refine c1.2 i j H2 _ ⟨_, rfl, ?_⟩
  cases hf : f1 i j with
  | false =>
    rw [hf] at q2
    exact q2 _ H2 (at2.pop.pop.push fun _ => ⟨rfl, rfl⟩)
  | true =>
    rw [hf] at q2
    refine h3 _ _ σ s2 H2 _ at2.pop.pop (wp_mono (wp_bnd q2) (fun k s3 q3 u H3 at3 => ?_) fun _ _ z => z)
    obtain ⟨_, _, k3⟩ := top_rel at3
    obtain ⟨eu, _⟩ := k3
    subst eu
    refine c2.2 j k H3 _ ⟨_, rfl, ?_⟩
    cases hf2 : f2 j k with
    | false =>
      rw [hf2] at q3
      exact q3 _ H3 (at3.pop.push fun _ => ⟨rfl, rfl⟩)
    | true =>
      rw [hf2] at q3
      refine h4 _ _ σ s3 H3 _ at3.pop (wp_mono (wp_bnd q3) (fun l s4 q4 x H4 at4 => ?_) fun _ _ z => z)
      obtain ⟨_, _, k4⟩ := top_rel at4
      obtain ⟨ex, _⟩ := k4
      subst ex
      exact c3.2 k l H4 _ (q4 _ H4 (at4.pop.push fun _ => ⟨rfl, rfl⟩))
theorem ex_chain3 (c1 : CmpI X op q1 f1) (c2 : CmpI X op' q2 f2) (c3 : CmpI X op2 q3 f3) (h1 : EX X F a ta G G1 rInt ma) (h2 : EX X F b tb G1 G2 rInt mb) (h3 : EX X F c tc G2 G2 rInt mc) (h4 : EX X F d td G2 G2 rInt md) (hm : lastMarks [op, op', op2] [b, c, d] = false := by with_unfolding_all rfl) :
    EX X F (.Compare a [op, op', op2] [b, c, d] pos) (tChain3 q1 q2 q3 ta tb tc td) G G2 rBool (bnd ma fun i => bnd mb fun j => if f1 i j then bnd mc fun k => if f2 j k then bnd md fun l => ret (f3 k l) else ret false else ret false) := ⟨pe_chain3 c1.1 c2.1 c3.1 h1.pe h2.pe h3.pe h4.pe hm, go_chain3 c1 c2 c3 h1.go h2.go h3.go h4.go⟩
theorem et_chain3 (c1 : CmpI X op q1 f1) (c2 : CmpI X op' q2 f2) (c3 : CmpI X op2 q3 f3) (h1 : EX X F a ta G G1 rInt ma) (h2 : EX X F b tb G1 G2 rInt mb) (h3 : EX X F c tc G2 G2 rInt mc) (h4 : EX X F d td G2 G2 rInt md) (hm : lastMarks [op, op', op2] [b, c, d] = false := by with_unfolding_all rfl) :
    ET X F (.Compare a [op, op', op2] [b, c, d] pos) (tTest (tChain3 q1 q2 q3 ta tb tc td)) G G2 (bnd ma fun i => bnd mb fun j => if f1 i j then bnd mc fun k => if f2 j k then bnd md fun l => ret (f3 k l) else ret false else ret false) := ⟨pt_chain3 c1.1 c2.1 c3.1 h1.pe h2.pe h3.pe h4.pe hm, go_test (go_chain3 c1 c2 c3 h1.go h2.go h3.go h4.go)⟩
end
/-! ### all, any, sum of lists -/
theorem all_pl {T : Type} {f : T → V} {K : PySem.W.Frag} {M : List Addr} {H : Hp} {vs : List V} {as : List T} {A : List Addr} (h : All3 ((rPl f).rel K M H) vs as A) : vs = as.map f := by
  induction h with
  | nil => rfl
  | cons h t ih => rw [h.1, ih]; rfl
section
variable {X : Cx} {S : Type} {F : FC X.K S} {U : Type} {e : Expr} {te : TE} {G G' : S → List Slot} {m : SM S U} {arg : U → Arg} {pos p0 : Pos}
theorem ex_all {xs : U → List Bool} (h : EO X F e te G G' arg m) (hx : ∀ a s, Rdd (G' s) (arg a) (rList rBool) (xs a)) (hc : X.calm = true) (hg : Gl X "all") (hm : X.mg "all" = none) (hs : PySem.W.isStarred e = false := by rfl) :
    EX X F (.Call (.Name "all" p0) [e] [] pos) (tCB (rAll X.K) (tCons te tNil)) G G' rBool (bnd m fun a => ret ((xs a).all id)) :=
  ex_callB1 (cr_all hc) hg hm (by decide) h (go_call1 h.go (fun _ => stl_ret _) fun a s T t ts v σ H Q A1 A2 at1 av q => by
    obtain ⟨v', B, e1, p, vs, A, ev, hp, hA, eB⟩ := rddM (j := 0) at1 av rfl (hx a s)
    cases e1
    have evs := all_pl hA
    subst evs
    exact ⟨p, xs a, by rw [ev], SqL.of hp, q.2 _ H (at1.fin av ⟨rfl, rfl⟩)⟩) hs
theorem ex_any {xs : U → List Bool} (h : EO X F e te G G' arg m) (hx : ∀ a s, Rdd (G' s) (arg a) (rList rBool) (xs a)) (hc : X.calm = true) (hg : Gl X "any") (hm : X.mg "any" = none) (hs : PySem.W.isStarred e = false := by rfl) :
    EX X F (.Call (.Name "any" p0) [e] [] pos) (tCB (rAny X.K) (tCons te tNil)) G G' rBool (bnd m fun a => ret ((xs a).any id)) :=
  ex_callB1 (cr_any hc) hg hm (by decide) h (go_call1 h.go (fun _ => stl_ret _) fun a s T t ts v σ H Q A1 A2 at1 av q => by
    obtain ⟨v', B, e1, p, vs, A, ev, hp, hA, eB⟩ := rddM (j := 0) at1 av rfl (hx a s)
    cases e1
    have evs := all_pl hA
    subst evs
    exact ⟨p, xs a, by rw [ev], SqL.of hp, q.2 _ H (at1.fin av ⟨rfl, rfl⟩)⟩) hs
theorem ex_sum {xs : U → List Int} (h : EO X F e te G G' arg m) (hx : ∀ a s, Rdd (G' s) (arg a) (rList rInt) (xs a)) (hc : X.calm = true) (hg : Gl X "sum") (hm : X.mg "sum" = none) (hs : PySem.W.isStarred e = false := by rfl) :
    EX X F (.Call (.Name "sum" p0) [e] [] pos) (tCB (rSum X.K) (tCons te tNil)) G G' rInt (bnd m fun a => ret (xs a).sum) :=
  ex_callB1 (cr_sum hc) hg hm (by decide) h (go_call1 h.go (fun _ => stl_ret _) fun a s T t ts v σ H Q A1 A2 at1 av q => by
    obtain ⟨v', B, e1, p, vs, A, ev, hp, hA, eB⟩ := rddM (j := 0) at1 av rfl (hx a s)
    cases e1
    have evs := all_pl hA
    subst evs
    exact ⟨p, xs a, by rw [ev], SqL.of hp, q.2 _ H (at1.fin av ⟨rfl, rfl⟩)⟩) hs
end
end Td

set_option Elab.async false
set_option linter.all false
set_option maxRecDepth 100000
set_option maxHeartbeats 4000000
namespace Td
open PySem PySem.Spec PyProof.Rows L2

section
variable {X : Cx} {S : Type} {F : FC X.K S} {U W Z N L R : Type} {r r1 : Rp U} {r2 : Rp W} {r3 : Rp Z} {a b : Expr} {ta tb : TE} {G G1 G2 G' : S → List Slot} {m1 : SM S U} {m2 : SM S W} {pos p0 : Pos} {argU : U → Arg} {argW : W → Arg}
/-- an operation on two operands, each a temp or a name -/
theorem go_op2 {rr : R2} {f : U → W → SM S Z} (h1 : GO F ta G G1 argU m1) (h2 : GO F tb G1 G2 argW m2) (hf : ∀ a b, Stl (f a b))
    (hv : ∀ (a : U) (b : W) (s : S) (T : List Slot) (t ts : List V) (x y : V) (σ : L2.St) (H : Hp) (Q : VK) (A1 A2 : List Addr), AtP F ((tmps [argU a, argW b]).reverse ++ T) (ts.reverse ++ t) (G2 s) σ H A1 A2 → ArgV σ [argU a, argW b] ts [x, y] →
      (f a b s).wp (fun c s' => s' = s ∧ ∀ u H', At F (.is r3 c :: T) (u :: t) (G2 s) σ H' → Q u H') (fun _ _ => True) → rr x y H Q) : GE F (tOp rr ta tb) G G2 r3 (bnd m1 fun a => bnd m2 fun b => f a b) := by
  intro T t σ s H Q h0 q
  refine h1 T t σ s H _ h0 (wp_mono (wp_bnd q) (fun a s1 q1 ts x H1 at1 av1 => ?_) fun _ _ z => z)
  refine h2 _ _ σ s1 H1 _ at1 (wp_mono (wp_bnd q1) (fun b s2 q2 us y H2 at2 av2 => ?_) fun _ _ z => z)
  obtain ⟨A1, A2, at2⟩ := at2
  refine hv a b s2 T t (ts ++ us) x y σ H2 Q A1 A2 ?_ (argV_cons av1 av2) (wp_mono ((hf a b).wp (E' := fun _ _ => True) q2) (fun c s3 q3 => ?_) fun _ _ _ => trivial)
  · rw [tmps_cons]
    simpa using at2
  · obtain ⟨e, q3⟩ := q3
    subst e
    exact ⟨rfl, q3⟩
/-! ### data: == and != and repr -/
def Enc {T : Type} (r : Rp T) (f : T → PyData) : Prop := ∀ {K M H v a B}, r.rel K M H v a B → Dp K H v (f a)
theorem enc_int : Enc rInt .int := fun h => by rw [h.1]; exact .int _
theorem enc_bool : Enc rBool .bool := fun h => by rw [h.1]; exact .bl _
theorem enc_str : Enc rStr .str := fun h => by rw [h.1]; exact .str _
theorem enc_non : Enc rNon (fun _ => .none) := fun h => by rw [h.1]; exact .non
theorem enc_pair {T U : Type} {r : Rp T} {q : Rp U} {f : T → PyData} {g : U → PyData} (h1 : Enc r f) (h2 : Enc q g) : Enc (rPair r q) (fun p => .tuple [f p.1, g p.2]) := by
  rintro K M H v a B ⟨p, v1, v2, B1, B2, e, hT, k1, k2, _⟩
  rw [e]
  exact .tup hT (.cons (h1 k1) (.cons (h2 k2) .nil))
theorem enc_tup3 {T U W : Type} {r : Rp T} {q : Rp U} {l : Rp W} {f : T → PyData} {g : U → PyData} {k : W → PyData} (h1 : Enc r f) (h2 : Enc q g) (h3 : Enc l k) : Enc (rTup3 r q l) (fun p => .tuple [f p.1, g p.2.1, k p.2.2]) := by
  rintro K M H v a B ⟨p, v1, v2, v3, B1, B2, B3, e, hT, k1, k2, k3, _⟩
  rw [e]
  exact .tup hT (.cons (h1 k1) (.cons (h2 k2) (.cons (h3 k3) .nil)))
theorem enc_opt {T : Type} {r : Rp T} {f : T → PyData} (h1 : Enc r f) : Enc (rOpt r) (fun o => match o with | none => .none | some a => f a) := by
  intro K M H v a B h
  cases a with
  | none =>
    have e : v = .non := h.1
    rw [e]; exact .non
  | some a => exact h1 h
theorem enc_all {T : Type} {K : PySem.W.Frag} {R : V → T → List Addr → Prop} {H : Hp} {f : T → PyData} (h : ∀ v a B, R v a B → Dp K H v (f a)) : ∀ {vs : List V} {as : List T} {A : List Addr}, All3 R vs as A → DpAll K H vs (as.map f)
  | _, _, _, .nil => .nil
  | _, _, _, .cons k t => .cons (h _ _ _ k) (enc_all h t)
theorem enc_list {T : Type} {r : Rp T} {f : T → PyData} (h1 : Enc r f) : Enc (rList r) (fun xs => .list (xs.map f)) := by
  rintro K M H v a B ⟨p, vs, A, e, hp, hA, _⟩
  rw [e]
  exact .lst (SqL.of hp) (enc_all (fun _ _ _ k => h1 k) hA)
theorem enc_tupL {T : Type} {r : Rp T} {f : T → PyData} (h1 : Enc r f) : Enc (rTupL r) (fun xs => .tuple (xs.map f)) := by
  rintro K M H v a B ⟨p, vs, e, hp, hA⟩
  rw [e]
  exact .tup hp (enc_all (fun _ _ _ k => h1 k) hA)
theorem enc_sh {T : Type} {r : Rp T} {f : T → PyData} (h1 : Enc r f) : Enc (sh r) f := by
  rintro K M H v a B ⟨_, A, h, _⟩
  exact h1 h
def eqD (x y : PyData) : SM S Bool := bnd (grd (SeqAt.shaped x = true ∧ SeqAt.shaped y = true)) fun _ => ret (PyData.eqv x y)
def neD (x y : PyData) : SM S Bool := bnd (grd (SeqAt.shaped x = true ∧ SeqAt.shaped y = true)) fun _ => ret (!PyData.eqv x y)
theorem stl_eqD (x y : PyData) : Stl (eqD x y : SM S Bool) := stl_bnd stl_grd fun _ => stl_ret _
theorem stl_neD (x y : PyData) : Stl (neD x y : SM S Bool) := stl_bnd stl_grd fun _ => stl_ret _
/-- an operand read as data -/
inductive RdE (G : List Slot) (arg : Arg) : PyData → Prop
  | mk {T : Type} {r : Rp T} {f : T → PyData} {x : T} (e : Enc r f) (h : Rdd G arg r x) : RdE G arg (f x)
theorem rdE {K : PySem.W.Frag} {F : FC K S} {T : List Slot} {t ts vs : List V} {G : List Slot} {σ : L2.St} {H : Hp} {L : List Arg} {j : Nat} {arg : Arg} {d : PyData} {A1 A2 : List Addr} (h : AtP F ((tmps L).reverse ++ T) (ts.reverse ++ t) G σ H A1 A2) (av : ArgV σ L ts vs) (e : L[j]? = some arg) (rd : RdE G arg d) : ∃ v, vs[j]? = some v ∧ Dp K H v d := by
  obtain ⟨en, hr⟩ := rd
  obtain ⟨v, B, ev, k⟩ := rddM h av e hr
  exact ⟨v, ev, en k⟩
section
variable {da : U → PyData} {db : W → PyData}
theorem go_eqD (h1 : GO F ta G G1 argU m1) (h2 : GO F tb G1 G2 argW m2) (x1 : ∀ a s, RdE (G2 s) (argU a) (da a)) (x2 : ∀ a s, RdE (G2 s) (argW a) (db a)) :
    GE F (tOp (rEqD X.K) ta tb) G G2 rBool (bnd m1 fun a => bnd m2 fun b => eqD (da a) (db b)) :=
  go_op2 h1 h2 (fun _ _ => stl_eqD _ _) fun a b s T t ts x y σ H Q A1 A2 at1 av q => by
    obtain ⟨v, ev, k1⟩ := rdE (j := 0) at1 av rfl (x1 a s)
    obtain ⟨w, ew, k2⟩ := rdE (j := 1) at1 av rfl (x2 b s)
    cases ev; cases ew
    obtain ⟨⟨s1, s2⟩, q⟩ := wp_grd (wp_bnd q)
    exact ⟨_, _, k1, k2, s1, s2, q.2 _ H (at1.fin av ⟨rfl, rfl⟩)⟩
theorem go_neD (h1 : GO F ta G G1 argU m1) (h2 : GO F tb G1 G2 argW m2) (x1 : ∀ a s, RdE (G2 s) (argU a) (da a)) (x2 : ∀ a s, RdE (G2 s) (argW a) (db a)) :
    GE F (tOp (rNeD X.K) ta tb) G G2 rBool (bnd m1 fun a => bnd m2 fun b => neD (da a) (db b)) :=
  go_op2 h1 h2 (fun _ _ => stl_neD _ _) fun a b s T t ts x y σ H Q A1 A2 at1 av q => by
    obtain ⟨v, ev, k1⟩ := rdE (j := 0) at1 av rfl (x1 a s)
    obtain ⟨w, ew, k2⟩ := rdE (j := 1) at1 av rfl (x2 b s)
    cases ev; cases ew
    obtain ⟨⟨s1, s2⟩, q⟩ := wp_grd (wp_bnd q)
    exact ⟨_, _, k1, k2, s1, s2, q.2 _ H (at1.fin av ⟨rfl, rfl⟩)⟩
variable (hu : X.A.units + 64 < cLine)
include hu
theorem ex_eqD (h1 : EO X F a ta G G1 argU m1) (h2 : EO X F b tb G1 G2 argW m2) (x1 : ∀ a s, RdE (G2 s) (argU a) (da a)) (x2 : ∀ a s, RdE (G2 s) (argW a) (db a)) (hm : behindInMarks .Eq b = false := by rfl) :
    EX X F (.Compare a [.Eq] [b] pos) (tOp (rEqD X.K) ta tb) G G2 rBool (bnd m1 fun a => bnd m2 fun b => eqD (da a) (db b)) := ⟨pe_cmpR (op_eqD hu) h1.pe h2.pe hm, go_eqD h1.go h2.go x1 x2⟩
theorem ex_neD (h1 : EO X F a ta G G1 argU m1) (h2 : EO X F b tb G1 G2 argW m2) (x1 : ∀ a s, RdE (G2 s) (argU a) (da a)) (x2 : ∀ a s, RdE (G2 s) (argW a) (db a)) (hm : behindInMarks .NotEq b = false := by rfl) :
    EX X F (.Compare a [.NotEq] [b] pos) (tOp (rNeD X.K) ta tb) G G2 rBool (bnd m1 fun a => bnd m2 fun b => neD (da a) (db b)) := ⟨pe_cmpR (op_neD hu) h1.pe h2.pe hm, go_neD h1.go h2.go x1 x2⟩
theorem et_eqD (h1 : EO X F a ta G G1 argU m1) (h2 : EO X F b tb G1 G2 argW m2) (x1 : ∀ a s, RdE (G2 s) (argU a) (da a)) (x2 : ∀ a s, RdE (G2 s) (argW a) (db a)) (hm : behindInMarks .Eq b = false := by rfl) :
    ET X F (.Compare a [.Eq] [b] pos) (tTest (tOp (rEqD X.K) ta tb)) G G2 (bnd m1 fun a => bnd m2 fun b => eqD (da a) (db b)) := ⟨pt_cmpR (op_eqD hu) h1.pe h2.pe hm, go_test (go_eqD h1.go h2.go x1 x2)⟩
theorem et_neD (h1 : EO X F a ta G G1 argU m1) (h2 : EO X F b tb G1 G2 argW m2) (x1 : ∀ a s, RdE (G2 s) (argU a) (da a)) (x2 : ∀ a s, RdE (G2 s) (argW a) (db a)) (hm : behindInMarks .NotEq b = false := by rfl) :
    ET X F (.Compare a [.NotEq] [b] pos) (tTest (tOp (rNeD X.K) ta tb)) G G2 (bnd m1 fun a => bnd m2 fun b => neD (da a) (db b)) := ⟨pt_cmpR (op_neD hu) h1.pe h2.pe hm, go_test (go_neD h1.go h2.go x1 x2)⟩
end
/-! ### items, list + list -/
/-- xs[i] -/
theorem ex_ix {xs : U → List Z} {mi : SM S Int} (h1 : EO X F a ta G G1 argU m1) (h2 : EX X F b tb G1 G2 rInt mi) (c : r3.Cp) (hx : ∀ a s, Rdd (G2 s) (argU a) (rList r3) (xs a)) (hs : PlainIx b := by exact fun _ _ => rfl) :
    EX X F (.Subscript a b pos) (tOp (rIxL X.K) ta tb) G G2 r3 (bnd m1 fun a => bnd mi fun i => ixM (xs a) i) :=
  ⟨pe_ix ix_list h1.pe h2.pe hs, go_op2 h1.go (eo_t h2).go (fun _ _ => stl_ixM _ _) fun a i s T t ts x y σ H Q A1 A2 at1 av q => by
    obtain ⟨v, B, e1, p, vs, A, ev, hp, hA, eB⟩ := rddM (j := 0) at1 av rfl (hx a s)
    obtain ⟨w, B', e2, ew, _⟩ := rddM (j := 1) at1 av rfl .t
    cases e1; cases e2
    obtain ⟨z, ez, _, q⟩ := wp_ixM q
    obtain ⟨u, Bu, e3, hr, _⟩ := atI_all (K := X.K) hA ez
    have eBu := c hr
    subst eBu
    exact ⟨p, vs, i, u, ev, ew, SqL.of hp, e3, q u H (at1.fin av hr)⟩⟩
theorem ex_ixS {xs : U → List Z} {mi : SM S Int} (h1 : EO X F a ta G G1 argU m1) (h2 : EX X F b tb G1 G2 rInt mi) (hx : ∀ a s, RdS (G2 s) (argU a) (rList r3) (xs a)) (hs : PlainIx b := by exact fun _ _ => rfl) :
    EX X F (.Subscript a b pos) (tOp (rIxL X.K) ta tb) G G2 (sh r3) (bnd m1 fun a => bnd mi fun i => ixM (xs a) i) :=
  ⟨pe_ix ix_list h1.pe h2.pe hs, go_op2 h1.go (eo_t h2).go (fun _ _ => stl_ixM _ _) fun a i s T t ts x y σ H Q A1 A2 at1 av q => by
    obtain ⟨v, e1, _, C, ⟨p, vs, A, ev, hp, hA, eC⟩, hC⟩ := rdS (j := 0) at1 av rfl (hx a s)
    obtain ⟨w, B', e2, ew, _⟩ := rddM (j := 1) at1 av rfl .t
    cases e1; cases e2
    obtain ⟨z, ez, _, q⟩ := wp_ixM q
    obtain ⟨u, Bu, e3, hr, sub⟩ := atI_all (K := X.K) hA ez
    exact ⟨p, vs, i, u, ev, ew, SqL.of hp, e3, q u H (at1.fin (r := sh r3) av ⟨rfl, Bu, hr, fun x hx => hC x (by rw [eC]; exact List.mem_cons_of_mem _ (sub x hx))⟩)⟩⟩
/-- t[i] of a tuple of many -/
theorem ex_ixT {xs : U → List Z} {mi : SM S Int} (h1 : EO X F a ta G G1 argU m1) (h2 : EX X F b tb G1 G2 rInt mi) (c : r3.Cp) (hx : ∀ a s, Rdd (G2 s) (argU a) (rTupL r3) (xs a)) (hs : PlainIx b := by exact fun _ _ => rfl) :
    EX X F (.Subscript a b pos) (tOp (rIxT X.K) ta tb) G G2 r3 (bnd m1 fun a => bnd mi fun i => ixM (xs a) i) :=
  ⟨pe_ix ix_tup h1.pe h2.pe hs, go_op2 h1.go (eo_t h2).go (fun _ _ => stl_ixM _ _) fun a i s T t ts x y σ H Q A1 A2 at1 av q => by
    obtain ⟨v, B, e1, p, vs, ev, hp, hA⟩ := rddM (j := 0) at1 av rfl (hx a s)
    obtain ⟨w, B', e2, ew, _⟩ := rddM (j := 1) at1 av rfl .t
    cases e1; cases e2
    obtain ⟨z, ez, _, q⟩ := wp_ixM q
    obtain ⟨u, Bu, e3, hr, _⟩ := atI_all (K := X.K) hA ez
    have eBu := c hr
    subst eBu
    exact ⟨p, vs, i, u, ev, ew, hp, e3, q u H (at1.fin av hr)⟩⟩
def catM {T : Type} (xs ys : List T) : SM S (List T) := bnd (lenG (xs ++ ys)) fun _ => ret (xs ++ ys)
/-- xs + ys of things that own nothing -/
theorem ex_cat {xs : U → List Z} {ys : W → List Z} (h1 : EO X F a ta G G1 argU m1) (h2 : EO X F b tb G1 G2 argW m2) (c : r3.Cp) (hx : ∀ a s, Rdd (G2 s) (argU a) (rList r3) (xs a)) (hy : ∀ a s, Rdd (G2 s) (argW a) (rList r3) (ys a)) :
    EX X F (.BinOp a .Add b pos) (tOp rCat ta tb) G G2 (rList r3) (bnd m1 fun a => bnd m2 fun b => catM (xs a) (ys b)) :=
  ⟨pe_op op_cat h1.pe h2.pe, go_op2 h1.go h2.go (fun _ _ => stl_bnd stl_grd fun _ => stl_ret _) fun a b s T t ts x y σ H Q A1 A2 at1 av q => by
    obtain ⟨v, B, e1, p, vs, A, ev, hp, hA, eB⟩ := rddM (j := 0) at1 av rfl (hx a s)
    obtain ⟨v2, B2, e2, p2, vs2, A', ev2, hp2, hA2, eB2⟩ := rddM (j := 1) at1 av rfl (hy b s)
    cases e1; cases e2
    obtain ⟨hz, q⟩ := wp_grd (wp_bnd q)
    have eA := cp_all c hA
    have eA2 := cp_all c hA2
    subst eA; subst eA2
    have hz' : (xs a ++ ys b).length ≤ sizeLine := hz
    rw [List.length_append, ← hA.length, ← hA2.length] at hz'
    exact ⟨p, p2, vs, vs2, ev, ev2, hp, hp2, hz', fun l hl => q.2 _ _ (at1.newL av (hA.append hA2) hl)⟩⟩
/-- x in xs, of flat plain things -/
theorem ex_inL {xs : W → List Int} {mi : SM S Int} (h1 : EX X F a ta G G1 rInt mi) (h2 : EO X F b tb G1 G2 argW m2) (hx : ∀ a s, Rdd (G2 s) (argW a) (rList rInt) (xs a)) (hm : behindInMarks .In b = false := by with_unfolding_all rfl) :
    EX X F (.Compare a [.In] [b] pos) (tOp (rIn X.K false) ta tb) G G2 rBool (bnd mi fun i => bnd m2 fun b => ret ((xs b).any (· == i))) :=
  ⟨pe_cmpR op_in_seq h1.pe h2.pe hm, go_op2 (eo_t h1).go h2.go (fun _ _ => stl_ret _) fun i b s T t ts x y σ H Q A1 A2 at1 av q => by
    obtain ⟨v, B, e1, ei, _⟩ := rddM (j := 0) at1 av rfl .t
    obtain ⟨v2, B2, e2, p2, vs2, A', ev2, hp2, hA2, eB2⟩ := rddM (j := 1) at1 av rfl (hx b s)
    cases e1; cases e2
    have evs := all_pl hA2
    subst evs ei
    refine ⟨p2, _, ev2, .inl (SqL.of hp2), rfl, by simp [flatV], ?_⟩
    have e : inV (.int i) ((xs b).map V.int) = (xs b).any (· == i) := by
      unfold inV
      rw [List.any_map]
      rfl
    show Q (.bl (if false = true then _ else _)) H
    rw [if_neg Bool.false_ne_true, e]
    exact q.2 _ H (at1.fin av ⟨rfl, rfl⟩)⟩
theorem ex_inT {xs : W → List Int} {mi : SM S Int} (h1 : EX X F a ta G G1 rInt mi) (h2 : EO X F b tb G1 G2 argW m2) (hx : ∀ a s, Rdd (G2 s) (argW a) (rTupL rInt) (xs a)) (hm : behindInMarks .In b = false := by with_unfolding_all rfl) :
    EX X F (.Compare a [.In] [b] pos) (tOp (rIn X.K false) ta tb) G G2 rBool (bnd mi fun i => bnd m2 fun b => ret ((xs b).any (· == i))) :=
  ⟨pe_cmpR op_in_seq h1.pe h2.pe hm, go_op2 (eo_t h1).go h2.go (fun _ _ => stl_ret _) fun i b s T t ts x y σ H Q A1 A2 at1 av q => by
    obtain ⟨v, B, e1, ei, _⟩ := rddM (j := 0) at1 av rfl .t
    obtain ⟨v2, B2, e2, p2, vs2, ev2, hp2, hA2⟩ := rddM (j := 1) at1 av rfl (hx b s)
    cases e1; cases e2
    have evs := all_pl hA2
    subst evs ei
    refine ⟨p2, _, ev2, .inr hp2, rfl, by simp [flatV], ?_⟩
    have e : inV (.int i) ((xs b).map V.int) = (xs b).any (· == i) := by
      unfold inV
      rw [List.any_map]
      rfl
    show Q (.bl (if false = true then _ else _)) H
    rw [if_neg Bool.false_ne_true, e]
    exact q.2 _ H (at1.fin av ⟨rfl, rfl⟩)⟩
/-! ### slices -/
def GP (F : FC X.K S) (to : TO) (G G' : S → List Slot) (m : SM S (Option Int)) : Prop :=
  ∀ (T : List Slot) (t : List V) (σ : L2.St) (s : S) (H : Hp) (Q : Option Int → Hp → Prop), At F T t (G s) σ H → (m s).wp (fun o s' => ∀ H', At F T t (G' s') σ H' → Q o H') (XP F σ) → to σ H Q
end
structure EPa (X : Cx) {S : Type} (F : FC X.K S) (e : Option Expr) (to : TO) (G G' : S → List Slot) (m : SM S (Option Int)) : Prop where
  po : PO X e to
  go : GP F to G G' m
section
variable {X : Cx} {S : Type} {F : FC X.K S} {U W Z N L R : Type} {r r1 : Rp U} {r2 : Rp W} {r3 : Rp Z} {a b : Expr} {ta tb : TE} {G G1 G2 G3 G' : S → List Slot} {m1 : SM S U} {m2 : SM S W} {pos p0 p2 : Pos} {argU : U → Arg} {argW : W → Arg}
theorem ep_none : EPa X F none tNoPart G G (ret none) := ⟨po_none, fun T t σ s H Q h q => q H h⟩
theorem ep_some {mi : SM S Int} (h : EX X F a ta G G1 rInt mi) : EPa X F (some a) (tPart ta) G G1 (bnd mi fun i => ret (some i)) :=
  ⟨po_some h.pe, fun T t σ s H Q h0 q => h.go T t σ s H _ h0 (wp_mono (wp_bnd q) (fun i s1 q1 v H1 at1 => by
    obtain ⟨M, B, k, _⟩ := top_rel at1
    exact ⟨i, k, q1 H1 at1.pop⟩) fun _ _ z => z)⟩
/-- the items of xs[lo:hi] -/
def cutL {T : Type} (xs : List T) (lo hi : Option Int) : List T := (xs.drop (HT.sIx xs.length 0 lo)).take (HT.sIx xs.length xs.length hi - HT.sIx xs.length 0 lo)
theorem all3_drop {T : Type} {R : V → T → List Addr → Prop} : ∀ {vs : List V} {as : List T} {A : List Addr} (n : Nat), All3 R vs as A → ∃ A', All3 R (vs.drop n) (as.drop n) A' ∧ ∀ p, p ∈ A' → p ∈ A
  | _, _, _, 0, h => ⟨_, h, fun _ z => z⟩
  | _, _, _, n + 1, .nil => ⟨_, .nil, fun _ z => z⟩
  | _, _, _, n + 1, .cons h t => by
    obtain ⟨A', k, z⟩ := all3_drop n t
    exact ⟨A', k, fun p hp => List.mem_append_right _ (z p hp)⟩
theorem all3_take {T : Type} {R : V → T → List Addr → Prop} : ∀ {vs : List V} {as : List T} {A : List Addr} (n : Nat), All3 R vs as A → ∃ A', All3 R (vs.take n) (as.take n) A' ∧ ∀ p, p ∈ A' → p ∈ A
  | _, _, _, 0, h => ⟨[], .nil, fun _ z => by cases z⟩
  | _, _, _, n + 1, .nil => ⟨_, .nil, fun _ z => z⟩
  | _, _, _, n + 1, .cons (B := B) h t => by
    obtain ⟨A', k, z⟩ := all3_take n t
    refine ⟨B ++ A', .cons h k, fun p hp => ?_⟩
    rcases List.mem_append.mp hp with hp | hp
    · exact List.mem_append_left _ hp
    · exact List.mem_append_right _ (z p hp)
theorem all3_cut {T : Type} {R : V → T → List Addr → Prop} {vs : List V} {as : List T} {A : List Addr} (h : All3 R vs as A) (lo hi : Option Int) : ∃ A', All3 R (cutV vs lo hi) (cutL as lo hi) A' ∧ ∀ p, p ∈ A' → p ∈ A := by
  unfold cutV cutL
  rw [h.length]
  obtain ⟨A1, h1, s1⟩ := all3_drop (HT.sIx as.length 0 lo) h
  obtain ⟨A2, h2, s2⟩ := all3_take (HT.sIx as.length as.length hi - HT.sIx as.length 0 lo) h1
  exact ⟨A2, h2, fun p hp => s1 p (s2 p hp)⟩
/-- xs[lo:hi], items that own nothing -/
theorem ex_slice {lo hi : Option Expr} {tl th : TO} {ml mh : SM S (Option Int)} {xs : U → List Z} (h1 : EO X F a ta G G1 argU m1) (hl : EPa X F lo tl G1 G2 ml) (hh : EPa X F hi th G2 G3 mh) (c : r3.Cp) (hx : ∀ a s, Rdd (G3 s) (argU a) (rList r3) (xs a)) :
    EX X F (.Subscript a (.Slice lo hi none p2) pos) (tSl (rSlL X.K) ta tl th) G G3 (rList r3) (bnd m1 fun a => bnd ml fun l => bnd mh fun u => ret (cutL (xs a) l u)) :=
  ⟨pe_slice sl_list h1.pe hl.po hh.po, fun T t σ s H Q h0 q => by
    refine h1.go T t σ s H _ h0 (wp_mono (wp_bnd q) (fun a s1 q1 ts x H1 at1 av => ?_) fun _ _ z => z)
    refine hl.go _ _ σ s1 H1 _ at1 (wp_mono (wp_bnd q1) (fun l s2 q2 H2 at2 => ?_) fun _ _ z => z)
    refine hh.go _ _ σ s2 H2 _ at2 (wp_mono (wp_bnd q2) (fun u s3 q3 H3 at3 => ?_) fun _ _ z => z)
    obtain ⟨A1, A2, at3⟩ := at3
    obtain ⟨v, B, e1, p, vs, A, ev, hp, hA, eB⟩ := rddM (j := 0) at3 av rfl (hx a s3)
    cases e1
    have eA := cp_all c hA
    subst eA
    obtain ⟨A', hA', sub⟩ := all3_cut hA l u
    have eA' := cp_all c hA'
    subst eA'
    exact ⟨p, vs, ev, SqL.of hp, fun l hl => q3 _ _ (at3.newL av hA' hl)⟩⟩
end
end Td

set_option Elab.async false
set_option linter.all false
set_option maxRecDepth 100000
set_option maxHeartbeats 4000000
namespace Td
open PySem PySem.Spec PyProof.Rows L2

section
variable {K : PySem.W.Frag} {S : Type} {F : FC K S} {T : List Slot} {t : List V} {G : List Slot} {σ : L2.St} {H : Hp}
/-- a slot told otherwise -/
theorem At.conv {i : Nat} {g g' : Slot} (h : At F T t G σ H) (e : G[i]? = some g) (k : ∀ M H x B, σ[i]? = some x → g.ok K M H x B → g'.ok K M H x B) : At F T t (G.set i g') σ H := by
  obtain ⟨A1, A2, h⟩ := h
  obtain ⟨x, B, P1, P2, e1, hr, eA, back⟩ := h.loc.at_ e
  have z := back (A1 ++ A2 ++ F.M0) H g' x B (fun h _ => h) (k _ _ _ _ e1 hr)
  rw [set_self e1] at z
  subst eA
  exact ⟨A1, _, h.tmp, z, h.good⟩
theorem At.unpin {i : Nat} {w : V} {U : Type} {r : Rp U} {a : U} (h : At F T t G σ H) (e : G[i]? = some (.pn w r a)) : σ[i]? = some (some w) ∧ At F T t (G.set i (.is r a)) σ H := by
  refine ⟨?_, h.conv e fun M H x B _ hk => ⟨w, hk.1, hk.2⟩⟩
  obtain ⟨A1, A2, h⟩ := h
  obtain ⟨x, B, e1, h1, _⟩ := h.loc.mem e
  rw [e1, h1.1]
theorem At.repin {i : Nat} {w : V} {U : Type} {r : Rp U} {a : U} (h : At F T t G σ H) (e : G[i]? = some (.is r a)) (ew : σ[i]? = some (some w)) : At F T t (G.set i (.pn w r a)) σ H := by
  refine h.conv e fun M H x B ex hk => ?_
  obtain ⟨v, ev, hr⟩ := hk
  rw [ew, ev] at ex
  cases ex
  exact ⟨ev, hr⟩
theorem all3_set {T : Type} {R : V → T → List Addr → Prop} {vs : List V} {as : List T} (h : All3 R vs as []) {v : V} {a : T} (hr : R v a []) (j : Nat) : All3 R (vs.set j v) (as.set j a) [] := by
  generalize eA : ([] : List Addr) = A at h
  induction h generalizing j with
  | nil => simp; exact .nil
  | @cons v' a' B vs as A h t ih =>
    obtain ⟨rfl, rfl⟩ := List.append_eq_nil_iff.mp eA.symm
    cases j with
    | zero => exact .cons (B := []) hr t
    | succ j => exact .cons h (ih j rfl)
/-- the list in slot i: items that own nothing are set anew, temps stay -/
theorem At.putS {i : Nat} {U : Type} {r : Rp U} {xs ys : List U} (c : r.Cp) (h : At F T t G σ H) (e : G[i]? = some (.is (rList r) xs)) :
    ∃ D vs, σ[i]? = some (some (.ref D)) ∧ H D = some (.lst vs) ∧ vs.length = xs.length ∧ ∀ ws, (∀ M, All3 (r.rel K M H) vs xs [] → All3 (r.rel K M H) ws ys []) → At F T t (G.set i (.is (rList r) ys)) σ (upd H D (.lst ws)) := by
  obtain ⟨A1, A2, h⟩ := h
  obtain ⟨D, vs, B, e1, hD, hA, hl, nd0, k⟩ := h.mutS e
  have eB := cp_all c hA
  subst eB
  exact ⟨D, vs, e1, hD, hl, fun ws hw => k ws ys [] T t A1 (hw _ hA) h.tmp nd0 fun p hp => hp⟩
end
section
variable {X : Cx} {S : Type} {F : FC X.K S} {N L R U W Z : Type} {G G1 G2 G3 : S → List Slot} {GN : N → S → List Slot} {GL : L → S → List Slot} {r : Rp R} {r1 : Rp U} {r2 : Rp W} {r3 : Rp Z} {pos p0 p1 cpos apos : Pos} {rest : List Stmt} {tr : TS} {e e2 : Expr} {te te2 : TE}
def pushM {T : Type} (xs : List T) (y : T) : SM S (List T) := bnd (grd (xs.length < sizeLine)) fun _ => ret (xs ++ [y])
theorem ty_lst {K : PySem.W.Frag} {H : Hp} {p : Addr} {vs : List V} (h : H p = some (.lst vs)) : tyV K "list" (.ref p) H := Or.inl ⟨rfl, _, Or.inl (Or.inl h)⟩
/-- x.append(e) -/
theorem bx_app {xs : List U} {me : SM S U} {out : List U → SM S (Fl N L R)} {x : Str} (i : Nat) (h : EX X F e te G G1 r1 me) (hG0 : ∀ s, (G s)[i]? = some (.is (rList r1) xs)) (hG : ∀ s, (G1 s)[i]? = some (.is (rList r1) xs)) (hb : ∀ ys, BX X F rest tr (fun s => (G1 s).set i (.is (rList r1) ys)) GN GL r (out ys))
    (hN : X.N[i]? = some x := by rfl) (hv : Vis X.env.scope x := by first | exact Or.inl rfl | exact Or.inr (Or.inl rfl) | exact Or.inr (Or.inr rfl)) (hd : (x == ("__debug__" : Str)) = false := by decide) (hcd : (x == ("__classdict__" : Str)) = false := by decide)
    (hs : PySem.W.isStarred e = false := by rfl)
    (hfew : ((backTo cpos (starEach (e :: []) X.env)).all (fun x => !x.1) && (backToKw cpos (keywordEach [] X.env)).all (fun x => x.1.isSome)
      && decide ((e :: []).length + ([] : List Keyword).length + (if ([] : List Keyword).isEmpty then 0 else 1) < 30)) = true := by rfl) (hline : (apos.endLine == cpos.line) = true := by rfl) (hsw : swapsWith (.Call (.Attribute (.Name x p0) "append" apos) [e] [] cpos) none pos.line X.env = pure false := by rfl)
    (hbase : attributeBase (.Name x p0) "append" X.env (eval (.Name x p0) X.env) = eval (.Name x p0) X.env := by rfl) :
    BX X F (.Expr (.Call (.Attribute (.Name x p0) "append" apos) [e] [] cpos) pos :: rest) (tSeq (tDrop (tBM X.K "list" rAppend (tVar i) (tCons te tNil))) tr) G GN GL r (bnd me fun y => bnd (pushM xs y) out) :=
  ⟨pss_cons (ps_expr (pe_bm PySem.F.plainAttrs_list PySem.F.slot_list_append PySem.F.type_list_append mt_append (pe_var hN hv hd hcd) (pa_cons h.pe pa_nil (star1 hs)) hbase hfew hline (star1 hs) (by rfl)) hsw) (hb []).ps, fun T t σ s H D h0 q => by
    have e0 := h0
    obtain ⟨v0, M0, B0, ev0, hr0⟩ := e0.slot (hG0 s)
    obtain ⟨p0', vs0, A0, ep0, hp0, _⟩ := hr0
    subst ep0
    refine ⟨_, ev0, ty_lst hp0, ?_⟩
    refine h.go T t σ s H _ h0 (wp_mono (wp_bnd q) (fun y s1 q1 v H1 at1 => ?_) fun e s z => z σ)
    obtain ⟨hz, q2⟩ := wp_grd (wp_bnd (wp_bnd q1))
    obtain ⟨D', vs, e1, hD, hl, at2⟩ := at1.appendS (hG s1)
    rw [ev0] at e1
    cases e1
    exact ⟨p0', vs, v, rfl, rfl, hD, by rw [hl]; exact hz, (hb _).go T t σ s1 _ D at2 q2⟩⟩
def setM {T : Type} (xs : List T) (i : Int) (v : T) : SM S (List T) := match ixN xs.length i with
  | some j => ret (xs.set j v)
  | none => stk
theorem wp_setM {T : Type} {xs : List T} {i : Int} {v : T} {s : S} {P : List T → S → Prop} {E : Exn → S → Prop} (h : (setM xs i v s).wp P E) : ∃ j, ixN xs.length i = some j ∧ P (xs.set j v) s := by
  unfold setM at h
  cases e : ixN xs.length i with
  | none => rw [e] at h; exact h.elim
  | some j => rw [e] at h; exact ⟨j, rfl, h⟩
/-- x[k] = e, x an own list -/
theorem bx_setS {xs : List U} {me : SM S U} {mi : SM S Int} {out : List U → SM S (Fl N L R)} {x : Str} (i : Nat) (c : r1.Cp) (h : EX X F e te G G1 r1 me) (h2 : EX X F e2 te2 G1 G2 rInt mi) (hG1 : ∀ s, (G1 s)[i]? = some (.is (rList r1) xs)) (hG : ∀ s, (G2 s)[i]? = some (.is (rList r1) xs)) (hb : ∀ ys, BX X F rest tr (fun s => (G2 s).set i (.is (rList r1) ys)) GN GL r (out ys))
    (hN : X.N[i]? = some x := by rfl) (hv : Vis X.env.scope x := by first | exact Or.inl rfl | exact Or.inr (Or.inl rfl) | exact Or.inr (Or.inr rfl)) (hd : (x == ("__debug__" : Str)) = false := by decide) (hcd : (x == ("__classdict__" : Str)) = false := by decide)
    (ha : ∀ v, assign (.Subscript (.Name x p0) e2 p1) X.env v = (do
      let ov ← holding [v] (eval (.Name x p0) X.env)
      let iv ← holding [v, ov] (eval e2 X.env)
      standAt p1
      holding [v, ov, iv] (setItem ov iv v)
      release [v, ov, iv] []) := by intro _; rfl)
    (hs : swapsWithSole [(.Subscript (.Name x p0) e2 p1)] e pos.line X.env = pure false := by rfl) (hw : swappedStores [(.Subscript (.Name x p0) e2 p1)] e X.env = pure none := by rfl) (h1 : (assignEach [(.Subscript (.Name x p0) e2 p1)] X.env).map (·.2) = [assign (.Subscript (.Name x p0) e2 p1) X.env] := by rfl) :
    BX X F (.Assign [.Subscript (.Name x p0) e2 p1] e pos :: rest) (tSeq (tAsg te (gSub (tVar i) te2 rSetL)) tr) G GN GL r (bnd me fun v => bnd mi fun k => bnd (setM xs k v) out) :=
  ⟨pss_cons (ps_asg h.pe (pg_sub (pe_var hN hv hd hcd) h2.pe set_list ha) hs hw h1) (hb []).ps, fun T t σ s H D h0 q => by
    refine h.go T t σ s H _ h0 (wp_mono (wp_bnd q) (fun y s1 q1 v H1 at1 => ?_) fun e s z => z σ)
    obtain ⟨v0, M0, B0, ev0, hr0⟩ := at1.slot (hG1 s1)
    refine ⟨v0, ev0, ?_⟩
    refine h2.go _ _ σ s1 H1 _ at1 (wp_mono (wp_bnd q1) (fun k s2 q2 w H2 at2 => ?_) fun e s z => z σ)
    obtain ⟨_, _, ek, _⟩ := top_rel at2
    subst ek
    obtain ⟨j, hj, q3⟩ := wp_setM (wp_bnd q2)
    have at3 := at2.pop
    obtain ⟨A1, A2, at4⟩ := at3
    obtain ⟨C, A', eA, ⟨v', ev, hry⟩, ht⟩ := AtS.cons_inv at4.tmp
    cases ev
    have eC := c hry
    subst eC
    obtain ⟨D', vs, B, e1, hD, hA, hl, nd0, kk⟩ := at4.mutS (hG s2)
    rw [ev0] at e1
    cases e1
    have eB := cp_all c hA
    subst eB
    refine ⟨D', vs, k, j, rfl, rfl, hD, by rw [hl]; exact hj, ?_⟩
    exact (hb _).go T t σ s2 _ D (kk (vs.set j v) (xs.set j y) [] T t A' (all3_set hA hry j) ht (by rw [eA] at nd0; exact nd0) fun p hp => by rw [eA]; exact hp) q3⟩
/-! ### the state list of an in/out argument -/
def stIx {T : Type} (i : Int) : SM (List T) T := fun s => match atI s i with
  | some a => .ok a s
  | none => .stuck
def stSet {T : Type} (i : Int) (v : T) : SM (List T) Unit := fun s => match ixN s.length i with
  | some j => .ok () (s.set j v)
  | none => .stuck
end
section
variable {X : Cx} {A : Type} {F : FC X.K (List A)} {N L R : Type} {G G1 G2 : List A → List Slot} {GN : N → List A → List Slot} {GL : L → List A → List Slot} {r : Rp R} {ra : Rp A} {pos p0 p1 : Pos} {rest : List Stmt} {tr : TS} {e e2 b : Expr} {te te2 tb : TE}
/-- s[k] -/
theorem ex_stix {mi : SM (List A) Int} {x : Str} {w : V} (i : Nat) (h : EX X F b tb G G1 rInt mi) (c : ra.Cp) (hG0 : ∀ s, (G s)[i]? = some (.pn w (rList ra) s)) (hG : ∀ s, (G1 s)[i]? = some (.pn w (rList ra) s)) (hs : PlainIx b := by exact fun _ _ => rfl)
    (hN : X.N[i]? = some x := by rfl) (hv : Vis X.env.scope x := by first | exact Or.inl rfl | exact Or.inr (Or.inl rfl) | exact Or.inr (Or.inr rfl)) (hd : (x == ("__debug__" : Str)) = false := by decide) (hcd : (x == ("__classdict__" : Str)) = false := by decide) :
    EX X F (.Subscript (.Name x p0) b pos) (tOp (rIxL X.K) (tVar i) tb) G G1 ra (bnd mi fun k => stIx k) :=
  ⟨pe_ix ix_list (pe_var hN hv hd hcd) h.pe hs, fun T t σ s H Q h0 q => by
    obtain ⟨A1, A2, h0'⟩ := id h0
    obtain ⟨x0, B, e1, h1, _⟩ := h0'.loc.mem (hG0 s)
    obtain ⟨ex, _⟩ := h1
    subst ex
    refine ⟨w, e1, ?_⟩
    refine h.go T t σ s H _ h0 (wp_mono (wp_bnd q) (fun k s1 q1 v H1 at1 => ?_) fun _ _ z => z)
    obtain ⟨_, _, ek, _⟩ := top_rel at1
    subst ek
    obtain ⟨A1', A2', at2⟩ := at1.pop
    obtain ⟨x1, B1, e2, h2, sub⟩ := at2.loc.mem (hG s1)
    obtain ⟨ex, p, vs, C, ep, hp, hA, eB⟩ := h2
    subst ex ep
    unfold stIx at q1
    cases ei : atI s1 k with
    | none => rw [ei] at q1; exact q1.elim
    | some a =>
      rw [ei] at q1
      obtain ⟨u, Bu, e3, hr, _⟩ := atI_all (K := X.K) hA ei
      have eBu := c hr
      subst eBu
      exact ⟨p, vs, k, u, rfl, rfl, SqL.of hp, e3, q1 u H1 ⟨A1', A2', at2.pushM hr⟩⟩⟩
/-- s[k] = e -/
theorem bx_stset {me : SM (List A) A} {mi : SM (List A) Int} {out : SM (List A) (Fl N L R)} {x : Str} {w : V} (i : Nat) (c : ra.Cp) (h : EX X F e te G G1 ra me) (h2 : EX X F e2 te2 G1 G2 rInt mi) (hG1 : ∀ s, (G1 s)[i]? = some (.pn w (rList ra) s)) (hG : ∀ s, (G2 s)[i]? = some (.pn w (rList ra) s)) (hset : ∀ s s', (G2 s).set i (.pn w (rList ra) s') = G2 s')
    (hb : BX X F rest tr G2 GN GL r out)
    (hN : X.N[i]? = some x := by rfl) (hv : Vis X.env.scope x := by first | exact Or.inl rfl | exact Or.inr (Or.inl rfl) | exact Or.inr (Or.inr rfl)) (hd : (x == ("__debug__" : Str)) = false := by decide) (hcd : (x == ("__classdict__" : Str)) = false := by decide)
    (ha : ∀ v, assign (.Subscript (.Name x p0) e2 p1) X.env v = (do
      let ov ← holding [v] (eval (.Name x p0) X.env)
      let iv ← holding [v, ov] (eval e2 X.env)
      standAt p1
      holding [v, ov, iv] (setItem ov iv v)
      release [v, ov, iv] []) := by intro _; rfl)
    (hs : swapsWithSole [(.Subscript (.Name x p0) e2 p1)] e pos.line X.env = pure false := by rfl) (hw : swappedStores [(.Subscript (.Name x p0) e2 p1)] e X.env = pure none := by rfl) (h1 : (assignEach [(.Subscript (.Name x p0) e2 p1)] X.env).map (·.2) = [assign (.Subscript (.Name x p0) e2 p1) X.env] := by rfl) :
    BX X F (.Assign [.Subscript (.Name x p0) e2 p1] e pos :: rest) (tSeq (tAsg te (gSub (tVar i) te2 rSetL)) tr) G GN GL r (bnd me fun v => bnd mi fun k => bnd (stSet k v) fun _ => out) :=
  ⟨pss_cons (ps_asg h.pe (pg_sub (pe_var hN hv hd hcd) h2.pe set_list ha) hs hw h1) hb.ps, fun T t σ s H D h0 q => by
    refine h.go T t σ s H _ h0 (wp_mono (wp_bnd q) (fun y s1 q1 v H1 at1 => ?_) fun e s z => z σ)
    obtain ⟨ev0, _⟩ := at1.unpin (hG1 s1)
    refine ⟨w, ev0, ?_⟩
    refine h2.go _ _ σ s1 H1 _ at1 (wp_mono (wp_bnd q1) (fun k s2 q2 w2 H2 at2 => ?_) fun e s z => z σ)
    obtain ⟨_, _, ek, _⟩ := top_rel at2
    subst ek
    have q3 := wp_bnd q2
    unfold stSet at q3
    cases hj : ixN s2.length k with
    | none => rw [hj] at q3; exact q3.elim
    | some j =>
      rw [hj] at q3
      obtain ⟨_, at3⟩ := at2.pop.unpin (hG s2)
      obtain ⟨A1, A2, at4⟩ := at3
      obtain ⟨C, A', eA, ⟨v', ev, hry⟩, ht⟩ := AtS.cons_inv at4.tmp
      cases ev
      have eC := c hry
      subst eC
      have hlt : i < (G2 s2).length := (List.getElem?_eq_some_iff.mp (hG s2)).1
      obtain ⟨D', vs, B, e1, hD, hA, hl, nd0, kk⟩ := at4.mutS (i := i) (r := ra) (xs := s2) (List.getElem?_set_self hlt)
      rw [ev0] at e1
      cases e1
      have eB := cp_all c hA
      subst eB
      refine ⟨D', vs, k, j, rfl, rfl, hD, by rw [hl]; exact hj, ?_⟩
      have z := kk (vs.set j v) (s2.set j y) [] T t A' (all3_set hA hry j) ht (by rw [eA] at nd0; exact nd0) fun p hp => by rw [eA]; exact hp
      have z2 := z.repin (w := .ref D') (i := i) (r := rList ra) (a := s2.set j y) (by rw [List.set_set, List.getElem?_set_self hlt]) ev0
      rw [List.set_set, List.set_set, hset] at z2
      exact hb.go T t σ _ _ D z2 q3⟩
end
section
variable {X : Cx} {S : Type} {F : FC X.K S} {N L R U W Z : Type} {G G1 G2 G3 : S → List Slot} {GN : N → S → List Slot} {GL : L → S → List Slot} {r : Rp R} {r1 : Rp U} {r2 : Rp W} {r3 : Rp Z} {pos p0 p1 : Pos} {rest : List Stmt} {tr : TS} {e e2 : Expr} {te te2 : TE}
/-- an operation op= of ints -/
def IpI (X : Cx) (op : Operator) (rr : TIp) (C : Int → Int → Prop) (f : Int → Int → Int) : Prop := PIp X op rr ∧ ∀ i j H Q, C i j → Q (.int (f i j)) H → rr (.int i) (.int j) H Q
theorem ipi_add : IpI X .Add (ipI fun i j => i + j) (fun _ _ => True) (fun i j => i + j) := ⟨ip_add, fun i j H Q _ q => ⟨i, j, rfl, rfl, q⟩⟩
theorem ipi_sub : IpI X .Sub (ipI fun i j => i - j) (fun _ _ => True) (fun i j => i - j) := ⟨ip_sub, fun i j H Q _ q => ⟨i, j, rfl, rfl, q⟩⟩
/-- x op= e, ints -/
theorem bx_augI {op : Operator} {rr : TIp} {f : Int → Int → Int} {a : Int} {me : SM S Int} {out : Int → SM S (Fl N L R)} {x : Str} (i : Nat) (ho : IpI X op rr (fun _ _ => True) f) (hN : X.N.Nodup) (h : EX X F e te G G1 rInt me) (hG0 : ∀ s, (G s)[i]? = some (.is rInt a)) (hb : ∀ v, BX X F rest tr (fun s => (G1 s).set i (.is rInt v)) GN GL r (out v)) {gs : S → Slot} (hG : ∀ s, (G1 s)[i]? = some (gs s))
    (hi : X.N[i]? = some x := by rfl) (hx : Loc X.env.scope x := by first | exact Or.inl rfl | exact Or.inr rfl) (hf : X.fn x = true ∨ X.env.scope.names.lookup x = some .local := by first | exact .inl rfl | exact .inr rfl) :
    BX X F (.AugAssign (.Name x p0) op e pos :: rest) (tSeq (tAug i te rr) tr) G GN GL r (bnd me fun v => bnd (ret (f a v)) out) :=
  ⟨pss_cons (ps_aug hN hi hx h.pe ho.1 hf) (hb 0).ps, fun T t σ s H D h0 q => by
    obtain ⟨v0, M0, B0, ev0, hr0⟩ := h0.slot (hG0 s)
    obtain ⟨e0, _⟩ := hr0
    subst e0
    refine ⟨_, ev0, ?_⟩
    refine h.go T t σ s H _ h0 (wp_mono (wp_bnd q) (fun y s1 q1 v H1 at1 => ?_) fun e s z => z σ)
    obtain ⟨_, _, ek, _⟩ := top_rel at1
    subst ek
    exact ho.2 a y H1 _ trivial ((hb _).go T t _ s1 H1 D (At.store (g := .is rInt (f a y)) (At.push (r := rInt) at1.pop fun _ => ⟨rfl, rfl⟩) i (hG s1)) q1)⟩
/-- x += e, lists of things that own nothing -/
theorem bx_augL {xs : List U} {me : SM S (List U)} {out : List U → SM S (Fl N L R)} {x : Str} (i : Nat) (c : r1.Cp) (hN : X.N.Nodup) (h : EX X F e te G G1 (rList r1) me) (hG0 : ∀ s, (G s)[i]? = some (.is (rList r1) xs)) (hG : ∀ s, (G1 s)[i]? = some (.is (rList r1) xs)) (hb : ∀ v, BX X F rest tr (fun s => (G1 s).set i (.is (rList r1) v)) GN GL r (out v))
    (hi : X.N[i]? = some x := by rfl) (hx : Loc X.env.scope x := by first | exact Or.inl rfl | exact Or.inr rfl) (hf : X.fn x = true ∨ X.env.scope.names.lookup x = some .local := by first | exact .inl rfl | exact .inr rfl) :
    BX X F (.AugAssign (.Name x p0) .Add e pos :: rest) (tSeq (tAug i te rExt2) tr) G GN GL r (bnd me fun v => bnd (catM xs v) out) :=
  ⟨pss_cons (ps_aug hN hi hx h.pe iop_ext hf) (hb []).ps, fun T t σ s H D h0 q => by
    obtain ⟨v0, M0, B0, ev0, hr0⟩ := h0.slot (hG0 s)
    obtain ⟨p0', vs0, A0, ep0, hp0, _⟩ := hr0
    subst ep0
    refine ⟨_, ev0, ?_⟩
    refine h.go T t σ s H _ h0 (wp_mono (wp_bnd q) (fun ys s1 q1 v H1 at1 => ?_) fun e s z => z σ)
    obtain ⟨A1, A2, at4⟩ := at1
    obtain ⟨C, A', eA, ⟨v', ev, p2, ws, A3, ep2, hp2, hA2, eC⟩, ht⟩ := AtS.cons_inv at4.tmp
    cases ev
    subst ep2 eC
    have eA3 := cp_all c hA2
    subst eA3
    obtain ⟨D', vs, B, e1, hD, hA, hl, nd0, kk⟩ := at4.mutS (hG s1)
    rw [ev0] at e1
    cases e1
    have eB := cp_all c hA
    subst eB
    obtain ⟨hz, q2⟩ := wp_grd (wp_bnd (wp_bnd q1))
    have hz' : (xs ++ ys).length ≤ sizeLine := hz
    rw [List.length_append, ← hl, ← hA2.length] at hz'
    refine ⟨p0', p2, vs, ws, rfl, rfl, hD, hp2, hz', ?_⟩
    have z := kk (vs ++ ws) (xs ++ ys) [] T t A' (hA.append hA2) ht (by rw [eA] at nd0; simpa using (List.nodup_cons.mp (by simpa using nd0)).2) fun p hp => by rw [eA]; simp at hp ⊢; exact .inr hp
    have z2 := (hb _).go T t σ s1 _ D z q2
    rwa [← set_self (T := Option V) ev0] at z2⟩
/-- x = y = e -/
theorem bx_asg2 {me : SM S U} {out : U → SM S (Fl N L R)} {x y : Str} (i j : Nat) {gs gs' : S → Slot} (c : r1.Cp) (hN : X.N.Nodup) (hij : i ≠ j) (h : EX X F e te G G1 r1 me) (hb : ∀ v, BX X F rest tr (fun s => ((G1 s).set i (.is r1 v)).set j (.is r1 v)) GN GL r (out v)) (ha : Inhabited U)
    (he : ∀ s, (G1 s)[i]? = some (gs s)) (he2 : ∀ s, (G1 s)[j]? = some (gs' s)) (hi : X.N[i]? = some x := by rfl) (hj : X.N[j]? = some y := by rfl) (hx : Loc X.env.scope x := by first | exact Or.inl rfl | exact Or.inr rfl) (hy : Loc X.env.scope y := by first | exact Or.inl rfl | exact Or.inr rfl)
    (hf : X.fn x = true ∨ X.env.scope.names.lookup x = some .local := by first | exact .inl rfl | exact .inr rfl) (hfy : X.fn y = true ∨ X.env.scope.names.lookup y = some .local := by first | exact .inl rfl | exact .inr rfl)
    (has : (assignEach [.Name x p0, .Name y p1] X.env).map (·.2) = [assign (.Name x p0) X.env, assign (.Name y p1) X.env] := by rfl) (hw : swappedStores [.Name x p0, .Name y p1] e X.env = pure none := by rfl) :
    BX X F (.Assign [.Name x p0, .Name y p1] e pos :: rest) (tSeq (tAsg2 te (gName i) (gName j)) tr) G GN GL r (bnd me out) :=
  ⟨pss_cons (ps_asg2 h.pe (pg_name hN hi hx hf) (pg_name hN hj hy hfy) has hw) (hb ha.default).ps, fun T t σ s H D h0 q => by
    refine h.go T t σ s H _ h0 (wp_mono (wp_bnd q) (fun y s1 q1 v H1 at1 => ?_) fun e s z => z σ)
    obtain ⟨A1, A2, at2⟩ := id at1
    obtain ⟨C, A', eA, ⟨v', ev, hr⟩, ht⟩ := AtS.cons_inv at2.tmp
    cases ev
    have eC := c hr
    subst eC
    have at3 : At F (.is r1 y :: .is r1 y :: T) (v :: v :: t) (G1 s1) σ H1 := ⟨A1, A2, at2.pushM hr⟩
    exact (hb y).go T t _ s1 H1 D ((at3.store i (he s1)).store j (by rw [List.getElem?_set_ne hij]; exact he2 s1)) q1⟩
/-- x, y, z = e1, e2, e3 -/
theorem bx_par3 {a b c : Expr} {ta tb tc : TE} {m1 : SM S U} {m2 : SM S W} {m3 : SM S Z} {out : U → W → Z → SM S (Fl N L R)} {x y z : Str} {px py pz pt pt2 : Pos} {kt k2 : Nat} (i j l : Nat) {gs gs' gs2 : S → Slot} (hN : X.N.Nodup) (hc : X.calm = true) (hij : i ≠ j) (hil : i ≠ l) (hjl : j ≠ l)
    (h1 : EX X F a ta G G1 r1 m1) (h2 : EX X F b tb G1 G2 r2 m2) (h3 : EX X F c tc G2 G3 r3 m3) (hb : ∀ a b c, BX X F rest tr (fun s => (((G3 s).set l (.is r3 c)).set j (.is r2 b)).set i (.is r1 a)) GN GL r (out a b c)) (ha : Inhabited U) (ha2 : Inhabited W) (ha3 : Inhabited Z) (he : ∀ s, (G3 s)[i]? = some (gs s)) (he2 : ∀ s, (G3 s)[j]? = some (gs' s)) (he3 : ∀ s, (G3 s)[l]? = some (gs2 s))
    (hw : swappedStores [.Tuple [.Name x px, .Name y py, .Name z pz] kt pt] (.Tuple [a, b, c] k2 pt2) X.env = pure (some [x, y, z]) := by rfl) (hs : swapsWithSole [.Tuple [.Name x px, .Name y py, .Name z pz] kt pt] (.Tuple [a, b, c] k2 pt2) pos.line X.env = pure false := by rfl)
    (hi : X.N[i]? = some x := by rfl) (hj : X.N[j]? = some y := by rfl) (hl : X.N[l]? = some z := by rfl) (hx : X.env.scope.names.lookup x = some .local := by rfl) (hy : X.env.scope.names.lookup y = some .local := by rfl) (hz : X.env.scope.names.lookup z = some .local := by rfl) (hsa : PySem.W.isStarred a = false := by rfl) (hsb : PySem.W.isStarred b = false := by rfl) (hsc : PySem.W.isStarred c = false := by rfl) :
    BX X F (.Assign [.Tuple [.Name x px, .Name y py, .Name z pz] kt pt] (.Tuple [a, b, c] k2 pt2) pos :: rest) (tSeq (tPar3 i j l (tCons ta (tCons tb (tCons tc tNil)))) tr) G GN GL r (bnd m1 fun a => bnd m2 fun b => bnd m3 fun c => out a b c) :=
  ⟨pss_cons (ps_par3 hc hN hi hj hl hij hil hjl hx hy hz (pa_cons h1.pe (pa_cons h2.pe (pa_cons h3.pe pa_nil (star1 hsc)) (star1 hsb)) (star1 hsa)) hw hs) (hb ha.default ha2.default ha3.default).ps, fun T t σ s H D h0 q => by
    refine h1.go T t σ s H _ h0 (wp_mono (wp_bnd q) (fun a s1 q1 v H1 at1 => ?_) fun e s z => z σ)
    refine h2.go _ _ σ s1 H1 _ at1 (wp_mono (wp_bnd q1) (fun b s2 q2 w H2 at2 => ?_) fun e s z => z σ)
    refine h3.go _ _ σ s2 H2 _ at2 (wp_mono (wp_bnd q2) (fun c s3 q3 u H3 at3 => ?_) fun e s z => z σ)
    refine ⟨v, w, u, rfl, (hb a b c).go T t _ s3 H3 D ?_ q3⟩
    have z := ((at3.store l (he3 s3)).store j (by rw [List.getElem?_set_ne (Ne.symm hjl)]; exact he2 s3)).store i (by rw [List.getElem?_set_ne (Ne.symm hij), List.getElem?_set_ne (Ne.symm hil)]; exact he s3)
    rw [List.set_comm (l := σ) _ _ (Ne.symm hjl), List.set_comm (l := σ.set j _) _ _ (Ne.symm hil), List.set_comm (l := σ) _ _ (Ne.symm hij)] at z
    exact z⟩
end
end Td

set_option Elab.async false
set_option linter.all false
set_option maxRecDepth 100000
set_option maxHeartbeats 4000000
namespace Td
open PySem PySem.Spec PyProof.Rows L2 He

/-! ### the head: what stands behind the top -/
/-- a def: where its object stands, its text -/
structure Df where
  adr : PySem.W.Frag → Addr
  name : Str
  qual : Str
  params : Arguments
  body : List Stmt
  scope : Scope
def fnA (K : PySem.W.Frag) (a : Addr) : FnW := match K.lookup a with
  | some ⟨_, _, .func fd, _⟩ => some (fd.name, fd.qualname, fd.params, fd.body, fd.scope, fd.globals, fd.closure, fd.builtins)
  | _ => none
def Df.told (d : Df) : FnW := some (d.name, d.qual, d.params, .stmts d.body, d.scope, mainGlobals, [], builtinsNs)
def Df.fit (K : PySem.W.Frag) (d : Df) : Bool := PySem.W.keepIn K (.ref (d.adr K)) && (match K.lookup (d.adr K) with
  | some ⟨_, _, .func fd, _⟩ => PySem.W.codeIn K fd.code d.qual && (dflB K fd.defaults [] && kwdB K fd.kwdefaults [])
  | _ => false)
theorem Df.funD {K : PySem.W.Frag} {d : Df} (e : fnA K (d.adr K) = d.told) (c : d.fit K = true) : ∃ fd, FunD K d.name d.qual d.params d.body d.scope [] [] (d.adr K) fd := by
  obtain ⟨kp, c2⟩ := ba c
  unfold fnA at e
  cases q : K.lookup (d.adr K) with
  | none => rw [q] at c2; cases c2
  | some o =>
    obtain ⟨oc, od, dt, osl⟩ := o
    rw [q] at c2 e
    cases dt with
    | func fd =>
      obtain ⟨n1, n2, n3, n4, n5, n6, n7, n8, n9, n10, n11, n12, n13, n14, n15⟩ := fd
      have e2 : (some (n1, n2, n3, n4, n5, n6, n7, n15) : FnW) = some (d.name, d.qual, d.params, .stmts d.body, d.scope, mainGlobals, [], builtinsNs) := e
      simp only [Option.some.injEq, Prod.mk.injEq] at e2
      obtain ⟨h1, h2, h3, h4, h5, h6, h7, h8⟩ := e2
      subst h1 h2 h3 h4 h5 h6 h7 h8
      have c3 : (PySem.W.codeIn K n13 d.qual && (dflB K n8 [] && kwdB K n9 [])) = true := c2
      obtain ⟨k1, k2⟩ := ba c3
      obtain ⟨k3, k4⟩ := ba k2
      exact ⟨_, ⟨oc, od, n8, n9, n10, n11, n12, n13, n14, osl, rfl, q, k1, dflB_ok k3, kwdB_ok k4⟩, kp⟩
    | _ => cases c2
abbrev AlTd : Type := Bool × List FnW
def obsTd (ex : PySem.W.Frag → Bool) (fs : List Df) (K : PySem.W.Frag) : AlTd := (ex K && fs.all fun d => d.fit K, fs.map fun d => fnA K (d.adr K))
def valTd (fs : List Df) : AlTd := (true, fs.map Df.told)
def SaysTd (ex : PySem.W.Frag → Bool) (fs : List Df) (K : PySem.W.Frag) : Prop := obsTd ex fs K = valTd fs
def obsTdG (n : Nat) (ex : PySem.W.Frag → Bool) (fs : List Df) (g : Addr → Option Obj) : AlTd := obsTd ex fs (frG g (asD g n))
def hookTd (n : Nat) (ex : PySem.W.Frag → Bool) (fs : List Df) : PySem.W.Hook where
  α := AlTd
  obs := fun s => obsTdG n ex fs s.heap.get?
  val := fun _ => valTd fs
  says := fun _ h => ∃ K : PySem.W.Frag, K.In h ∧ SaysTd ex fs K
  of := fun _ _ e => ⟨_, frG_in, e⟩
  keeps := fun _ _ _ ⟨K, hK, c⟩ k => ⟨K, PySem.W.Frag.In.keeps hK k, c⟩
theorem obsTdG_eq {n : Nat} {ex : PySem.W.Frag → Bool} {fs : List Df} {g : Addr → Option Obj} {s : Shared} (h : ∀ a, g a = s.heap.get? a) : obsTdG n ex fs g = (hookTd n ex fs).obs s := by
  have e : g = s.heap.get? := funext h
  subst e; rfl
section
variable {ex : PySem.W.Frag → Bool} {fs : List Df} {K : PySem.W.Frag}
theorem SaysTd.more (c : SaysTd ex fs K) : ex K = true := (ba (congrArg (fun z : AlTd => z.1) c)).1
theorem SaysTd.df (c : SaysTd ex fs K) (i : Nat) {d : Df} (h : fs[i]? = some d := by rfl) : ∃ fd, FunD K d.name d.qual d.params d.body d.scope [] [] (d.adr K) fd := by
  have c2 : (fs.all fun d => d.fit K) = true := (ba (congrArg (fun z : AlTd => z.1) c)).2
  have e : fs.map (fun d => fnA K (d.adr K)) = fs.map Df.told := congrArg (fun z : AlTd => z.2) c
  have e2 : (fs.map fun d => fnA K (d.adr K))[i]? = (fs.map Df.told)[i]? := by rw [e]
  rw [List.getElem?_map, List.getElem?_map, h] at e2
  exact Df.funD (Option.some.inj e2) (List.all_eq_true.mp c2 d (List.mem_of_getElem? h))
end
/-! ### facts of a class with slots -/
def gaB (K : PySem.W.Frag) (x : Str) : Bool := (Fa.glo x).ok K
def frB (K : PySem.W.Frag) (x : Str) : Bool := (Fa.free x).ok K
def slcB (K : PySem.W.Frag) (C : Addr) : Bool := PySem.W.plainGet K C Str.empty && (PySem.W.isClsIn K C && (PySem.W.plainOver K C && eqO (PySem.W.findIn K (.ref C) "__setattr__") (some (some (.builtin "object.__setattr__")))))
theorem slcB_ok {K : PySem.W.Frag} {C : Addr} (h : slcB K C = true) : SlX.SCls K C := by
  obtain ⟨h1, h2⟩ := ba h
  obtain ⟨h3, h4⟩ := ba h2
  obtain ⟨h5, h6⟩ := ba h4
  exact ⟨h1, h3, h5, eqO_ok h6⟩
def slotB (K : PySem.W.Frag) (C : Addr) (f : Str) (i : Nat) : Bool := eqO (PySem.W.findIn K (.ref C) f) (some (some (.ref (ma K C f)))) && (eqO (PySem.W.specialIn K (.ref (ma K C f)) "__get__") (some (some (.builtin "member_descriptor.__get__"))) &&
  (decide (PySem.W.takesIn K (.ref (ma K C f)) = some true) && (decide (PySem.W.typeIn K (.ref (ma K C f)) = some (.type "member_descriptor")) && (decide (PySem.W.slotIn K (ma K C f) C = some i) && decide (i < 1000)))))
theorem slotB_ok {K : PySem.W.Frag} {C : Addr} {f : Str} {i : Nat} (h : slotB K C f i = true) : SlX.Slot1 K C f (ma K C f) i := by
  obtain ⟨h1, h2⟩ := ba h
  obtain ⟨h3, h4⟩ := ba h2
  obtain ⟨h5, h6⟩ := ba h4
  obtain ⟨h7, h8⟩ := ba h6
  obtain ⟨h9, h10⟩ := ba h8
  exact ⟨eqO_ok h1, eqO_ok h3, of_decide_eq_true h5, of_decide_eq_true h7, of_decide_eq_true h9, of_decide_eq_true h10⟩
/-- a property: its getter -/
def pgA (K : PySem.W.Frag) (C : Addr) (f : Str) : Addr := match PySem.W.recIn K (ma K C f) "property" with
  | some (.ref g :: _) => g
  | _ => 0
structure Prp (K : PySem.W.Frag) (C : Addr) (f : Str) : Prop where
  at_ : PySem.W.findIn K (.ref C) f = some (some (.ref (ma K C f)))
  get : PySem.W.specialIn K (.ref (ma K C f)) "__get__" = some (some (.builtin "property.__get__"))
  tk : PySem.W.takesIn K (.ref (ma K C f)) = some true
  rc : ∃ rest, PySem.W.recIn K (ma K C f) "property" = some (.ref (pgA K C f) :: rest)
def prpB (K : PySem.W.Frag) (C : Addr) (f : Str) : Bool := eqO (PySem.W.findIn K (.ref C) f) (some (some (.ref (ma K C f)))) && (eqO (PySem.W.specialIn K (.ref (ma K C f)) "__get__") (some (some (.builtin "property.__get__"))) &&
  (decide (PySem.W.takesIn K (.ref (ma K C f)) = some true) && (match PySem.W.recIn K (ma K C f) "property" with
    | some (.ref _ :: _) => true
    | _ => false)))
theorem prpB_ok {K : PySem.W.Frag} {C : Addr} {f : Str} (h : prpB K C f = true) : Prp K C f := by
  obtain ⟨h1, h2⟩ := ba h
  obtain ⟨h3, h4⟩ := ba h2
  obtain ⟨h5, h6⟩ := ba h4
  refine ⟨eqO_ok h1, eqO_ok h3, of_decide_eq_true h5, ?_⟩
  unfold pgA
  split at h6
  · rename_i g rest e
    exact ⟨rest, by rw [e]⟩
  · cases h6
/-- a method found on the class, called by the machine -/
def mthB (K : PySem.W.Frag) (C : Addr) (m : Str) : Bool := eqO (PySem.W.findIn K (.ref C) m) (some (some (.ref (ma K C m)))) && (PySem.W.isFn K (.ref (ma K C m)) && PySem.W.keepIn K (.ref (ma K C m)))
def isiB (K : PySem.W.Frag) (C : Addr) : Bool := eqO (PySem.W.findIn K (.ref C) "__class__") (some (some (.builtin "object.__class__"))) && (eqO (PySem.W.specialIn K (.builtin "object.__class__") "__get__") (some (some (.builtin "getset_descriptor.__get__"))) &&
  (decide (PySem.W.takesIn K (.builtin "object.__class__") = some true) && decide (PySem.W.mroIn K C (.type "object") = some true)))
theorem isiB_ok {K : PySem.W.Frag} {C : Addr} (h : isiB K C = true) : SlX.SIsi K C := by
  obtain ⟨h1, h2⟩ := ba h
  obtain ⟨h3, h4⟩ := ba h2
  obtain ⟨h5, h6⟩ := ba h4
  exact ⟨eqO_ok h1, eqO_ok h3, of_decide_eq_true h5, of_decide_eq_true h6⟩
def clsB : Stmt → List Stmt
  | .ClassDef _ _ _ b _ _ _ _ _ _ _ => b
  | _ => []
end Td

set_option Elab.async false
set_option linter.all false
set_option maxRecDepth 100000
set_option maxHeartbeats 4000000
namespace Td
open PySem PySem.Spec PyProof.Rows L2

/-! ### arithmetic, named -/
instance decMul (i j : Int) : Decidable (CMul i j) := by unfold CMul; infer_instance
instance decDivN (i j : Int) : Decidable (CDivN i j) := by unfold CDivN; infer_instance
instance decDivW (i j : Int) : Decidable (CDivW i j) := by unfold CDivW; infer_instance
instance decMulW (i j : Int) : Decidable (CMulW i j) := by unfold CMulW; infer_instance
def CPowV (i j : Int) : Prop := 0 ≤ i ∧ 0 ≤ j ∧ (i.natAbs.log2 + 1) * j.toNat ≤ 100000000
instance decPowV (i j : Int) : Decidable (CPowV i j) := by unfold CPowV; infer_instance
def mulM {S : Type} (i j : Int) : SM S Int := grdI CMul (fun i j => i * j) i j
def mulWM {S : Type} (i j : Int) : SM S Int := grdI CMulW (fun i j => i * j) i j
def divM {S : Type} (i j : Int) : SM S Int := grdI CDivN (fun i j => i.fdiv j) i j
def divWM {S : Type} (i j : Int) : SM S Int := grdI CDivW (fun i j => i / j) i j
def modM {S : Type} (i j : Int) : SM S Int := grdI (fun _ j => j ≠ 0) (fun i j => i.fmod j) i j
def powM {S : Type} (i j : Int) : SM S Int := grdI CPowV (fun i j => i ^ j.toNat) i j
section
variable {S : Type} {K : PySem.W.Frag}
theorem stl_grdI {C : Int → Int → Prop} [∀ i j, Decidable (C i j)] {g : Int → Int → Int} (i j : Int) : Stl (grdI C g i j : SM S Int) := stl_bnd stl_grd fun _ => stl_ret _
theorem stl_mul (i j : Int) : Stl (mulM i j : SM S Int) := stl_grdI i j
theorem stl_mulW (i j : Int) : Stl (mulWM i j : SM S Int) := stl_grdI i j
theorem stl_div (i j : Int) : Stl (divM i j : SM S Int) := stl_grdI i j
theorem stl_divW (i j : Int) : Stl (divWM i j : SM S Int) := stl_grdI i j
theorem stl_mod (i j : Int) : Stl (modM i j : SM S Int) := stl_grdI i j
theorem stl_pow (i j : Int) : Stl (powM i j : SM S Int) := stl_grdI i j
theorem vo_mul : VO2 K S rInt rInt rInt (rI CMul fun i j => .int (i * j)) mulM := vo_I CMul fun i j => i * j
theorem vo_mulW : VO2 K S rInt rInt rInt (rI CMulW fun i j => .int (i * j)) mulWM := vo_I CMulW fun i j => i * j
theorem vo_div : VO2 K S rInt rInt rInt (rI CDivN fun i j => .int (i.fdiv j)) divM := vo_I CDivN fun i j => i.fdiv j
theorem vo_divW : VO2 K S rInt rInt rInt (rI CDivW fun i j => .int (i / j)) divWM := vo_I CDivW fun i j => i / j
theorem vo_mod : VO2 K S rInt rInt rInt (rI (fun _ j => j ≠ 0) fun i j => .int (i.fmod j)) modM := vo_I (fun _ j => j ≠ 0) fun i j => i.fmod j
theorem vo_pow : VO2 K S rInt rInt rInt (rI CPowV fun i j => .int (i ^ j.toNat)) powM := vo_I CPowV fun i j => i ^ j.toNat
end
theorem op_powV {X : Cx} : OpR X (binaryOp .Pow) (rI CPowV fun i j => .int (i ^ j.toNat)) := opI fun i j t u s Q E hc q => by
  obtain ⟨h0, h1, h2⟩ := hc
  refine PySem.AutoIntOpsIf.pow ?_
  rw [if_pos h1]
  by_cases hj : (j == 0) = true
  · rw [if_pos hj]
    have e : j = 0 := by simpa using hj
    subst e
    have e2 : i ^ Int.toNat 0 = 1 := by simp
    rw [e2] at q
    exact q
  · rw [if_neg hj]
    have hj' : j ≠ 0 := by simpa using hj
    by_cases hi : (i == 0 || i == 1) = true
    · rw [if_pos hi]
      have e : i ^ j.toNat = i := by
        have hp : j.toNat ≠ 0 := by omega
        rcases (by simpa using hi : i = 0 ∨ i = 1) with e | e
        · rw [e]; exact Int.zero_pow hp
        · rw [e]; exact Int.one_pow
      rw [e] at q
      exact q
    · rw [if_neg hi]
      have hm : ¬ (i == -1) = true := by simp; omega
      rw [if_neg hm]
      have hb : ¬ Builtin.Int.intTooBig (((Builtin.Int.intBits i : Nat) : Int) * j) = true := by
        unfold Builtin.Int.intTooBig
        have b : Builtin.Int.intBits i ≤ i.natAbs.log2 + 1 := by
          unfold Builtin.Int.intBits
          split <;> omega
        have e : bitsLine = 134217728 := by decide
        have e2 : ((Builtin.Int.intBits i : Nat) : Int) * j = ((Builtin.Int.intBits i * j.toNat : Nat) : Int) := by
          rw [Int.natCast_mul, Int.toNat_of_nonneg h1]
        have h3 : Builtin.Int.intBits i * j.toNat ≤ (i.natAbs.log2 + 1) * j.toNat := Nat.mul_le_mul_right _ b
        rw [e2, e]
        simp only [decide_eq_true_eq, gt_iff_lt, Int.not_lt]
        omega
      rw [if_neg hb]
      exact q
/-! ### small helpers of the printed proofs -/
section
variable {X : Cx} {S : Type} {F : FC X.K S} {U : Type} {r : Rp U} {e : Expr} {te : TE} {G G0 G' : S → List Slot} {m : SM S U} {n : Nat}
theorem ex_wk (w : ∀ s, Weak (G s) (G0 s)) (h : EX X F e te G0 G' r m) : EX X F e te G G' r m := ⟨h.pe, fun T t σ s H Q h0 q => h.go T t σ s H Q (h0.weak (w s)) q⟩
theorem wio {K : PySem.W.Frag} {F : FC K S} (hio : F.io = fun _ => uns n) (w : ∀ s, Weak (G s) (uns n)) : ∀ s, Weak (G s) (F.io s) := fun s => by rw [hio]; exact w s
theorem wios {K : PySem.W.Frag} {F : FC K S} {g : S → List Slot} (hio : F.io = g) (w : ∀ s, Weak (G s) (g s)) : ∀ s, Weak (G s) (F.io s) := fun s => by rw [hio]; exact w s
theorem hWE {K : PySem.W.Frag} {F : FC K S} {E : XK} (hW : F.W = fun c d _ H' => E c d H') : ∀ c d σ H, F.W c d σ H → E c d H := fun c d σ H h => by rw [hW] at h; exact h
theorem passes_nx {CX' : CXT} {P : Program} {w : World} (e : CX' = L2.CX P w) : Passes CX' X (fun _ _ _ => False) := fun pins σ H s e' s' I h => by
  subst e
  obtain ⟨a, B, H', cls, d, _, _, _, _, _, _, _, hf⟩ := h
  exact hf.elim
inductive UnAt (G : List Slot) : List Nat → Prop
  | nil : UnAt G []
  | cons {v vs} (e : G[v]? = some .un) (h : UnAt G vs) : UnAt G (v :: vs)
theorem UnAt.all {G : List Slot} {vs : List Nat} (h : UnAt G vs) : ∀ v, v ∈ vs → G[v]? = some .un ∨ G[v]? = none := by
  induction h with
  | nil => intro v z; cases z
  | cons e _ ih =>
    intro v z
    rcases List.mem_cons.mp z with z | z
    · rw [z]; exact .inl e
    · exact ih v z
end
section
variable {X : Cx} {S : Type} {F : FC X.K S} {N L R : Type} {sts : List Stmt} {ts : TS} {GN : N → S → List Slot} {GL : L → S → List Slot} {r : Rp R} {out : SM S (Fl N L R)}
theorem bx_nf {G : S → List Slot} (G' : S → List Slot) (e : ∀ s, G s = G' s) (h : BX X F sts ts G' GN GL r out) : BX X F sts ts G GN GL r out := by
  have z : G = G' := funext e
  subst z
  exact h
end
/-! ### data's text -/
def dP {A B : Type} (f : A → PyData) (g : B → PyData) (p : A × B) : PyData := .tuple [f p.1, g p.2]
def dT3 {A B C : Type} (f : A → PyData) (g : B → PyData) (h : C → PyData) (p : A × B × C) : PyData := .tuple [f p.1, g p.2.1, h p.2.2]
def dL {A : Type} (f : A → PyData) (xs : List A) : PyData := .list (xs.map f)
def dTL {A : Type} (f : A → PyData) (xs : List A) : PyData := .tuple (xs.map f)
def dO {A : Type} (f : A → PyData) : Option A → PyData
  | none => .none
  | some a => f a
def dN (_ : Unit) : PyData := .none
section
variable {A B C : Type} {r : Rp A} {q : Rp B} {l : Rp C} {f : A → PyData} {g : B → PyData} {h : C → PyData}
theorem en_N : Enc rNon dN := enc_non
theorem en_P (h1 : Enc r f) (h2 : Enc q g) : Enc (rPair r q) (dP f g) := enc_pair h1 h2
theorem en_T3 (h1 : Enc r f) (h2 : Enc q g) (h3 : Enc l h) : Enc (rTup3 r q l) (dT3 f g h) := enc_tup3 h1 h2 h3
theorem en_L (h1 : Enc r f) : Enc (rList r) (dL f) := enc_list h1
theorem en_TL (h1 : Enc r f) : Enc (rTupL r) (dTL f) := enc_tupL h1
theorem en_O (h1 : Enc r f) : Enc (rOpt r) (dO f) := by
  intro K M H v a B k
  cases a with
  | none =>
    have e : v = .non := k.1
    rw [e]; exact .non
  | some a => exact h1 k
end
/-! ### two lists side by side, of things that own nothing -/
section
variable {K : PySem.W.Frag} {S : Type} {F : FC K S} {A B : Type} {rx : Rp A} {ry : Rp B}
theorem src_zipC {a b : Addr} {xs : List A} {ys : List B} (c1 : rx.Cp) (c2 : ry.Cp) : Src F (fun _ => True) (Itz K a b) [.is (sh (rList ry)) ys, .is (sh (rList rx)) xs] [.ref b, .ref a] (rPair rx ry) (xs.zip ys) where
  len := rfl
  go := (src_zip (rx := rx) (ry := ry) (xs := xs) (ys := ys) (a := a) (b := b)).go
  stop := (src_zip (rx := rx) (ry := ry) (xs := xs) (ys := ys) (a := a) (b := b)).stop
  yld := by
    intro i c x T1 t1 T t G σ H H' _ e h hy ha
    obtain ⟨ha1, ha2⟩ := zip_get ha
    obtain ⟨A1, A2, h⟩ := h
    obtain ⟨_, v, ev, _, C, ⟨p, vs, _, ep, hp, hA, eC⟩, hC⟩ := held e h
    have h2 : AtP F ((T1 ++ [.is (sh (rList ry)) ys]) ++ ([.is (sh (rList rx)) xs] ++ T)) ((t1 ++ [.ref b]) ++ ([.ref a] ++ t)) G σ H A1 A2 := by simpa using h
    obtain ⟨_, v2, ev2, _, C2, ⟨p2, vs2, _, ep2, hp2, hA2, eC2⟩, hC2⟩ := held (by simp [e]) h2
    cases ev
    cases ep
    cases ev2
    cases ep2
    obtain ⟨T, y1, y2, rfl, hT, rfl, hy1, hy2⟩ := hy
    obtain ⟨w1, D1, e1, hr1, sub1⟩ := hA2.get' ha1
    obtain ⟨w2, D2, e2, hr2, sub2⟩ := hA.get' ha2
    have q1 := hy1 vs2 (SqL.of hp2)
    have q2 := hy2 vs (SqL.of hp)
    rw [e1] at q1
    rw [e2] at q2
    cases q1
    cases q2
    have eD1 := c1 hr1
    have eD2 := c2 hr2
    subst eD1 eD2
    exact At.tup2 ⟨A1, A2, (h.pushM hr1).pushM hr2⟩ hT
end
section
variable {X : Cx} {S : Type} {F : FC X.K S} {A B : Type} {rx : Rp A} {ry : Rp B} {e a b : Expr} {elts : List Expr} {kk : Nat} {tpos : Pos} {te ta tb : TE} {G G1 G2 G' : S → List Slot} {m : SM S (List A)} {m2 : SM S (List B)} {pos p0 : Pos}
theorem ei_zipC (h : EX X F a ta G G1 (sh (rList rx)) m) (h2 : EX X F b tb G1 G2 (sh (rList ry)) m2) (c1 : rx.Cp) (c2 : ry.Cp) (hg : Gl X "zip") (hm : X.mg "zip" = none) (hs : PySem.W.isStarred a = false := by rfl) (hs2 : PySem.W.isStarred b = false := by rfl) :
    EI X F (.Tuple elts kk tpos) (.Call (.Name "zip" p0) [a, b] [] pos) (iZip X.K (tCons ta (tCons tb tNil))) G G2 (fun _ => True) (rPair rx ry) (bnd m fun xs => bnd m2 fun ys => ret (xs.zip ys)) :=
  ⟨pi_zip hg hm (pa_cons h.pe (pa_cons h2.pe pa_nil (star1 hs2)) (star1 hs)) (by first | (rw [star1 hs, star1 hs2]; done) | (rw [star1 hs, star1 hs2]; rfl)) (by first | (rw [star1 hs2]; done) | (rw [star1 hs2]; rfl)), fun T t σ s H R h0 q => h.go T t σ s H _ h0 (wp_mono (wp_bnd q) (fun xs s1 q1 v H1 at1 => by
    refine h2.go _ _ σ s1 H1 _ at1 (wp_mono (wp_bnd q1) (fun ys s2 q2 w H2 at2 => ?_) fun _ _ z => z)
    obtain ⟨M, B, _, C, ⟨p, vs, D, ev, hp, hD, _⟩, _⟩ := snd_rel at2
    obtain ⟨M', B', _, C', ⟨p', vs', D', ev', hp', hD', _⟩, _⟩ := top_rel at2
    subst ev
    subst ev'
    exact ⟨p, p', vs, vs', rfl, SqL.of hp, SqL.of hp', q2 _ [_, _] [_, _] H2 (src_zipC c1 c2) at2⟩) fun _ _ z => z)⟩
end
end Td

set_option Elab.async false
set_option linter.all false
set_option maxRecDepth 100000
set_option maxHeartbeats 4000000
namespace Td
open PySem PySem.Spec PyProof.Rows L2

section
variable {X : Cx} {S : Type} {F : FC X.K S} {A B N L R : Type} {rx : Rp A} {rb : Rp B} {tg e elt : Expr} {ifs : List Expr} {scope : Scope} {own : List (Str × Nat)} {wi : TI} {g : Shared → Hp → Addr → List (Str × Addr) → List Addr → TG} {ws : List Nat} {tt : Shared → Hp → Addr → List (Str × Addr) → List Addr → TT} {te : Shared → Hp → Addr → List (Str × Addr) → List Addr → TE} {G G1 : S → List Slot} {C : List Slot → Prop} {mi : SM S (List A)} {Gt : S → A → List Slot} {mt : A → SM S Bool} {me : A → SM S B} {pos spos p0 : Pos} {GN : N → S → List Slot} {GL : L → S → List Slot} {r : Rp R} {rest : List Stmt} {tr : TS}
/-- y = [..] -/
theorem bx_lc {out : List B → SM S (Fl N L R)} {y : Str} (i : Nat) {gs : S → Slot} (sh0 : Shared) (hc : X.calm = true) (hN : X.N.Nodup) (hi : EI X F tg e wi G G1 C rx mi) (hC : ∀ s, C (G1 s)) (ok : BlkOk X.N X.env.scope scope own) (hun : ∀ s, UnAt (G1 s) (own.map (·.2))) (sub : ∀ j, j ∈ ws → j ∈ own.map (·.2)) (hwk : ∀ s x, Weak (Gt s x) (G1 s))
    (hg : ∀ (s0 : Shared) (H : Hp) (D : Addr) (cl : List (Str × Addr)) (fp : List Addr) (s : S), EG (X.blk s0 H scope (compEnvC scope cl D X.env) fp) F.nx tg (g s0 H D cl fp) ws rx (G1 s) (Gt s))
    (ht : ∀ (s0 : Shared) (H : Hp) (D : Addr) (cl : List (Str × Addr)) (fp : List Addr) (x : A), ETs (X.blk s0 H scope (compEnvC scope cl D X.env) fp) F.nx ifs (tt s0 H D cl fp) (fun s => Gt s x) (fun s => Gt s x) (mt x))
    (he : ∀ (s0 : Shared) (H : Hp) (D : Addr) (cl : List (Str × Addr)) (fp : List Addr) (x : A), EX (X.blk s0 H scope (compEnvC scope cl D X.env) fp) F.nx elt (te s0 H D cl fp) (fun s => Gt s x) (fun s => Gt s x) rb (me x)) (hA : Inhabited A) (hS : Inhabited S)
    (hb : ∀ a, BX X F rest tr (fun s => (G1 s).set i (.is (rList rb) a)) GN GL r (out a)) (hG : ∀ s, (G1 s)[i]? = some (gs s)) (hy : X.N[i]? = some y := by rfl) (hyl : X.env.scope.names.lookup y = some .local := by rfl) (hsw : swapsWith (.ListComp elt [⟨tg, e, ifs, 0⟩] scope pos) (some (.Name y p0)) spos.line X.env = pure true := by rfl)
    (hge : ∀ s0 H D cl fp, g s0 H D cl fp = g sh0 (fun _ => none) 0 [] [] := by intros; rfl) (hte : ∀ s0 H D cl fp, tt s0 H D cl fp = tt sh0 (fun _ => none) 0 [] [] := by intros; rfl) (hee : ∀ s0 H D cl fp, te s0 H D cl fp = te sh0 (fun _ => none) 0 [] [] := by intros; rfl) (hs : ∀ x, foldedSetIterable e X.env x = pure x := by intro _; rfl) : BX X F (.Assign [.Name y p0] (.ListComp elt [⟨tg, e, ifs, 0⟩] scope pos) spos :: rest) (tSeq (tAsg (tLc wi (g sh0 (fun _ => none) 0 [] []) (tt sh0 (fun _ => none) 0 [] []) (te sh0 (fun _ => none) 0 [] []) (own.map (·.2))) (gName i)) tr) G GN GL r (bnd (bnd mi fun xs => lcM (fun x => lcIt (mt x) (me x)) [] xs) out) :=
  bx_asgW i (ps_setLc hc hN hy hyl hsw hi.pi ok (fun s0 H D cl fp => by rw [← hge s0 H D cl fp]; exact (hg s0 H D cl fp hS.default).pg) (fun s0 H D cl fp => by rw [← hte s0 H D cl fp]; exact (ht s0 H D cl fp hA.default).pt) (fun s0 H D cl fp => by rw [← hee s0 H D cl fp]; exact (he s0 H D cl fp hA.default).pe) hs)
    (go_lc hi.go hC (fun s => (hun s).all) sub (fun s => (hg sh0 (fun _ => none) 0 [] [] s).go) hwk (fun x => (ht sh0 (fun _ => none) 0 [] [] x).go) (fun x => (he sh0 (fun _ => none) 0 [] [] x).go)) hb ⟨[]⟩ hG
theorem bx_lcS {out : List B → SM S (Fl N L R)} {y : Str} (i : Nat) {gs : S → Slot} (sh0 : Shared) (hc : X.calm = true) (hN : X.N.Nodup) (hi : EI X F tg e wi G G1 C rx mi) (hC : ∀ s, C (G1 s)) (ok : BlkOk X.N X.env.scope scope own) (hun : ∀ s, UnAt (G1 s) (own.map (·.2))) (sub : ∀ j, j ∈ ws → j ∈ own.map (·.2)) (hwk : ∀ s x, Weak (Gt s x) (G1 s))
    (hg : ∀ (s0 : Shared) (H : Hp) (D : Addr) (cl : List (Str × Addr)) (fp : List Addr) (s : S), EG (X.blk s0 H scope (compEnvC scope cl D X.env) fp) F.nx tg (g s0 H D cl fp) ws rx (G1 s) (Gt s))
    (ht : ∀ (s0 : Shared) (H : Hp) (D : Addr) (cl : List (Str × Addr)) (fp : List Addr) (x : A), ETs (X.blk s0 H scope (compEnvC scope cl D X.env) fp) F.nx ifs (tt s0 H D cl fp) (fun s => Gt s x) (fun s => Gt s x) (mt x))
    (he : ∀ (s0 : Shared) (H : Hp) (D : Addr) (cl : List (Str × Addr)) (fp : List Addr) (x : A), EX (X.blk s0 H scope (compEnvC scope cl D X.env) fp) F.nx elt (te s0 H D cl fp) (fun s => Gt s x) (fun s => Gt s x) rb (me x)) (hA : Inhabited A) (hS : Inhabited S)
    (hb : ∀ a, BX X F rest tr (fun s => (G1 s).set i (.is (sh (rList rb)) a)) GN GL r (out a)) (hG : ∀ s, (G1 s)[i]? = some (gs s)) (hy : X.N[i]? = some y := by rfl) (hyl : X.env.scope.names.lookup y = some .local := by rfl) (hsw : swapsWith (.ListComp elt [⟨tg, e, ifs, 0⟩] scope pos) (some (.Name y p0)) spos.line X.env = pure true := by rfl)
    (hge : ∀ s0 H D cl fp, g s0 H D cl fp = g sh0 (fun _ => none) 0 [] [] := by intros; rfl) (hte : ∀ s0 H D cl fp, tt s0 H D cl fp = tt sh0 (fun _ => none) 0 [] [] := by intros; rfl) (hee : ∀ s0 H D cl fp, te s0 H D cl fp = te sh0 (fun _ => none) 0 [] [] := by intros; rfl) (hs : ∀ x, foldedSetIterable e X.env x = pure x := by intro _; rfl) : BX X F (.Assign [.Name y p0] (.ListComp elt [⟨tg, e, ifs, 0⟩] scope pos) spos :: rest) (tSeq (tAsg (tLc wi (g sh0 (fun _ => none) 0 [] []) (tt sh0 (fun _ => none) 0 [] []) (te sh0 (fun _ => none) 0 [] []) (own.map (·.2))) (gName i)) tr) G GN GL r (bnd (bnd mi fun xs => lcM (fun x => lcIt (mt x) (me x)) [] xs) out) :=
  bx_asgW i (ps_setLc hc hN hy hyl hsw hi.pi ok (fun s0 H D cl fp => by rw [← hge s0 H D cl fp]; exact (hg s0 H D cl fp hS.default).pg) (fun s0 H D cl fp => by rw [← hte s0 H D cl fp]; exact (ht s0 H D cl fp hA.default).pt) (fun s0 H D cl fp => by rw [← hee s0 H D cl fp]; exact (he s0 H D cl fp hA.default).pe) hs)
    (fun T t σ s H Q h0 q => go_lc hi.go hC (fun s => (hun s).all) sub (fun s => (hg sh0 (fun _ => none) 0 [] [] s).go) hwk (fun x => (ht sh0 (fun _ => none) 0 [] [] x).go) (fun x => (he sh0 (fun _ => none) 0 [] [] x).go) T t σ s H Q h0 (wp_mono q (fun a s1 q1 v H1 at1 => q1 v H1 at1.freeze) fun _ _ z => z)) hb ⟨[]⟩ hG
/-- as a value -/
theorem ex_lcU (sh0 : Shared) (hc : X.calm = true) (hN : X.N.Nodup) (hi : EI X F tg e wi G G1 C rx mi) (hC : ∀ s, C (G1 s)) (ok : BlkOk X.N X.env.scope scope own) (hun : ∀ s, UnAt (G1 s) (own.map (·.2))) (sub : ∀ j, j ∈ ws → j ∈ own.map (·.2)) (hwk : ∀ s x, Weak (Gt s x) (G1 s))
    (hg : ∀ (s0 : Shared) (H : Hp) (D : Addr) (cl : List (Str × Addr)) (fp : List Addr) (s : S), EG (X.blk s0 H scope (compEnvC scope cl D X.env) fp) F.nx tg (g s0 H D cl fp) ws rx (G1 s) (Gt s))
    (ht : ∀ (s0 : Shared) (H : Hp) (D : Addr) (cl : List (Str × Addr)) (fp : List Addr) (x : A), ETs (X.blk s0 H scope (compEnvC scope cl D X.env) fp) F.nx ifs (tt s0 H D cl fp) (fun s => Gt s x) (fun s => Gt s x) (mt x))
    (he : ∀ (s0 : Shared) (H : Hp) (D : Addr) (cl : List (Str × Addr)) (fp : List Addr) (x : A), EX (X.blk s0 H scope (compEnvC scope cl D X.env) fp) F.nx elt (te s0 H D cl fp) (fun s => Gt s x) (fun s => Gt s x) rb (me x)) (hA : Inhabited A) (hS : Inhabited S)
    (hge : ∀ s0 H D cl fp, g s0 H D cl fp = g sh0 (fun _ => none) 0 [] [] := by intros; rfl) (hte : ∀ s0 H D cl fp, tt s0 H D cl fp = tt sh0 (fun _ => none) 0 [] [] := by intros; rfl) (hee : ∀ s0 H D cl fp, te s0 H D cl fp = te sh0 (fun _ => none) 0 [] [] := by intros; rfl) (hs : ∀ x, foldedSetIterable e X.env x = pure x := by intro _; rfl) : EX X F (.ListComp elt [⟨tg, e, ifs, 0⟩] scope pos) (tLc wi (g sh0 (fun _ => none) 0 [] []) (tt sh0 (fun _ => none) 0 [] []) (te sh0 (fun _ => none) 0 [] []) (own.map (·.2))) G G1 (rList rb) (bnd mi fun xs => lcM (fun x => lcIt (mt x) (me x)) [] xs) :=
  ex_lc sh0 hc hN hi hC ok (fun s => (hun s).all) sub hwk (fun s0 H D cl fp s => by rw [← hge s0 H D cl fp]; exact hg s0 H D cl fp s) (fun s0 H D cl fp x => by rw [← hte s0 H D cl fp]; exact ht s0 H D cl fp x) (fun s0 H D cl fp x => by rw [← hee s0 H D cl fp]; exact he s0 H D cl fp x) hA hS hs
end
end Td

set_option Elab.async false
set_option linter.all false
set_option maxRecDepth 100000
set_option maxHeartbeats 4000000
namespace Td
open PySem PySem.Spec PyProof.Rows L2

/-! ### calls whose in/out argument is a temp -/
/-- a computation with a state of its own -/
def subM {S S' T : Type} (m : SM S' T) (s0 : S') : SM S (T × S') := fun s => match m s0 with
  | .ok a s' => .ok (a, s') s
  | .exc e _ => .exc e s
  | .stuck => .stuck
theorem wp_subM {S S' T : Type} {m : SM S' T} {s0 : S'} {s : S} {P : T × S' → S → Prop} {E : Exn → S → Prop} (h : ((subM m s0 : SM S (T × S')) s).wp P E) : (m s0).wp (fun a s' => P (a, s') s) (fun e _ => E e s) := by
  unfold subM at h
  cases hm : m s0 with
  | ok a s' => rw [hm] at h; exact h
  | exc e s' => rw [hm] at h; exact h
  | stuck => rw [hm] at h; exact h
section
variable {K : PySem.W.Frag} {S : Type} {F : FC K S} {T T0 : List Slot} {t t0 : List V} {G : List Slot} {σ : L2.St} {H H' : Hp}
theorem AtS.mapOk {M M' : List Addr} {H' : Hp} {G : List Slot} {s : List (Option V)} {A : List Addr} (h : AtS K M H G s A) (k : ∀ {g x B}, Slot.ok K M H g x B → (∀ p, p ∈ B → p ∈ A) → Slot.ok K M' H' g x B) : AtS K M' H' G s A := by
  induction h with
  | nil => exact .nil
  | cons h t ih => exact .cons (k h fun p hp => List.mem_append_left _ hp) (ih fun h hp => k h fun p z => List.mem_append_right _ (hp p z))
theorem AtP.lift {g : Slot} {v : V} {A1 A2 : List Addr} (e : t0.length = T0.length) (h : AtP F (T0 ++ (g :: T)) (t0 ++ (v :: t)) G σ H A1 A2) :
    ∃ B A1', (∀ p, p ∈ A1' ++ (B ++ A2) ↔ p ∈ A1 ++ A2) ∧ g.ok K (A1 ++ A2 ++ F.M0) H (some v) B ∧ AtS K (A1' ++ (B ++ A2) ++ F.M0) H G σ A2 ∧ AtP F (T0 ++ T) (t0 ++ t) (g :: G) (some v :: σ) H A1' (B ++ A2) := by
  have ht := h.tmp
  rw [List.map_append] at ht
  obtain ⟨C, D, eA, h1, h2⟩ := AtS.split (by rw [List.length_map, e]) ht
  obtain ⟨B, D', eD, hg, h3⟩ := AtS.cons_inv h2
  subst eA eD
  have mm : ∀ p, p ∈ (C ++ D') ++ (B ++ A2) ↔ p ∈ (C ++ (B ++ D')) ++ A2 := fun p => by
    simp only [List.mem_append]; grind
  have hM : ∀ x, x ∈ (C ++ D') ++ (B ++ A2) ++ F.M0 → x ∈ (C ++ (B ++ D')) ++ A2 ++ F.M0 ∨ H x = none := fun x hx => .inl (by
    have := mm x
    simp only [List.mem_append] at *
    grind)
  have nd := h.good.nd
  refine ⟨B, C ++ D', mm, hg, h.loc.grow hM, ?_, .cons (Slot.ok_grow hg hM) (h.loc.grow hM), h.good.sub ?_ fun p hp => (mm p).mp hp⟩
  · rw [List.map_append]
    exact (h1.grow hM).append (h3.grow hM)
  · simp only [List.nodup_append, List.mem_append] at *
    grind
theorem At.low {g : Slot} {x : Option V} (h : At F T t (g :: G) (x :: σ) H) : At F T t G σ H := by
  obtain ⟨A1, A2, h⟩ := h
  obtain ⟨B, A', eA, hg, h2⟩ := AtS.cons_inv h.loc
  subst eA
  have nd := h.good.nd
  have hM : ∀ x, x ∈ A1 ++ A' ++ F.M0 → x ∈ A1 ++ (B ++ A') ++ F.M0 ∨ H x = none := fun x hx => .inl (by simp only [List.mem_append] at *; grind)
  exact ⟨A1, A', h.tmp.grow hM, h2.grow hM, h.good.sub (by simp only [List.nodup_append, List.mem_append] at *; grind) fun p hp => by simp only [List.mem_append] at *; grind⟩
theorem At.sink {g : Slot} {v : V} (h : At F T t (g :: G) (some v :: σ) H) : At F (g :: T) (v :: t) G σ H := by
  obtain ⟨A1, A2, h⟩ := h
  obtain ⟨B, A', eA, hg, h2⟩ := AtS.cons_inv h.loc
  subst eA
  have nd := h.good.nd
  have hM : ∀ x, x ∈ (B ++ A1) ++ A' ++ F.M0 → x ∈ A1 ++ (B ++ A') ++ F.M0 ∨ H x = none := fun x hx => .inl (by simp only [List.mem_append] at *; grind)
  exact ⟨B ++ A1, A', .cons (Slot.ok_grow hg hM) (h.tmp.grow hM), h2.grow hM, h.good.sub (by simp only [List.nodup_append, List.mem_append] at *; grind) fun p hp => by simp only [List.mem_append] at *; grind⟩
/-- the promise of a callee, its in/out argument in a slot ahead -/
theorem run_ioS {S' U W : Type} {n : Nat} {rio : Rp S'} {Pr : U → List Slot} {r : Rp W} {f : U → SM S' W} {E : XK} {L : List Arg} {ts vr : List V} {w : V} {s0 : S'} {u : U} {A1' A2 C : List Addr} {Q : VK} (cio : rio.Clo)
    (hio : rio.rel K (A1' ++ (C ++ A2) ++ F.M0) H w s0 C) (tail : AtS K (A1' ++ (C ++ A2) ++ F.M0) H G σ A2) (at2 : AtP F ((tmps L).reverse ++ T) (ts.reverse ++ t) (.is rio s0 :: G) (some w :: σ) H A1' (C ++ A2)) (lts : ts.length = (tmps L).length) (hn : vr.length + 1 = n)
    (hent : AtS K (A1' ++ (C ++ A2) ++ F.M0) H (Pr u) (vr.map some) [])
    (q : (f u s0).wp (fun b s' => ∀ v H', At F (.is rio s' :: .is r b :: T) (w :: v :: t) G σ H' → Q v H') (fun e s' => ∀ d v H', At F (.is rPay e.pay :: T) (v :: t) G σ H' → H' d = some (.xd [("value", v)]) → E (.ref (He.ga K e.cls)) (some d) H')) :
    SpI K n rio Pr r f (w :: vr) H Q E := by
  have tC := rio.trk hio
  have nd := at2.good.nd
  have disC : ∀ p, p ∈ C → p ∉ A1' ++ ([] ++ A2) ++ F.M0 := fun p hp z => by
    have out := at2.good.out p
    simp only [List.nodup_append, List.mem_append, List.nil_append] at *
    grind
  have ndC : C.Nodup := by
    simp only [List.nodup_append] at nd
    exact nd.2.1.1
  have tr := at2.m_trk
  have entry : At (FC.c (K := K) (S := S') H C (A1' ++ ([] ++ A2) ++ F.M0)) [] [] (.pn w rio s0 :: Pr u) ((w :: vr).map some) H := by
    refine ⟨[], C ++ [], .nil, .cons ⟨rfl, cio hio⟩ (hent.grow fun p hp => .inl ?_), ⟨by simpa using ndC, fun p hp => disC p (by simpa using hp), fun p hp => .inr (show p ∈ C by simpa using hp), tC, fun _ _ e _ => e, fun p hp => ⟨tr p ?_, fun z => disC p z hp⟩⟩⟩
    · have hp' : p ∈ [] ++ (C ++ []) ++ (A1' ++ ([] ++ A2) ++ F.M0) := hp
      simp only [List.mem_append, List.append_nil, List.nil_append] at *
      grind
    · have hp' : p ∈ A1' ++ ([] ++ A2) ++ F.M0 := hp
      simp only [List.mem_append, List.nil_append] at *
      grind
  have back : ∀ (M' : List Addr) (H' : Hp) (g' : Slot) (x' : Option V) (B' : List Addr), (∀ {g x B}, Slot.ok K (A1' ++ (C ++ A2) ++ F.M0) H g x B → (∀ p, p ∈ B → p ∈ [] ∨ p ∈ A2) → Slot.ok K M' H' g x B) → g'.ok K M' H' x' B' → AtS K M' H' ((.is rio s0 :: G).set 0 g') ((some w :: σ).set 0 x') ([] ++ (B' ++ A2)) := by
    intro M' H' g' x' B' k hg'
    show AtS K M' H' (g' :: G) (x' :: σ) (B' ++ A2)
    exact .cons hg' (tail.mapOk fun hs sub => k hs fun p hp => .inr (sub p hp))
  have hM : ∀ p, p ∈ A1' ++ ([] ++ A2) ++ F.M0 → p ∈ A1' ++ ([] ++ A2) ++ F.M0 := fun _ z => z
  refine ⟨u, s0, C, _, by rw [List.length_cons, hn], entry, wp_mono q (fun b s2 q3 v H' hx => ?_) (fun e s2 q3 d v H' hx hd => ?_)⟩
  · have z := At.backIo (j := 0) at2 (P1 := []) rfl back rfl tC hx cio (.inr hM)
    have z2 := At.dropU (by simp [lts]) z
    have z3 := (At.unpin z2 (i := 0) rfl).2
    exact q3 v H' (At.sink z3)
  · have z := At.backIo (j := 0) at2 (P1 := []) rfl back rfl tC hx cio (.inr hM)
    exact q3 d v H' (At.low (At.dropU (by simp [lts]) z)) hd
/-- .. a temp below the other arguments -/
theorem run_ioT {S' U W : Type} {n : Nat} {rio : Rp S'} {Pr : U → List Slot} {r : Rp W} {f : U → SM S' W} {E : XK} {L : List Arg} {ts vr : List V} {w : V} {s0 : S'} {u : U} {A1 A2 : List Addr} {Q : VK} (cio : rio.Clo)
    (at1 : AtP F ((tmps L).reverse ++ (.is rio s0 :: T)) (ts.reverse ++ (w :: t)) G σ H A1 A2) (av : ArgV σ L ts vr) (hn : L.length + 1 = n) (he : EntS G L (Pr u))
    (q : (f u s0).wp (fun b s' => ∀ v H', At F (.is rio s' :: .is r b :: T) (w :: v :: t) G σ H' → Q v H') (fun e s' => ∀ d v H', At F (.is rPay e.pay :: T) (v :: t) G σ H' → H' d = some (.xd [("value", v)]) → E (.ref (He.ga K e.cls)) (some d) H')) :
    SpI K n rio Pr r f (w :: vr) H Q E := by
  have hent := entS_at at1 av he
  have lts := (argV_len av).2
  obtain ⟨C, A1', mm, hg, tail, at2⟩ := at1.lift (T0 := (tmps L).reverse) (t0 := ts.reverse) (by simp [lts])
  obtain ⟨w', ew, hio⟩ := hg
  cases ew
  have hMM : ∀ p, p ∈ A1' ++ (C ++ A2) ++ F.M0 → p ∈ A1 ++ A2 ++ F.M0 ∨ H p = none := fun p hp => .inl (by
    have := mm p
    simp only [List.mem_append] at *
    grind)
  exact run_ioS cio (cio hio) tail at2 lts (by rw [(argV_len av).1, hn]) (hent.grow hMM) q
theorem go_callIoT {S' U W A : Type} {n : Nat} {rio : Rp S'} {Pr : U → List Slot} {r : Rp W} {f : U → SM S' W} {fm : A → SM S' W} {E : XK} {ta : TA} {G G' : S → List Slot} {LA : A → List Arg} {mA : SM S A} {sx : A → S'} (u : A → U) (hf : ∀ a, fm a = f (u a)) (cio : rio.Clo) (h : GA F ta G G' LA mA) (hL : ∀ a, LA a = .t (.is rio (sx a)) :: (LA a).tail) (hn : ∀ a, (LA a).length = n)
    (he : ∀ a s, EntS (G' s) (LA a).tail (Pr (u a))) (hW : ∀ c d σ H, F.W c d σ H → E c d H) (hw : ∀ s, Weak (G' s) (F.io s)) :
    GE F (tCall (SpI K n rio Pr r f) [] E ta) G G' r (bnd mA fun a => bnd (subM (fm a) (sx a)) fun p => ret p.1) := by
  intro T t σ s H Q h0 q
  have ef : fm = fun a => f (u a) := funext hf
  subst ef
  refine h T t σ s H _ h0 (wp_mono (wp_bnd q) (fun a s1 q1 ts vs H1 at1 av => ?_) fun _ _ z => z)
  have q2 := wp_subM (wp_bnd q1)
  obtain ⟨w, ts', vr, e1, e2, av'⟩ : ∃ w ts' vr, ts = w :: ts' ∧ vs = w :: vr ∧ ArgV σ (LA a).tail ts' vr := by
    have av2 := av
    rw [hL a] at av2
    cases av2 with
    | t h => exact ⟨_, _, _, rfl, rfl, h⟩
  subst e1 e2
  obtain ⟨A1, A2, at1⟩ := at1
  have at2 : AtP F ((tmps (LA a).tail).reverse ++ (.is rio (sx a) :: T)) (ts'.reverse ++ (w :: t)) (G' s1) σ H1 A1 A2 := by
    rw [hL a] at at1
    simpa [tmps] using at1
  show SpI K n rio Pr r f (w :: vr ++ []) H1 Q E
  rw [List.append_nil]
  have hn' : (LA a).tail.length + 1 = n := by
    have z := hn a
    rw [hL a] at z
    simpa using z
  refine run_ioT cio at2 av' hn' (he a s1) (wp_mono q2 (fun b s' q3 v H' hx => q3 v H' hx.pop) (fun e s' q3 d v H' hx hd => ?_))
  refine hW _ _ σ _ (q3 d v H' ?_ hd)
  have z2 := hx.weak (hw s1)
  exact At.dropM (T0 := [_]) (t0 := [v]) (T := []) (t := []) rfl (T1 := T) (t1 := t) (by obtain ⟨B1, B2, hz⟩ := h0; have := hz.tmp.length; simpa using this) (by simpa using z2)
end
section
variable {X : Cx} {S S' : Type} {F : FC X.K S} {U W A : Type} {n k : Nat} {rio : Rp S'} {Pr : U → List Slot} {r : Rp W} {f : U → SM S' W} {fm : A → SM S' W} {E : XK} {ta : TA} {G G' : S → List Slot} {LA : A → List Arg} {mA : SM S A} {CX : CXT} {fA : Addr} {fd : FuncData} {ps : List Str} {x : Str} {p pos : Pos} {e : Expr} {es : List Expr} {sx : A → S'}
theorem ex_callIoT (u : A → U) (FO : FnOk X.prog X.w X.K X.mg X.base CX k fA fd ps (SpI X.K n rio Pr r f)) (hr : Room k X.A) (hg : Gl X x) (hm : X.mg x = some (.ref fA)) (hk : PySem.W.keepIn X.K (.ref fA) = true) (hb : Binds X.K fd ps []) (hx : Passes CX X E)
    (cio : rio.Clo) (h : EA X F (e :: es) ta G G' LA mA) (hn : ∀ a, (LA a).length = n)
    (he : ∀ a s, EntS (G' s) (LA a).tail (Pr (u a))) (hW : ∀ c d σ H, F.W c d σ H → E c d H) (hw : ∀ s, Weak (G' s) (F.io s)) (hL : ∀ a, LA a = .t (.is rio (sx a)) :: (LA a).tail := by intro _; rfl) (hf : ∀ a, fm a = f (u a) := by intro _; rfl)
    (hst : PySem.W.isStarred e = false := by rfl) (hpl : (backTo pos (starEach es X.env)).any (·.1) = false := by rfl) (hdb : (x == ("__debug__" : Str)) = false := by decide) :
    EX X F (.Call (.Name x p) (e :: es) [] pos) (tCall (SpI X.K n rio Pr r f) [] E ta) G G' r (bnd mA fun a => bnd (subM (fm a) (sx a)) fun p => ret p.1) :=
  ⟨pe_call FO hr hg hm hk hb .nil hx h.pa (hdb := hdb) (he := star1 hst) (hpl := hpl), go_callIoT u hf cio h.go hL hn he hW hw⟩
end
end Td

set_option Elab.async false
set_option linter.all false
set_option maxRecDepth 100000
set_option maxHeartbeats 4000000
namespace Td
open PySem PySem.Spec PyProof.Rows L2

/-! ### calls of defs that the machine makes itself, without an exception -/
section
variable {K : PySem.W.Frag} {S : Type} {F : FC K S} {T : List Slot} {t : List V} {G : List Slot} {σ : L2.St} {H : Hp}
theorem run_sp {U W : Type} {n : Nat} {Ps : U → List Slot} {r : Rp W} {f : U → SM Unit W} {E : XK} {L : List Arg} {ts vs : List V} {u : U} {A1 A2 : List Addr} {Q : VK} (at1 : AtP F ((tmps L).reverse ++ T) (ts.reverse ++ t) G σ H A1 A2) (av : ArgV σ L ts vs) (hn : L.length = n) (he : EntS G L (Ps u))
    (q : (f u ()).wp (fun b _ => ∀ v H', At F (.is r b :: T) (v :: t) G σ H' → Q v H') (fun _ _ => False)) : SpP K n Ps r f vs H Q E := by
  have hat := entS_at at1 av he
  refine ⟨u, (), [], A1 ++ A2 ++ F.M0, by rw [(argV_len av).1, hn], ⟨[], [], .nil, hat, good_c at1.m_trk⟩, wp_mono q (fun b _ q3 v H' hx => ?_) fun _ _ z => z.elim⟩
  exact q3 v H' (At.dropU (by simp [(argV_len av).2]) (At.back at1 hx (.inr fun _ z => z)))
/-- what slot i owns is changed, and nothing else -/
theorem AtP.chg {i : Nat} {g' : Slot} {x : Option V} {B P1 P2 A1 A2 : List Addr} {H' : Hp} (h : AtP F T t G σ H A1 A2) (eA : A2 = P1 ++ (B ++ P2)) (ex : σ[i]? = some x)
    (back : ∀ (M' : List Addr) (H' : Hp) (g' : Slot) (x' : Option V) (B' : List Addr), (∀ {g x B}, Slot.ok K (A1 ++ A2 ++ F.M0) H g x B → (∀ p, p ∈ B → p ∈ P1 ∨ p ∈ P2) → Slot.ok K M' H' g x B) → g'.ok K M' H' x' B' → AtS K M' H' (G.set i g') (σ.set i x') (P1 ++ (B' ++ P2)))
    (tB : ∀ p, p ∈ B → ∃ o, H p = some o ∧ isTup o = false) (hout : ∀ p, p ∉ B → H' p = H p) (hin : ∀ p, p ∈ B → ∃ o, H' p = some o ∧ isTup o = false) (hg : g'.ok K (A1 ++ A2 ++ F.M0) H' x B) : At F T t (G.set i g') σ H' := by
  subst eA
  have nd := h.good.nd
  have kp : ∀ {B0 : List Addr}, (∀ p, p ∈ B0 → p ∈ A1 ∨ p ∈ P1 ∨ p ∈ P2) → ∀ p o, H p = some o → (p ∉ A1 ++ (P1 ++ (B ++ P2)) ++ F.M0 ∨ p ∈ B0 ∨ isTup o = true) → H' p = some o := by
    intro B0 hB0 p o e hp
    have np : p ∉ B := fun z => by
      obtain ⟨o', e', zt⟩ := tB p z
      rw [e] at e'
      cases e'
      rcases hp with q | q | q
      · exact q (by simp only [List.mem_append]; grind)
      · have := hB0 p q
        simp only [List.nodup_append, List.mem_append] at nd
        grind
      · rw [zt] at q; cases q
    rw [hout p np]; exact e
  have z := back (A1 ++ (P1 ++ (B ++ P2)) ++ F.M0) H' g' x B (fun hs sub => Slot.ok_keep hs (kp fun p hp => .inr (sub p hp))) hg
  rw [set_self ex] at z
  refine ⟨A1, P1 ++ (B ++ P2), h.tmp.keep (kp fun p hp => .inl hp), z, ⟨nd, h.good.out, h.good.new, fun p hp => ?_, fun p o e hI => ?_, h.good.m0⟩⟩
  · by_cases hB : p ∈ B
    · exact hin p hB
    · obtain ⟨o, e, q⟩ := h.good.has p hp
      exact ⟨o, by rw [hout p hB]; exact e, q⟩
  · have np : p ∉ B := fun z => by
      rcases h.good.new p (by simp only [List.mem_append]; grind) with q | q
      · rw [q] at e; cases e
      · exact hI q
    rw [hout p np]
    exact h.good.stay p o e hI
end

/-! ### a tape -/
abbrev TapeV := Int × List (Int × Int)
abbrev rFiles : Rp (List (Int × Int)) := rTupL (rPair rInt rInt)
theorem cp_files : rFiles.Cp := cp_tupL (cp_pair cp_int cp_int)
theorem clo_tupL {T : Type} {r : Rp T} (c : r.Clo) : (rTupL r).Clo := by
  rintro K M M' H v a B ⟨p, vs, e, hp, hA⟩
  exact ⟨p, vs, e, hp, hA.imp fun _ _ _ _ h => c h⟩
theorem clo_files : rFiles.Clo := clo_tupL (clo_pair clo_int clo_int)
def tapeC (K : PySem.W.Frag) : Addr := He.ga K "Tape"
def tapeAt (K : PySem.W.Frag) (M : List Addr) (H : Hp) (p dx : Addr) (a : TapeV) : Prop := ∃ w, H p = some (SlX.SlO p (tapeC K) dx [some (.int a.1), some w]) ∧ H dx = some (.xd []) ∧ rFiles.rel K M H w a.2 []
def rTape : Rp TapeV where
  rel := fun K M H v a B => ∃ p dx, v = .ref p ∧ p ≠ dx ∧ tapeAt K M H p dx a ∧ B = [p, dx]
  keep := by
    rintro K M H H' v a B ⟨p, dx, ev, ne, ⟨w, h1, h2, h3⟩, eB⟩ k
    subst eB
    exact ⟨p, dx, ev, ne, ⟨w, k p _ h1 (.inr (.inl (by simp))), k dx _ h2 (.inr (.inl (by simp))), rFiles.keep h3 fun q o e z => k q o e (z.elim .inl fun y => y.elim (fun x => by cases x) fun x => .inr (.inr x))⟩, rfl⟩
  grow := by
    rintro K M M' H v a B ⟨p, dx, ev, ne, ⟨w, h1, h2, h3⟩, eB⟩ k
    exact ⟨p, dx, ev, ne, ⟨w, h1, h2, rFiles.grow h3 k⟩, eB⟩
  trk := by
    rintro K M H v a B ⟨p, dx, ev, ne, ⟨w, h1, h2, h3⟩, eB⟩ x hx
    subst eB
    rcases List.mem_cons.mp hx with e | hx
    · subst e; exact ⟨_, h1, rfl⟩
    · rcases List.mem_cons.mp hx with e | hx
      · subst e; exact ⟨_, h2, rfl⟩
      · cases hx
theorem clo_tape : rTape.Clo := by
  rintro K M M' H v a B ⟨p, dx, ev, ne, ⟨w, h1, h2, h3⟩, eB⟩
  exact ⟨p, dx, ev, ne, ⟨w, h1, h2, clo_files h3⟩, eB⟩
theorem nn_tape : rTape.Nn := by
  rintro K M H v a B ⟨p, dx, ev, _⟩
  rw [ev]; intro z; cases z
/-- a tape that is being made -/
inductive TS0 where
  | new
  | half (n : Int)
  | full (a : TapeV)
instance : Inhabited TS0 := ⟨.new⟩
def rSelf : Rp TS0 where
  rel := fun K M H v a B => match a with
    | .new => ∃ p dx, v = .ref p ∧ p ≠ dx ∧ (H p = some (.ins (tapeC K) dx []) ∧ H dx = some (.own p)) ∧ B = [p, dx]
    | .half n => ∃ p dx, v = .ref p ∧ p ≠ dx ∧ (H p = some (SlX.SlO p (tapeC K) dx [some (.int n)]) ∧ H dx = some (.xd [])) ∧ B = [p, dx]
    | .full a => rTape.rel K M H v a B
  keep := by
    intro K M H H' v a B h k
    cases a with
    | new =>
      obtain ⟨p, dx, ev, ne, ⟨h1, h2⟩, eB⟩ := h
      subst eB
      exact ⟨p, dx, ev, ne, ⟨k p _ h1 (.inr (.inl (by simp))), k dx _ h2 (.inr (.inl (by simp)))⟩, rfl⟩
    | half n =>
      obtain ⟨p, dx, ev, ne, ⟨h1, h2⟩, eB⟩ := h
      subst eB
      exact ⟨p, dx, ev, ne, ⟨k p _ h1 (.inr (.inl (by simp))), k dx _ h2 (.inr (.inl (by simp)))⟩, rfl⟩
    | full a => exact rTape.keep h k
  grow := by
    intro K M M' H v a B h k
    cases a with
    | new => exact h
    | half n => exact h
    | full a => exact rTape.grow h k
  trk := by
    intro K M H v a B h x hx
    cases a with
    | new =>
      obtain ⟨p, dx, ev, ne, ⟨h1, h2⟩, eB⟩ := h
      subst eB
      simp only [List.mem_cons, List.not_mem_nil, or_false] at hx
      rcases hx with e | e
      · subst e; exact ⟨_, h1, rfl⟩
      · subst e; exact ⟨_, h2, rfl⟩
    | half n =>
      obtain ⟨p, dx, ev, ne, ⟨h1, h2⟩, eB⟩ := h
      subst eB
      simp only [List.mem_cons, List.not_mem_nil, or_false] at hx
      rcases hx with e | e
      · subst e; exact ⟨_, h1, rfl⟩
      · subst e; exact ⟨_, h2, rfl⟩
    | full a => exact rTape.trk h x hx
theorem clo_self : rSelf.Clo := by
  intro K M M' H v a B h
  cases a with
  | new => exact h
  | half n => exact h
  | full a => exact clo_tape h
/-- what of the text a tape's class must have -/
structure TapeCls (K : PySem.W.Frag) : Prop where
  sc : SlX.SCls K (tapeC K)
  s0 : SlX.Slot1 K (tapeC K) "extent" (He.ma K (tapeC K) "extent") 0
  s1 : SlX.Slot1 K (tapeC K) "kept" (He.ma K (tapeC K) "kept") 1
theorem tape_slt {K : PySem.W.Frag} {M : List Addr} {H : Hp} {v : V} {a : TapeV} {B : List Addr} (h : rTape.rel K M H v a B) : ∃ p dx w, v = .ref p ∧ SlX.Slt H p (tapeC K) dx [some (.int a.1), some w] ∧ rFiles.rel K M H w a.2 [] := by
  obtain ⟨p, dx, ev, ne, ⟨w, h1, h2, h3⟩, eB⟩ := h
  exact ⟨p, dx, w, ev, .inr ⟨h1, h2⟩, h3⟩
section
variable {X : Cx} {S : Type} {F : FC X.K S} {U : Type} {e : Expr} {te : TE} {G G' : S → List Slot} {m : SM S U} {arg : U → Arg} {tx : U → TapeV} {pos : Pos}
theorem ex_extent (tc : TapeCls X.K) (h : EO X F e te G G' arg m) (hx : ∀ a s, Rdd (G' s) (arg a) rTape (tx a)) (hb : attributeBase e "extent" X.env (eval e X.env) = eval e X.env := by rfl) :
    EX X F (.Attribute e "extent" pos) (SlX.tSl X.K te "extent") G G' rInt (bnd m fun a => ret (tx a).1) :=
  ⟨SlX.pe_sl h.pe hb, fun T t σ s H Q h0 q => h.go T t σ s H _ h0 (wp_mono (wp_bnd q) (fun a s1 q1 ts v H1 at1 av => by
    obtain ⟨A1, A2, at1⟩ := at1
    obtain ⟨v', B, e1, k⟩ := rddM (j := 0) at1 av rfl (hx a s1)
    cases e1
    obtain ⟨p, dx, w, ev, hs, _⟩ := tape_slt k
    exact ⟨p, _, dx, _, _, 0, .int (tx a).1, ev, hs, tc.sc, tc.s0, rfl, q1 _ H1 (at1.fin av ⟨rfl, rfl⟩)⟩) fun _ _ z => z)⟩
theorem ex_kept (tc : TapeCls X.K) (h : EO X F e te G G' arg m) (hx : ∀ a s, Rdd (G' s) (arg a) rTape (tx a)) (hb : attributeBase e "kept" X.env (eval e X.env) = eval e X.env := by rfl) :
    EX X F (.Attribute e "kept" pos) (SlX.tSl X.K te "kept") G G' rFiles (bnd m fun a => ret (tx a).2) :=
  ⟨SlX.pe_sl h.pe hb, fun T t σ s H Q h0 q => h.go T t σ s H _ h0 (wp_mono (wp_bnd q) (fun a s1 q1 ts v H1 at1 av => by
    obtain ⟨A1, A2, at1⟩ := at1
    obtain ⟨v', B, e1, k⟩ := rddM (j := 0) at1 av rfl (hx a s1)
    cases e1
    obtain ⟨p, dx, w, ev, hs, hf⟩ := tape_slt k
    exact ⟨p, _, dx, _, _, 1, w, ev, hs, tc.sc, tc.s1, rfl, q1 _ H1 (at1.fin av hf)⟩) fun _ _ z => z)⟩
end
end Td

set_option Elab.async false
set_option linter.all false
set_option maxRecDepth 100000
set_option maxHeartbeats 4000000
namespace Td
open PySem PySem.Spec PyProof.Rows L2 SlX

section
variable {X : Cx} {CX : CXT} {g : Addr} {k : Nat} {sp : Sp} {E : XK} {C : Addr}
/-- len(x) by the class's def -/
def rLenOwn (C : Addr) (sp : Sp) (E : XK) : List V → Hp → VK → Prop := fun xs H Q => ∃ a dx vs, xs = [V.ref a] ∧ Slt H a C dx vs ∧ sp [.ref a] H (fun z H' => ∃ n : Int, z = .int n ∧ (0 ≤ n ∧ n < 2 ^ 63) ∧ Q (.int n) H') E
theorem call_lenOwn (hs : PySem.W.findIn X.K (.ref C) "__len__" = some (some (.ref g))) (hf : PySem.W.isFn X.K (.ref g) = true) (FO : FnR X.prog X.w X.K X.mg X.base CX k g sp) (hr : Room (k + 1) X.A) (hx : Passes CX X E) : CallR X (.builtin "len") (rLenOwn C sp E) := by
  intro pins s σ H xs us Q I r h
  obtain ⟨a, dx, vs, exs, hsl, q⟩ := h
  subst exs
  obtain ⟨u, eu, ru⟩ := Vals.one r
  subst eu
  cases (show u = Value.ref a from ru)
  obtain ⟨sl, od, _, J, _⟩ := slt_inst I hsl
  obtain ⟨m, fr⟩ := I.fr
  refine PySem.W.len_K fr I.mod.kin J hs hf (wpAny_mono (wpAny_call (run_at (us := [.ref a]) (ws := [.ref a]) FO hr.in1 I.env0.in1 hx I (.cons rfl .nil) q)) (fun z s' hz => ?_) fun _ _ y => y)
  obtain ⟨zv, H', I', rz, n, ez, hn, qz⟩ := hz
  subst ez
  obtain ⟨tk, et⟩ := (show ∃ t, z = Value.int n t from rz)
  subst et
  exact ⟨hn, ⟨.int n, H', I'.tok _, ⟨_, rfl⟩, qz⟩⟩
/-- x[i] by the class's def -/
def rIxOwn (C : Addr) (sp : Sp) (E : XK) : R2 := fun x y H Q => ∃ a dx vs, x = V.ref a ∧ Slt H a C dx vs ∧ sp [x, y] H Q E
theorem pe_ixOwn {a b : Expr} {ta tb : TE} {pos : Pos} (hs : PySem.W.findIn X.K (.ref C) "__getitem__" = some (some (.ref g))) (hf : PySem.W.isFn X.K (.ref g) = true) (hfn : PySem.W.fnIn X.K g = true) (FO : FnR X.prog X.w X.K X.mg X.base CX k g sp) (hr : Room (k + 1) X.A) (hx : Passes CX X E) (ha : PE X a ta) (hb : PE X b tb)
    (hsl : ∀ o i, subscripted b true o i = runValue (.builtin "lifetime.subscript" ⟨[o, i], []⟩)) : PE X (.Subscript a b pos) (tOp (rIxOwn C sp E) ta tb) := by
  refine ⟨fun pins s σ H Q I h => Subscript_ (binT ha hb I h fun v u s2 x y H2 I2 rx ry q => ?_)⟩
  obtain ⟨p, dx, vs, ex, hsl2, q⟩ := q
  subst ex
  cases (show v = Value.ref p from rx)
  obtain ⟨sl, od, _, J, _⟩ := slt_inst I2 hsl2
  obtain ⟨m, fr⟩ := I2.fr
  exact PySem.W.sub_K fr I2.mod.kin J hs hfn hf (wpAny_mono (wpAny_call (run_at (us := [.ref p, u]) (ws := [.ref p, y]) FO hr.in1 I2.env0.in1 hx I2 (.cons rfl (.cons ry .nil)) q)) (fun z s' hz => hz) fun _ _ y => y) (hsl _ _)
end
/-! ### a tape used -/
structure Mth (K : PySem.W.Frag) (m : Str) : Prop where
  at_ : PySem.W.findIn K (.ref (tapeC K)) m = some (some (.ref (He.ma K (tapeC K) m)))
  fn : PySem.W.isFn K (.ref (He.ma K (tapeC K) m)) = true
theorem fnIn_of {K : PySem.W.Frag} {f : Addr} {x qual : Str} {params : Arguments} {body : List Stmt} {scope : Scope} {dvs : List V} {kws : List (Str × V)} {fd : FuncData} (F : FunD K x qual params body scope dvs kws f fd) : PySem.W.fnIn K f = true := by
  obtain ⟨oc, od, dV, kV, doc, pm, an, cdv, ct, osl, e, lk, _⟩ := F.ex
  unfold PySem.W.fnIn
  rw [lk]
section
variable {X : Cx} {S : Type} {F : FC X.K S} {U W : Type} {e a b : Expr} {te ta tb : TE} {G G1 G' : S → List Slot} {m m1 : SM S U} {arg : U → Arg} {tx : U → TapeV} {pos p0 : Pos} {r : Rp W} {f : TapeV → SM Unit W} {k : Nat} {g p : Addr} {fd : FuncData} {nm : Str} {ps : List Str}
theorem rtape_s {G : List Slot} {arg : Arg} {a : TapeV} (h : RdS G arg rTape a) : EntS G [arg] [.is (sh rTape) a] := .sh h .nil
/-- tape.f, a property -/
theorem ex_prop {pn : Str} {fm : U → SM Unit W} (tc : TapeCls X.K) (pr : Prp X.K (tapeC X.K) pn) (FO : FnOk X.prog X.w X.K X.mg X.base (L2.CX X.prog X.w) k (pgA X.K (tapeC X.K) pn) fd ps (SpP X.K 1 (fun u : TapeV => [.is (sh rTape) u]) r f)) (hb : Binds X.K fd ps []) (hr : Room (k + 1) X.A)
    (h : EO X F e te G G' arg m) (hx : ∀ a s, RdS (G' s) (arg a) rTape (tx a)) (hf : ∀ a, fm a = f (tx a) := by intro _; rfl) (hba : attributeBase e pn X.env (eval e X.env) = eval e X.env := by rfl) :
    EX X F (.Attribute e pn pos) (tPropSl (tapeC X.K) (SpP X.K 1 (fun u : TapeV => [.is (sh rTape) u]) r f) (fun _ _ _ => False) te) G G' r (bnd m fun a => nxc (lft (fm a))) :=
  ⟨pe_propSl h.pe tc.sc pr.at_ pr.get pr.tk pr.rc ((FnOk.raw FO hb .nil).imp fun vs H Q E q => by rw [List.append_nil]; exact q) hr (fun H s e s' z => by obtain ⟨_, _, _, _, _, _, _, _, _, _, _, _, w⟩ := z; exact w) hba, fun T t σ s H Q h0 q => h.go T t σ s H _ h0 (wp_mono (wp_bnd q) (fun a s1 q1 ts v H1 at1 av => by
    obtain ⟨A1, A2, at1⟩ := at1
    obtain ⟨v', e1, _, B, k1, _⟩ := rdS (j := 0) at1 av rfl (hx a s1)
    cases e1
    obtain ⟨p, dx, w, ev, hs, _⟩ := tape_slt k1
    subst ev
    rw [hf a] at q1
    exact ⟨p, dx, _, rfl, hs, run_sp at1 av rfl (rtape_s (hx a s1)) (wp_mono (wp_lft (wp_nxc (E' := fun _ _ => False) q1)) (fun b _ q2 v H' z => q2 v H' z) fun _ _ z => z)⟩) fun _ _ z => z)⟩
/-- len(tape) -/
theorem ex_tlen {fm : U → SM Unit Int} {f : TapeV → SM Unit Int} (mt : Mth X.K "__len__") (FO : FnOk X.prog X.w X.K X.mg X.base (L2.CX X.prog X.w) k (He.ma X.K (tapeC X.K) "__len__") fd ps (SpP X.K 1 (fun u : TapeV => [.is (sh rTape) u]) rInt f)) (hb : Binds X.K fd ps []) (hr : Room (k + 1) X.A)
    (h : EO X F e te G G' arg m) (hx : ∀ a s, RdS (G' s) (arg a) rTape (tx a)) (hg : Gl X "len") (hm : X.mg "len" = none) (hf : ∀ a, fm a = f (tx a) := by intro _; rfl) (hs : PySem.W.isStarred e = false := by rfl) :
    EX X F (.Call (.Name "len" p0) [e] [] pos) (tCB (rLenOwn (tapeC X.K) (SpP X.K 1 (fun u : TapeV => [.is (sh rTape) u]) rInt f) (fun _ _ _ => False)) (tCons te tNil)) G G' rInt (bnd m fun a => bnd (nxc (lft (fm a))) fun n => bnd (grd (0 ≤ n ∧ n < 2 ^ 63)) fun _ => ret n) :=
  ⟨pe_callB (call_lenOwn mt.at_ mt.fn ((FnOk.raw FO hb .nil).imp fun vs H Q E q => by rw [List.append_nil]; exact q) hr (passes_nx rfl)) hg hm PySem.boot_len (pa_cons h.pe pa_nil (star1 hs)) (he := star1 hs), fun T t σ s H Q h0 q => h.go T t σ s H _ h0 (wp_mono (wp_bnd q) (fun a s1 q1 ts v H1 at1 av => by
    obtain ⟨A1, A2, at1⟩ := at1
    obtain ⟨v', e1, _, B, k1, _⟩ := rdS (j := 0) at1 av rfl (hx a s1)
    cases e1
    obtain ⟨p, dx, w, ev, hs, _⟩ := tape_slt k1
    subst ev
    rw [hf a] at q1
    refine ⟨p, dx, _, rfl, hs, run_sp at1 av rfl (rtape_s (hx a s1)) (wp_mono (wp_lft (wp_nxc (E' := fun _ _ => False) (wp_bnd q1))) (fun n _ q2 v H' z => ?_) fun _ _ z => z)⟩
    obtain ⟨hn, q3⟩ := wp_grd (wp_bnd q2)
    obtain ⟨_, _, ek, _⟩ := top_rel z
    subst ek
    exact ⟨n, rfl, hn, q3 _ H' z⟩) fun _ _ z => z)⟩
/-- tape[i] -/
theorem ex_tix {mi : SM S Int} {fm : U → Int → SM Unit W} {f : TapeV × Int → SM Unit W} (mt : Mth X.K "__getitem__") (hfn : PySem.W.fnIn X.K (He.ma X.K (tapeC X.K) "__getitem__") = true) (FO : FnOk X.prog X.w X.K X.mg X.base (L2.CX X.prog X.w) k (He.ma X.K (tapeC X.K) "__getitem__") fd ps (SpP X.K 2 (fun u : TapeV × Int => [.is (sh rTape) u.1, .is rInt u.2]) r f)) (hb : Binds X.K fd ps []) (hr : Room (k + 1) X.A)
    (h1 : EO X F a ta G G1 arg m) (h2 : EX X F b tb G1 G' rInt mi) (hx : ∀ a s, RdS (G' s) (arg a) rTape (tx a)) (hf : ∀ a i, fm a i = f (tx a, i) := by intros; rfl) (hsl : ∀ o i, subscripted b true o i = runValue (.builtin "lifetime.subscript" ⟨[o, i], []⟩) := by intros; rfl) :
    EX X F (.Subscript a b pos) (tOp (rIxOwn (tapeC X.K) (SpP X.K 2 (fun u : TapeV × Int => [.is (sh rTape) u.1, .is rInt u.2]) r f) (fun _ _ _ => False)) ta tb) G G' r (bnd m fun a => bnd mi fun i => nxc (lft (fm a i))) :=
  ⟨pe_ixOwn mt.at_ mt.fn hfn ((FnOk.raw FO hb .nil).imp fun vs H Q E q => by rw [List.append_nil]; exact q) hr (passes_nx rfl) h1.pe h2.pe hsl, fun T t σ s H Q h0 q => by
    refine h1.go T t σ s H _ h0 (wp_mono (wp_bnd q) (fun a s1 q1 ts x H1 at1 av1 => ?_) fun _ _ z => z)
    refine h2.go _ _ σ s1 H1 _ at1 (wp_mono (wp_bnd q1) (fun i s2 q2 y H2 at2 => ?_) fun _ _ z => z)
    obtain ⟨A1, A2, at2⟩ := at2
    have at3 : AtP F ((tmps [arg a, .t (.is rInt i)]).reverse ++ T) ((ts ++ [y]).reverse ++ t) (G' s2) σ H2 A1 A2 := by
      rw [tmps_cons]
      simpa [tmps] using at2
    have av2 : ArgV σ [arg a, .t (.is rInt i)] (ts ++ [y]) [x, y] := argV_cons av1 (.t .nil)
    obtain ⟨v', e1, _, B, k1, _⟩ := rdS (j := 0) at3 av2 rfl (hx a s2)
    cases e1
    obtain ⟨p, dx, w, ev, hs, _⟩ := tape_slt k1
    subst ev
    rw [hf a i] at q2
    exact ⟨p, dx, _, rfl, hs, run_sp at3 av2 rfl (.sh (hx a s2) (.cp cp_int (.tc cp_int) .nil)) (wp_mono (wp_lft (wp_nxc (E' := fun _ _ => False) q2)) (fun b _ q2 v H' z => q2 v H' z) fun _ _ z => z)⟩⟩
end
end Td

set_option Elab.async false
set_option linter.all false
set_option maxRecDepth 100000
set_option maxHeartbeats 4000000
namespace Td
open PySem PySem.Spec PyProof.Rows L2 SlX

section
variable {K : PySem.W.Frag} {S : Type} {F : FC K S} {T : List Slot} {t : List V} {G : List Slot} {σ : L2.St} {H : Hp}
/-- the arguments used up, a new tuple of things that own nothing comes -/
theorem AtP.newT {L : List Arg} {ts vs : List V} {A1 A2 : List Addr} (h : AtP F ((tmps L).reverse ++ T) (ts.reverse ++ t) G σ H A1 A2) (av : ArgV σ L ts vs) {U : Type} {r : Rp U} {as : List U} {ws : List V} (hr : All3 (r.rel K (A1 ++ A2 ++ F.M0) H) ws as []) {p : Addr} (hp : H p = none) :
    At F (.is (rTupL r) as :: T) (.ref p :: t) G σ (upd H p (.tup ws)) := by
  have k : ∀ x o, H x = some o → upd H p (.tup ws) x = some o := fun x o e => by rw [upd_ne (ne_of_none e hp)]; exact e
  have at2 : AtP F ((tmps L).reverse ++ T) (ts.reverse ++ t) G σ (upd H p (.tup ws)) A1 A2 := by
    refine ⟨h.tmp.keep fun x o e _ => k x o e, h.loc.keep fun x o e _ => k x o e, ⟨h.good.nd, h.good.out, h.good.new, fun x hx => ?_, fun x o e z => k x o (h.good.stay x o e z), h.good.m0⟩⟩
    obtain ⟨o, e, z⟩ := h.good.has x hx
    exact ⟨o, k x o e, z⟩
  exact at2.fin av (r := rTupL r) ⟨p, ws, rfl, SqT.of upd_same, hr.imp fun v a B _ h => r.keep h fun x o e _ => k x o e⟩
end
section
variable {X : Cx} {S : Type} {F : FC X.K S} {U Z : Type} {r3 : Rp Z} {e : Expr} {te : TE} {G G' : S → List Slot} {m : SM S U} {arg : U → Arg} {pos p0 : Pos}
/-- tuple(xs) of a list -/
theorem ex_tuple {xs : U → List Z} (h : EO X F e te G G' arg m) (c : r3.Cp) (hx : ∀ a s, Rdd (G' s) (arg a) (rList r3) (xs a)) (hg : Gl X "tuple") (hm : X.mg "tuple" = none) (hs : PySem.W.isStarred e = false := by rfl) :
    EX X F (.Call (.Name "tuple" p0) [e] [] pos) (tCB (fun xs H Q => ∃ p ys, xs = [.ref p] ∧ ((SqL X.K H p ys ∧ ∀ l, H l = none → Q (.ref l) (upd H l (.tup ys))) ∨ (SqT X.K H p ys ∧ Q (.ref p) H))) (tCons te tNil)) G G' (rTupL r3) (bnd m fun a => ret (xs a)) :=
  ⟨pe_callTy call_tuple_of hg hm (by decide) (pa_cons h.pe pa_nil (star1 hs)) (he := star1 hs), go_call1 h.go (fun _ => stl_ret _) fun a s T t ts v σ H Q A1 A2 at1 av q => by
    obtain ⟨v', B, e1, p, vs, A, ev, hp, hA, eB⟩ := rddM (j := 0) at1 av rfl (hx a s)
    cases e1
    obtain ⟨_, q⟩ := q
    have eA := cp_all c hA
    subst eA
    exact ⟨p, vs, by rw [ev], .inl ⟨SqL.of hp, fun l hl => q _ _ (at1.newT av hA hl)⟩⟩⟩
end
/-! ### a tape made -/
def setExt (n : Int) : SM TS0 Unit := fun s => match s with
  | .new => .ok () (.half n)
  | _ => .stuck
def setKept (fs : List (Int × Int)) : SM TS0 Unit := fun s => match s with
  | .half n => .ok () (.full (n, fs))
  | _ => .stuck
section
variable {X : Cx} {F : FC X.K TS0} {N L R : Type} {G G1 : TS0 → List Slot} {GN : N → TS0 → List Slot} {GL : L → TS0 → List Slot} {r : Rp R} {pos p0 p1 : Pos} {rest : List Stmt} {tr : TS} {e : Expr} {te : TE} {x : Str} {w : V}
theorem bx_ext {me : SM TS0 Int} {out : SM TS0 (Fl N L R)} (tc : TapeCls X.K) (h : EX X F e te G G1 rInt me) (hG : ∀ s, (G1 s)[0]? = some (.pn w rSelf s)) (hset : ∀ s s', (G1 s).set 0 (.pn w rSelf s') = G1 s') (hb : BX X F rest tr G1 GN GL r out)
    (hN : X.N[0]? = some x := by rfl) (hv : Vis X.env.scope x := by first | exact Or.inl rfl | exact Or.inr (Or.inl rfl) | exact Or.inr (Or.inr rfl)) (hd : (x == ("__debug__" : Str)) = false := by decide) (hcd : (x == ("__classdict__" : Str)) = false := by decide)
    (hs : swapsWith e (some (.Attribute (.Name x p0) "extent" p1)) pos.line X.env = pure false := by rfl) :
    BX X F (.Assign [.Attribute (.Name x p0) "extent" p1] e pos :: rest) (tSeq (sSl X.K (tVar 0) te "extent") tr) G GN GL r (bnd me fun v => bnd (setExt v) fun _ => out) :=
  ⟨pss_cons (ps_sl (pe_var hN hv hd hcd) h.pe hs) hb.ps, fun T t σ s H D h0 q => by
    refine h.go T t σ s H _ h0 (wp_mono (wp_bnd q) (fun n s1 q1 v H1 at1 => ?_) fun e s z => z σ)
    obtain ⟨_, _, ek, _⟩ := top_rel at1
    subst ek
    have q2 := wp_bnd q1
    cases s1 with
    | half _ => exact q2.elim
    | full _ => exact q2.elim
    | new =>
      obtain ⟨A1, A2, at2⟩ := at1.pop
      obtain ⟨y, B, P1, P2, ey, hok, eA, back⟩ := at2.loc.at_ (hG .new)
      obtain ⟨ex, p, dx, ev, ne, ⟨h1, h2⟩, eB⟩ := hok
      subst ex ev eB
      refine ⟨.ref p, ey, p, tapeC X.K, dx, _, [], 0, rfl, .inl ⟨h1, rfl⟩, tc.sc, tc.s0, ?_⟩
      have z := at2.chg (g' := .pn (.ref p) rSelf (.half n)) (H' := slH H1 p (tapeC X.K) dx (putS 0 (.int n) [])) eA ey back (fun q hq => ?_) (fun q hq => ?_) (fun q hq => ?_) ?_
      · rw [hset] at z
        exact hb.go T t σ _ _ D z q2
      · simp only [List.mem_cons, List.not_mem_nil, or_false] at hq
        rcases hq with e | e
        · subst e; exact ⟨_, h1, rfl⟩
        · subst e; exact ⟨_, h2, rfl⟩
      · simp only [List.mem_cons, List.not_mem_nil, or_false, not_or] at hq
        exact slH_ne hq.1 hq.2
      · simp only [List.mem_cons, List.not_mem_nil, or_false] at hq
        rcases hq with e | e
        · subst e; exact ⟨_, upd_same, rfl⟩
        · subst e; exact ⟨.xd [], by unfold slH; rw [upd_ne (Ne.symm ne), upd_same], rfl⟩
      · exact ⟨rfl, p, dx, rfl, ne, ⟨upd_same, by unfold slH; rw [upd_ne (Ne.symm ne), upd_same]⟩, rfl⟩⟩
theorem bx_kept {me : SM TS0 (List (Int × Int))} {out : SM TS0 (Fl N L R)} (tc : TapeCls X.K) (h : EX X F e te G G1 rFiles me) (hG : ∀ s, (G1 s)[0]? = some (.pn w rSelf s)) (hset : ∀ s s', (G1 s).set 0 (.pn w rSelf s') = G1 s') (hb : BX X F rest tr G1 GN GL r out)
    (hN : X.N[0]? = some x := by rfl) (hv : Vis X.env.scope x := by first | exact Or.inl rfl | exact Or.inr (Or.inl rfl) | exact Or.inr (Or.inr rfl)) (hd : (x == ("__debug__" : Str)) = false := by decide) (hcd : (x == ("__classdict__" : Str)) = false := by decide)
    (hs : swapsWith e (some (.Attribute (.Name x p0) "kept" p1)) pos.line X.env = pure false := by rfl) :
    BX X F (.Assign [.Attribute (.Name x p0) "kept" p1] e pos :: rest) (tSeq (sSl X.K (tVar 0) te "kept") tr) G GN GL r (bnd me fun v => bnd (setKept v) fun _ => out) :=
  ⟨pss_cons (ps_sl (pe_var hN hv hd hcd) h.pe hs) hb.ps, fun T t σ s H D h0 q => by
    refine h.go T t σ s H _ h0 (wp_mono (wp_bnd q) (fun fs s1 q1 v H1 at1 => ?_) fun e s z => z σ)
    have q2 := wp_bnd q1
    cases s1 with
    | new => exact q2.elim
    | full _ => exact q2.elim
    | half n =>
      obtain ⟨A0, A2', at0⟩ := id at1
      obtain ⟨B0, A', eA0, ⟨v', ev', hf⟩, ht⟩ := AtS.cons_inv at0.tmp
      cases ev'
      have eB0 := cp_files hf
      subst eB0
      have hf2 : ∀ M, rFiles.rel X.K M H1 v fs [] := fun M => clo_files hf
      obtain ⟨A1, A2, at2⟩ := at1.pop
      obtain ⟨y, B, P1, P2, ey, hok, eA, back⟩ := at2.loc.at_ (hG (.half n))
      obtain ⟨ex, p, dx, ev, ne, ⟨h1, h2⟩, eB⟩ := hok
      subst ex ev eB
      have hout : ∀ q, q ∉ [p, dx] → slH H1 p (tapeC X.K) dx (putS 1 v [some (.int n)]) q = H1 q := fun q hq => by
        simp only [List.mem_cons, List.not_mem_nil, or_false, not_or] at hq
        exact slH_ne hq.1 hq.2
      refine ⟨.ref p, ey, p, tapeC X.K, dx, _, [some (.int n)], 1, rfl, .inr ⟨h1, h2⟩, tc.sc, tc.s1, ?_⟩
      have z := at2.chg (g' := .pn (.ref p) rSelf (.full (n, fs))) (H' := slH H1 p (tapeC X.K) dx (putS 1 v [some (.int n)])) eA ey back (fun q hq => ?_) hout (fun q hq => ?_) ?_
      · rw [hset] at z
        exact hb.go T t σ _ _ D z q2
      · simp only [List.mem_cons, List.not_mem_nil, or_false] at hq
        rcases hq with e | e
        · subst e; exact ⟨_, h1, rfl⟩
        · subst e; exact ⟨_, h2, rfl⟩
      · simp only [List.mem_cons, List.not_mem_nil, or_false] at hq
        rcases hq with e | e
        · subst e; exact ⟨_, upd_same, rfl⟩
        · subst e; exact ⟨.xd [], by unfold slH; rw [upd_ne (Ne.symm ne), upd_same], rfl⟩
      · refine ⟨rfl, p, dx, rfl, ne, ⟨v, upd_same, by unfold slH; rw [upd_ne (Ne.symm ne), upd_same], ?_⟩, rfl⟩
        refine rFiles.keep (hf2 _) fun q o e hq => ?_
        rw [hout q fun z => ?_]
        · exact e
        · rcases hq with hq | hq | hq
          · exact hq (by rw [eA]; simp only [List.mem_append]; grind)
          · cases hq
          · simp only [List.mem_cons, List.not_mem_nil, or_false] at z
            rcases z with z | z
            · subst z; rw [h1] at e; cases e; cases hq
            · subst z; rw [h2] at e; cases e; cases hq⟩
end
end Td

set_option Elab.async false
set_option linter.all false
set_option maxRecDepth 100000
set_option maxHeartbeats 4000000
namespace Td
open PySem PySem.Spec PyProof.Rows L2 SlX StX

section
variable {P : Program} {w : World} {K : PySem.W.Frag} {mg : Str → Option Value} {base : Heap} {x qual : Str} {params : Arguments} {body : List Stmt} {scope : Scope} {f : Addr} {fd : FuncData} {N ps : List Str} {k : Nat}
/-- a def whose first argument is in/out and which comes to its end -/
theorem fn_ioP {S U : Type} {rio : Rp S} {Pr : U → List Slot} {fm : U → SM S Unit} (FD : FunD K x qual params body scope [] [] f fd) (Sc : FnScope N ps scope) (out : U → SM S (Fl Unit Empty Unit)) (hfm : ∀ u, fm u = runP (out u))
    (hbody : ∀ (u : U) (v0 : V) (cdv : Value) (A : Around) (outer : List Env) (s : Shared) (H : Hp) (E : XK), Room k (A.deeper (envOfC qual scope s.heap.objs.size f cdv)) →
      ∀ F : FC K S, F.io = (fun s => .pn v0 rio s :: uns (N.length - 1)) → F.W = (fun c d _ H' => E c d H') → ∃ t, BX (cxOf (L2.CX P w) P w K mg base N qual scope f cdv A outer s H E) F body t (fun s => .pn v0 rio s :: (Pr u ++ uns (N.length - ps.length))) (fun (_ : Unit) s => .pn v0 rio s :: uns (N.length - 1)) (fun (e : Empty) _ => e.elim) rNon (out u)) :
    FnOk P w K mg base (L2.CX P w) (k + 1) f fd ps (SpI K ps.length rio Pr rNon fm) := by
  refine FD.ok Sc (fun vs H Q E h => ?_) (fun cdv A outer s H vs Q E hr h => ?_)
  · obtain ⟨u, _, _, _, h, _⟩ := h
    exact h
  · obtain ⟨u, s0, I, M0, hl, at0, q⟩ := h
    obtain ⟨t, hB⟩ := hbody u (vs.headD .non) cdv A outer s H E hr ⟨H, I, M0, fun s => .pn (vs.headD .non) rio s :: uns (N.length - 1), fun c d _ H' => E c d H'⟩ rfl rfl
    refine ⟨t, hB.ps, hB.go [] [] (start N vs) s0 H _ ?_ ?_⟩
    · have z := at_start (N := N) at0
      rw [hl] at z
      exact z.re rfl rfl rfl
    · rw [hfm u] at q
      refine wp_mono (wp_bnd q) (fun fl s1 q1 => ?_) (fun e s1 q1 σ d v H' h1 hd => q1 d v H' ((at_exitIo h1).re rfl rfl rfl) hd)
      cases fl with
      | nx n => exact fun σ' H' h1 => q1 .non H' ((at_exitIo (h1.push (r := rNon) (a := ()) (v := V.non) fun _ => ⟨rfl, rfl⟩)).re rfl rfl rfl)
      | bk n => exact n.elim
      | ct n => exact n.elim
      | rt b => exact fun v σ' H' h1 => q1 v H' ((at_exitIo h1).re rfl rfl rfl)
end
/-! ### a new tape -/
def tapeM {S : Type} : TS0 → SM S TapeV
  | .full a => ret a
  | _ => stk
section
variable {K : PySem.W.Frag} {S : Type} {F : FC K S} {T : List Slot} {t : List V} {G : List Slot} {σ : L2.St} {H : Hp}
theorem AtP.alloc {A1 A2 : List Addr} (h : AtP F T t G σ H A1 A2) {x dx : Addr} (hx : H x = none) (hd : H dx = none) (ne : dx ≠ x) :
    AtP F T t (.is rSelf .new :: G) (some (.ref x) :: σ) (upd (upd H dx (.own x)) x (.ins (tapeC K) dx [])) A1 ([x, dx] ++ A2) ∧ AtS K (A1 ++ ([x, dx] ++ A2) ++ F.M0) (upd (upd H dx (.own x)) x (.ins (tapeC K) dx [])) G σ A2 ∧ rSelf.rel K (A1 ++ ([x, dx] ++ A2) ++ F.M0) (upd (upd H dx (.own x)) x (.ins (tapeC K) dx [])) (.ref x) .new [x, dx] ∧
      (∀ p o, H p = some o → upd (upd H dx (.own x)) x (.ins (tapeC K) dx []) p = some o) ∧ ∀ p, p ∈ A1 ++ ([x, dx] ++ A2) ++ F.M0 → p ∈ A1 ++ A2 ++ F.M0 ∨ H p = none := by
  have k : ∀ p o, H p = some o → upd (upd H dx (.own x)) x (.ins (tapeC K) dx []) p = some o := fun p o e => by
    rw [upd_ne (ne_of_none e hx), upd_ne (ne_of_none e hd)]; exact e
  have hM : ∀ p, p ∈ A1 ++ ([x, dx] ++ A2) ++ F.M0 → p ∈ A1 ++ A2 ++ F.M0 ∨ H p = none := fun p hp => by
    by_cases e1 : p = x
    · subst e1; exact .inr hx
    · by_cases e2 : p = dx
      · subst e2; exact .inr hd
      · left
        simp only [List.mem_append, List.mem_cons, List.not_mem_nil, or_false] at *
        grind
  have rel : ∀ M, rSelf.rel K M (upd (upd H dx (.own x)) x (.ins (tapeC K) dx [])) (.ref x) .new [x, dx] := fun M => ⟨x, dx, rfl, Ne.symm ne, ⟨upd_same, by rw [upd_ne ne, upd_same]⟩, rfl⟩
  have loc := (h.loc.grow hM).keep fun p o e _ => k p o e
  have nA : ∀ p, H p = none → p ∉ A1 ++ A2 ++ F.M0 := fun p e z => by
    obtain ⟨o, q, _⟩ := h.m_trk p z
    rw [e] at q; cases q
  have nx := nA x hx
  have ndx := nA dx hd
  refine ⟨⟨(h.tmp.grow hM).keep fun p o e _ => k p o e, .cons ⟨_, rfl, rel _⟩ loc, ⟨?_, fun p hp => ?_, fun p hp => ?_, fun p hp => ?_, fun p o e z => k p o (h.good.stay p o e z), h.good.m0⟩⟩, loc, rel _, k, hM⟩
  · have := h.good.nd
    simp only [List.nodup_append, List.mem_append, List.mem_cons, List.not_mem_nil, or_false, List.nodup_cons, List.nodup_nil] at *
    grind
  · have := h.good.out p
    simp only [List.mem_append, List.mem_cons, List.not_mem_nil, or_false] at *
    grind
  · by_cases e1 : p = x
    · subst e1; exact .inl (h.good.fresh hx).1
    · by_cases e2 : p = dx
      · subst e2; exact .inl (h.good.fresh hd).1
      · exact h.good.new p (by simp only [List.mem_append, List.mem_cons, List.not_mem_nil, or_false] at *; grind)
  · obtain ⟨o, e, z⟩ := h.good.has p hp
    exact ⟨o, k p o e, z⟩
theorem go_make {U A : Type} {n : Nat} {Pr : U → List Slot} {f : U → SM TS0 Unit} {fm : A → SM TS0 Unit} {E : XK} {ta : TA} {G G' : S → List Slot} {LA : A → List Arg} {mA : SM S A} (u : A → U) (hf : ∀ a, fm a = f (u a)) (h : GA F ta G G' LA mA) (hn : ∀ a, (LA a).length + 1 = n)
    (he : ∀ a s, EntS (G' s) (LA a) (Pr (u a))) (hW : ∀ c d σ H, F.W c d σ H → E c d H) (hw : ∀ s, Weak (G' s) (F.io s)) :
    GE F (tMakeR (tapeC K) (SpI K n rSelf Pr rNon f) E ta) G G' (sh rTape) (bnd mA fun a => bnd (subM (fm a) TS0.new) fun p => tapeM p.2) := by
  intro T t σ s H Q h0 q
  have ef : fm = fun a => f (u a) := funext hf
  subst ef
  refine h T t σ s H _ h0 (wp_mono (wp_bnd q) (fun a s1 q1 ts vs H1 at1 av => ?_) fun _ _ z => z)
  have q2 := wp_subM (wp_bnd q1)
  obtain ⟨A1, A2, at1⟩ := at1
  intro x dx hx hd ne
  have hent := entS_at at1 av (he a s1)
  obtain ⟨at2, tail, rel, k, hM⟩ := at1.alloc hx hd ne
  refine run_ioS clo_self rel tail at2 (argV_len av).2 (by rw [(argV_len av).1, hn]) ((hent.grow hM).keep fun p o e _ => k p o e) (wp_mono q2 (fun b s' q3 v H' hz => ?_) (fun e s' q3 d v H' hz hd => ?_))
  · obtain ⟨_, _, hz0⟩ := id hz
    obtain ⟨_, _, _, _, ht0⟩ := AtS.cons_inv hz0.tmp
    obtain ⟨_, _, _, ⟨v', ev, eb, _⟩, _⟩ := AtS.cons_inv ht0
    cases ev
    subst eb
    refine ⟨rfl, ?_⟩
    cases s' with
    | new => exact q3.elim
    | half _ => exact q3.elim
    | full a =>
      have z1 : At F (.is rTape a :: .is rNon b :: T) (.ref x :: .non :: t) (G' s1) σ H' := by
        obtain ⟨C1, C2, hz⟩ := hz
        obtain ⟨B, A', eA, ⟨v', ev, hr⟩, ht⟩ := AtS.cons_inv hz.tmp
        subst eA
        exact ⟨_, C2, .cons ⟨v', ev, hr⟩ ht, hz.loc, hz.good⟩
      exact q3 _ H' (At.dropU (T1 := [_]) (t1 := [_]) rfl z1).freeze
  · refine hW _ _ σ _ (q3 d v H' ?_ hd)
    have z2 := hz.weak (hw s1)
    exact At.dropM (T0 := [_]) (t0 := [v]) (T := []) (t := []) rfl (T1 := T) (t1 := t) (by obtain ⟨B1, B2, hz⟩ := h0; have := hz.tmp.length; simpa using this) (by simpa using z2)
end
section
variable {X : Cx} {S : Type} {F : FC X.K S} {U A : Type} {n k : Nat} {Pr : U → List Slot} {f : U → SM TS0 Unit} {fm : A → SM TS0 Unit} {E : XK} {ta : TA} {G G' : S → List Slot} {LA : A → List Arg} {mA : SM S A} {CX : CXT} {fA : Addr} {fd : FuncData} {ps : List Str} {x : Str} {p pos : Pos} {e : Expr} {es : List Expr}
theorem ex_make (u : A → U) (M : Mk X.K (tapeC X.K) fA) (FO : FnOk X.prog X.w X.K X.mg X.base CX k fA fd ps (SpI X.K n rSelf Pr rNon f)) (hr : Room (k + 1) X.A) (hg : Gl X x) (hm : X.mg x = some (.ref (tapeC X.K))) (hb : Binds X.K fd ps []) (hx : Passes CX X E)
    (h : EA X F (e :: es) ta G G' LA mA) (hn : ∀ a, (LA a).length + 1 = n) (he : ∀ a s, EntS (G' s) (LA a) (Pr (u a))) (hW : ∀ c d σ H, F.W c d σ H → E c d H) (hw : ∀ s, Weak (G' s) (F.io s)) (hf : ∀ a, fm a = f (u a) := by intro _; rfl)
    (hst : PySem.W.isStarred e = false := by rfl) (hpl : (backTo pos (starEach es X.env)).any (·.1) = false := by rfl) (hdb : (x == ("__debug__" : Str)) = false := by decide) :
    EX X F (.Call (.Name x p) (e :: es) [] pos) (tMakeR (tapeC X.K) (SpI X.K n rSelf Pr rNon f) E ta) G G' (sh rTape) (bnd mA fun a => bnd (subM (fm a) TS0.new) fun p => tapeM p.2) :=
  ⟨pe_makeR M ((FnOk.raw FO hb .nil).imp fun vs H Q E q => by rw [List.append_nil]; exact q) hr hg hm hx h.pa (hdb := hdb) (he := star1 hst) (hpl := hpl), go_make u hf h.go hn he hW hw⟩
end
end Td

set_option Elab.async false
set_option linter.all false
set_option maxRecDepth 100000
set_option maxHeartbeats 4000000
namespace Td
open PySem PySem.Spec PyProof.Rows L2 SlX StX

/-! ### defs that are called where no repr is under way -/
structure FnG (P : Program) (w : World) (K : PySem.W.Frag) (mg : Str → Option Value) (base : Heap) (k : Nat) (f : Addr) (fd : FuncData) (ps : List Str) (sp : Sp) : Prop where
  len : ∀ vs H Q E, sp vs H Q E → vs.length = ps.length
  run : ∀ (A : Around) (outer : List Env) (s : Shared) (H : Hp) (args : Args) (us : List Value) (vs : List V) (Q : VK) (E : XK), Room k A → A.guards = some [] → Env0 P w K mg base A outer s H → BindsTo s fd args (ps.zip us) → Vals vs us → sp vs H Q E →
    codeAny (model P w) A (.call (.ref f) args) (CR (L2.CX P w) outer P w H s Q E) s
section
variable {P : Program} {w : World} {K : PySem.W.Frag} {mg : Str → Option Value} {base : Heap} {x qual : Str} {params : Arguments} {body : List Stmt} {scope : Scope} {f : Addr} {fd : FuncData} {N ps : List Str} {k : Nat} {sp : Sp}
theorem FnG.of (FD : FunD K x qual params body scope [] [] f fd) (Sc : FnScope N ps scope) (len : ∀ vs H Q E, sp vs H Q E → vs.length = ps.length)
    (hbody : ∀ (cdv : Value) (A : Around) (outer : List Env) (s : Shared) (H : Hp) (vs : List V) (Q : VK) (E : XK), Room k (A.deeper (envOfC qual scope s.heap.objs.size f cdv)) → A.guards = some [] → sp vs H Q E →
      ∃ t, PSs (cxOf (L2.CX P w) P w K mg base N qual scope f cdv A outer s H E) body t ∧ t { nx := fun _ H' => Q .non H', rt := Q } (start N vs) H) : FnG P w K mg base (k + 1) f fd ps sp := by
  obtain ⟨oc, od, dV, kV, doc, pm, an, cdv, ct, osl, efd, lk, hcd, _, _⟩ := FD.ex
  subst efd
  refine ⟨len, fun A outer s H args us vs Q E hr hgd e0 hb r hsp => ?_⟩
  have kept : ∀ b o, base.get? b = some o → s.heap.get? b = some o := fun b o e => (e0.bs b o e).1
  have KX : K.In s.heap := e0.mod.kin.keeps kept
  have kinds : ∀ y ∈ ps.zip us, scope.names.lookup y.1 = some .local ∨ (scope.names.lookup y.1 = some .cell ∧ ((cellsFrom (s.heap.objs.size + 1) scope.names []).lookup y.1).isSome = true) := fun y hy =>
    (Sc.par y.1 (List.of_mem_zip (show (y.1, y.2) ∈ ps.zip us from hy)).1).imp id fun q => ⟨q, PySem.W.cellsFrom_some _ _ _ (.inl q)⟩
  refine codeAny_call_function hr.depth (KX _ _ lk) rfl Sc.co Sc.gen rfl (PySem.W.codeRec_of KX hcd) (hb _ _ _ _ ?_)
  refine wpAny_newFunctionEnv_cells Sc.kind kinds fun env he s1 x1 => ?_
  subst he
  refine ⟨(e0.mod.nolimit.keeps kept).keeps x1.toInCall.keep, codeAny_func ?_⟩
  obtain ⟨t, ht, hq⟩ := hbody cdv A outer s H vs Q E (hr.deeper _) hgd hsp
  refine wpAny_mono (ht.run [] s1 (start N vs) H _ (inv_start Sc hr.hd e0 (len _ _ _ _ hsp) r x1) hq) (fun fl s' hs => ?_) fun e s' hs => hs
  cases fl with
  | next =>
    obtain ⟨σ', H', J, q⟩ := hs
    exact ⟨V.non, H', J.os, J.bare, J.base, J.hok, rfl, q⟩
  | ret u =>
    obtain ⟨v, σ', H', J, rv, q⟩ := hs
    exact ⟨v, H', J.os, J.bare, J.base, J.hok, rv, q⟩
  | brk => obtain ⟨_, _, _, q⟩ := hs; exact q.elim
  | cont => obtain ⟨_, _, _, q⟩ := hs; exact q.elim
theorem fnG_pure {U W : Type} {Ps : U → List Slot} {r : Rp W} {fm : U → SM Unit W} (FD : FunD K x qual params body scope [] [] f fd) (Sc : FnScope N ps scope) (out : U → SM Unit (Fl Empty Empty W)) (hfm : ∀ u, fm u = runB (out u))
    (hbody : ∀ (u : U) (cdv : Value) (A : Around) (outer : List Env) (s : Shared) (H : Hp) (E : XK), Room k (A.deeper (envOfC qual scope s.heap.objs.size f cdv)) → A.guards = some [] →
      ∀ F : FC K Unit, F.io = (fun _ => uns N.length) → F.W = (fun c d _ H' => E c d H') → ∃ t, BX (cxOf (L2.CX P w) P w K mg base N qual scope f cdv A outer s H E) F body t (fun _ => Ps u ++ uns (N.length - ps.length)) (fun (e : Empty) _ => e.elim) (fun (e : Empty) _ => e.elim) r (out u)) :
    FnG P w K mg base (k + 1) f fd ps (SpP K ps.length Ps r fm) := by
  refine FnG.of FD Sc (fun vs H Q E h => ?_) (fun cdv A outer s H vs Q E hr hgd h => ?_)
  · obtain ⟨u, _, _, _, h, _⟩ := h
    exact h
  · obtain ⟨u, s0, I, M0, hl, at0, q⟩ := h
    obtain ⟨t, hB⟩ := hbody u cdv A outer s H E hr hgd ⟨H, I, M0, fun _ => uns N.length, fun c d _ H' => E c d H'⟩ rfl rfl
    refine ⟨t, hB.ps, hB.go [] [] (start N vs) s0 H _ ?_ ?_⟩
    · have z := at_start (N := N) at0
      rw [hl] at z
      exact z.re rfl rfl rfl
    · rw [hfm u] at q
      refine wp_mono (wp_bnd q) (fun fl s1 q1 => ?_) (fun e s1 q1 σ d v H' h1 hd => q1 d v H' ((at_exit h1).re rfl rfl rfl) hd)
      cases fl with
      | nx n => exact n.elim
      | bk n => exact n.elim
      | ct n => exact n.elim
      | rt b => exact fun v σ' H' h1 => q1 v H' ((at_exit h1).re rfl rfl rfl)
theorem fnG_io {S U W : Type} {rio : Rp S} {Pr : U → List Slot} {r : Rp W} {fm : U → SM S W} (FD : FunD K x qual params body scope [] [] f fd) (Sc : FnScope N ps scope) (out : U → SM S (Fl Empty Empty W)) (hfm : ∀ u, fm u = runB (out u))
    (hbody : ∀ (u : U) (v0 : V) (cdv : Value) (A : Around) (outer : List Env) (s : Shared) (H : Hp) (E : XK), Room k (A.deeper (envOfC qual scope s.heap.objs.size f cdv)) → A.guards = some [] →
      ∀ F : FC K S, F.io = (fun s => .pn v0 rio s :: uns (N.length - 1)) → F.W = (fun c d _ H' => E c d H') → ∃ t, BX (cxOf (L2.CX P w) P w K mg base N qual scope f cdv A outer s H E) F body t (fun s => .pn v0 rio s :: (Pr u ++ uns (N.length - ps.length))) (fun (e : Empty) _ => e.elim) (fun (e : Empty) _ => e.elim) r (out u)) :
    FnG P w K mg base (k + 1) f fd ps (SpI K ps.length rio Pr r fm) := by
  refine FnG.of FD Sc (fun vs H Q E h => ?_) (fun cdv A outer s H vs Q E hr hgd h => ?_)
  · obtain ⟨u, _, _, _, h, _⟩ := h
    exact h
  · obtain ⟨u, s0, I, M0, hl, at0, q⟩ := h
    obtain ⟨t, hB⟩ := hbody u (vs.headD .non) cdv A outer s H E hr hgd ⟨H, I, M0, fun s => .pn (vs.headD .non) rio s :: uns (N.length - 1), fun c d _ H' => E c d H'⟩ rfl rfl
    refine ⟨t, hB.ps, hB.go [] [] (start N vs) s0 H _ ?_ ?_⟩
    · have z := at_start (N := N) at0
      rw [hl] at z
      exact z.re rfl rfl rfl
    · rw [hfm u] at q
      refine wp_mono (wp_bnd q) (fun fl s1 q1 => ?_) (fun e s1 q1 σ d v H' h1 hd => q1 d v H' ((at_exitIo h1).re rfl rfl rfl) hd)
      cases fl with
      | nx n => exact n.elim
      | bk n => exact n.elim
      | ct n => exact n.elim
      | rt b => exact fun v σ' H' h1 => q1 v H' ((at_exitIo h1).re rfl rfl rfl)
end
section
variable {X : Cx} {k : Nat} {f : Addr} {fd : FuncData} {ps : List Str} {sp : Sp} {E : XK} {x : Str} {p pos : Pos} {e : Expr} {es : List Expr} {t : TA}
theorem pe_callG (FO : FnG X.prog X.w X.K X.mg X.base k f fd ps sp) (hr : Room k X.A) (hgd : X.A.guards = some []) (hg : Gl X x) (hm : X.mg x = some (.ref f)) (hk : PySem.W.keepIn X.K (.ref f) = true) (hb : Binds X.K fd ps []) (hx : Passes (L2.CX X.prog X.w) X E)
    (ha : PA X (e :: es) t) (hdb : (x == ("__debug__" : Str)) = false := by decide) (hst : starEach (e :: es) X.env = (false, eval e X.env) :: starEach es X.env := by rfl) (hpl : (backTo pos (starEach es X.env)).any (·.1) = false := by rfl) :
    PE X (.Call (.Name x p) (e :: es) [] pos) (tCall sp [] E t) := by
  refine ⟨fun pins s σ H Q I h => wpAny_Call_Name_kw (ld_glob I hg hm (PySem.W.callWith_K (h₀ := X.base) I.ok.mod.kin hk (thn (ha.run pos pins s σ H _ I h) fun us s1 ⟨vs, H1, I1, r, q⟩ => ⟨I1.kIn, ?_⟩) hst hpl) hdb)⟩
  have q : sp vs H1 Q E := by
    have z : sp (vs ++ []) H1 Q E := q
    rwa [List.append_nil] at z
  have hl : (us ++ ([] : List Value)).length = ps.length := by rw [List.append_nil, ← r.length]; exact FO.len _ _ _ _ q
  have hb2 := hb s1 us I1.kIn hl
  rw [List.append_nil] at hb2
  refine wpAny_call (codeAny_mono (FO.run X.A X.stack s1 H1 ⟨us, []⟩ us vs Q E hr hgd I1.env0 hb2 r q) fun z s' hq => ?_)
  cases z with
  | error e => exact hx pins σ H1 s1 e s' I1 hq
  | ok fl =>
    cases fl with
    | ret u => exact I1.after hq
    | next => exact hq.elim
    | brk => exact hq.elim
    | cont => exact hq.elim
end
section
variable {X : Cx} {S S' : Type} {F : FC X.K S} {U W A : Type} {n k : Nat} {r : Rp W} {E : XK} {ta : TA} {G G' : S → List Slot} {LA : A → List Arg} {mA : SM S A} {fA : Addr} {fd : FuncData} {ps : List Str} {x : Str} {p pos : Pos} {e : Expr} {es : List Expr}
theorem ex_callG {Ps : U → List Slot} {f : U → SM Unit W} {fm : A → SM Unit W} (hgd : X.A.guards = some []) (u : A → U) (FO : FnG X.prog X.w X.K X.mg X.base k fA fd ps (SpP X.K n Ps r f)) (hr : Room k X.A) (hg : Gl X x) (hm : X.mg x = some (.ref fA)) (hk : PySem.W.keepIn X.K (.ref fA) = true) (hb : Binds X.K fd ps []) (hx : Passes (L2.CX X.prog X.w) X E)
    (h : EA X F (e :: es) ta G G' LA mA) (hn : ∀ a, (LA a).length = n) (he : (r.Clo ∧ ∀ a s, Ent (G' s) (LA a) (Ps (u a))) ∨ ∀ a s, EntS (G' s) (LA a) (Ps (u a))) (hW : ∀ c d σ H, F.W c d σ H → E c d H) (hw : ∀ s, Weak (G' s) (F.io s)) (hf : ∀ a, fm a = f (u a) := by intro _; rfl)
    (hst : PySem.W.isStarred e = false := by rfl) (hpl : (backTo pos (starEach es X.env)).any (·.1) = false := by rfl) (hdb : (x == ("__debug__" : Str)) = false := by decide) :
    EX X F (.Call (.Name x p) (e :: es) [] pos) (tCall (SpP X.K n Ps r f) [] E ta) G G' r (bnd mA fun a => lft (fm a)) :=
  ⟨pe_callG FO hr hgd hg hm hk hb hx h.pa (hdb := hdb) (hst := star1 hst) (hpl := hpl), go_call u hf h.go hn he hW hw⟩
theorem ex_callIoG {rio : Rp S} {Pr : U → List Slot} {f : U → SM S W} {fm : A → SM S W} {w : V} (hgd : X.A.guards = some []) (j : Nat) (u : A → U) (FO : FnG X.prog X.w X.K X.mg X.base k fA fd ps (SpI X.K n rio Pr r f)) (hr : Room k X.A) (hg : Gl X x) (hm : X.mg x = some (.ref fA)) (hk : PySem.W.keepIn X.K (.ref fA) = true) (hb : Binds X.K fd ps []) (hx : Passes (L2.CX X.prog X.w) X E)
    (cio : rio.Clo) (h : EA X F (e :: es) ta G G' (fun a => .v j :: LA a) mA) (hn : ∀ a, (LA a).length + 1 = n) (hG : ∀ s, (G' s)[j]? = some (.pn w rio s)) (hS : ∀ s s', (G' s).set j (.pn w rio s') = G' s')
    (he : ∀ a s, EntS (G' s) (LA a) (Pr (u a))) (hW : ∀ c d σ H, F.W c d σ H → E c d H) (hw : ∀ s, Weak (G' s) (F.io s)) (hf : ∀ a, fm a = f (u a) := by intro _; rfl)
    (hst : PySem.W.isStarred e = false := by rfl) (hpl : (backTo pos (starEach es X.env)).any (·.1) = false := by rfl) (hdb : (x == ("__debug__" : Str)) = false := by decide) :
    EX X F (.Call (.Name x p) (e :: es) [] pos) (tCall (SpI X.K n rio Pr r f) [] E ta) G G' r (bnd mA fm) :=
  ⟨pe_callG FO hr hgd hg hm hk hb hx h.pa (hdb := hdb) (hst := star1 hst) (hpl := hpl), go_callIo j u hf cio h.go hn hG hS he hW hw⟩
theorem ex_callIoTG {rio : Rp S'} {Pr : U → List Slot} {f : U → SM S' W} {fm : A → SM S' W} {sx : A → S'} (hgd : X.A.guards = some []) (u : A → U) (FO : FnG X.prog X.w X.K X.mg X.base k fA fd ps (SpI X.K n rio Pr r f)) (hr : Room k X.A) (hg : Gl X x) (hm : X.mg x = some (.ref fA)) (hk : PySem.W.keepIn X.K (.ref fA) = true) (hb : Binds X.K fd ps []) (hx : Passes (L2.CX X.prog X.w) X E)
    (cio : rio.Clo) (h : EA X F (e :: es) ta G G' LA mA) (hn : ∀ a, (LA a).length = n)
    (he : ∀ a s, EntS (G' s) (LA a).tail (Pr (u a))) (hW : ∀ c d σ H, F.W c d σ H → E c d H) (hw : ∀ s, Weak (G' s) (F.io s)) (hL : ∀ a, LA a = .t (.is rio (sx a)) :: (LA a).tail := by intro _; rfl) (hf : ∀ a, fm a = f (u a) := by intro _; rfl)
    (hst : PySem.W.isStarred e = false := by rfl) (hpl : (backTo pos (starEach es X.env)).any (·.1) = false := by rfl) (hdb : (x == ("__debug__" : Str)) = false := by decide) :
    EX X F (.Call (.Name x p) (e :: es) [] pos) (tCall (SpI X.K n rio Pr r f) [] E ta) G G' r (bnd mA fun a => bnd (subM (fm a) (sx a)) fun p => ret p.1) :=
  ⟨pe_callG FO hr hgd hg hm hk hb hx h.pa (hdb := hdb) (hst := star1 hst) (hpl := hpl), go_callIoT u hf cio h.go hL hn he hW hw⟩
end
/-! ### repr -/
def reprM {S : Type} (d : PyData) : SM S Str := bnd (grd (d.showable = true ∧ d.hasDict = false ∧ d.depth ≤ 60 ∧ d.shown.length ≤ sizeLine)) fun _ => ret d.shown
theorem call_reprD {X : Cx} (hgd : X.A.guards = some []) (hu : X.A.units + 64 < cLine) : CallR X (.builtin "repr") (fun xs H Q => ∃ v d, xs = [v] ∧ Dp X.K H v d ∧ (d.showable = true ∧ d.hasDict = false ∧ d.depth ≤ 60 ∧ d.shown.length ≤ sizeLine) ∧ Q (.str d.shown) H) := by
  intro pins s σ H xs us Q I r h
  obtain ⟨v, d, exs, hd, ⟨h1, h2, h3, h4⟩, q⟩ := h
  subst exs
  obtain ⟨u, eu, ru⟩ := Vals.one r
  subst eu
  have big : ∀ a, v = .ref a → wpAny (model X.prog X.w) X.A (call (.builtin "repr") [u]) (EP X pins σ Q) X.xe s := fun a e => by
    subst e
    cases (show u = Value.ref a from ru)
    obtain ⟨as, rd⟩ := Dp.reads I d _ _ hd ru
    exact repr_of_reads' rd h1 (PyData.noDict_hsm h2) hgd (by omega) (fun _ _ e => e) (fun h' tk tk' hk => ⟨.str d.shown, H, I.kept hk, ⟨_, rfl⟩, q⟩) h4
  cases hd with
  | non =>
    cases (show u = Value.none from ru)
    exact PySem.P.repr_of_none ⟨.str _, H, I.tok _, ⟨_, rfl⟩, by simpa only [PyData.shown] using q⟩
  | bl b =>
    cases (show u = Value.bool b from ru)
    exact PySem.P.repr_of_bool ⟨.str _, H, I.tok _, ⟨_, rfl⟩, by simpa only [PyData.shown] using q⟩
  | int i =>
    obtain ⟨tk, e⟩ := (show ∃ t, u = Value.int i t from ru)
    subst e
    exact PySem.P.repr_of_int (of_decide_eq_true (by simpa only [PyData.showable] using h1)) ⟨.str _, H, I.tok _, ⟨_, rfl⟩, by simpa only [PyData.shown] using q⟩
  | str x =>
    obtain ⟨tk, e⟩ := (show ∃ t, u = Value.str x t from ru)
    subst e
    exact PySem.P.repr_of_str ⟨.str _, H, I.tok _, ⟨_, rfl⟩, by simpa only [PyData.shown] using q⟩ (by simpa only [PyData.shown] using h4)
  | lst => exact big _ rfl
  | tup => exact big _ rfl
section
variable {X : Cx} {S : Type} {F : FC X.K S} {U : Type} {e : Expr} {te : TE} {G G' : S → List Slot} {m : SM S U} {arg : U → Arg} {pos p0 : Pos} {da : U → PyData}
theorem ex_repr (hgd : X.A.guards = some []) (hu : X.A.units + 64 < cLine) (h : EO X F e te G G' arg m) (hx : ∀ a s, RdE (G' s) (arg a) (da a)) (hg : Gl X "repr") (hm : X.mg "repr" = none) (hs : PySem.W.isStarred e = false := by rfl) :
    EX X F (.Call (.Name "repr" p0) [e] [] pos) (tCB (fun xs H Q => ∃ v d, xs = [v] ∧ Dp X.K H v d ∧ (d.showable = true ∧ d.hasDict = false ∧ d.depth ≤ 60 ∧ d.shown.length ≤ sizeLine) ∧ Q (.str d.shown) H) (tCons te tNil)) G G' rStr (bnd m fun a => reprM (da a)) :=
  ex_callB1 (call_reprD hgd hu) hg hm (by decide) h (go_call1 h.go (fun _ => stl_bnd stl_grd fun _ => stl_ret _) fun a s T t ts v σ H Q A1 A2 at1 av q => by
    obtain ⟨v', ev, k1⟩ := rdE (j := 0) at1 av rfl (hx a s)
    cases ev
    obtain ⟨hc, q⟩ := wp_grd (wp_bnd q)
    exact ⟨v, da a, rfl, k1, hc, q.2 _ H (at1.fin av ⟨rfl, rfl⟩)⟩) hs
end
end Td

set_option Elab.async false
set_option linter.all false
set_option maxRecDepth 100000
set_option maxHeartbeats 4000000
namespace Td
open PySem PySem.Spec PyProof.Rows L2 SlX StX

/-! ### list(range(..)) -/
instance decRg (a b : Int) : Decidable (RgOk a b) := by unfold RgOk; infer_instance
theorem rg_upto (a b : Int) : rgV a b = (upto a (b - a).toNat).map V.int := by
  unfold rgV upto
  rw [List.map_map]; rfl
theorem all_int {K : PySem.W.Frag} {M : List Addr} {H : Hp} : ∀ (xs : List Int), All3 (rInt.rel K M H) (xs.map V.int) xs []
  | [] => .nil
  | x :: xs => .cons (B := []) ⟨rfl, rfl⟩ (all_int xs)
/-- a new list of plain ints -/
theorem At.ints {K : PySem.W.Frag} {S : Type} {F : FC K S} {T : List Slot} {t : List V} {G : List Slot} {σ : L2.St} {H : Hp} (h : At F T t G σ H) (xs : List Int) {p : Addr} (hp : H p = none) : At F (.is (rList rInt) xs :: T) (.ref p :: t) G σ (upd H p (.lst (xs.map V.int))) := by
  obtain ⟨A1, A2, h⟩ := h
  exact At.lst ⟨A1, A2, h.pushAll (all_int xs) rfl⟩ (by simp) hp
section
variable {X : Cx} {S : Type} {F : FC X.K S} {a b : Expr} {ta tb : TE} {G G1 G2 G' : S → List Slot} {mi m1 m2 : SM S Int} {pos p0 q0 rpos : Pos}
theorem ex_listRg1 (h : EX X F a ta G G' rInt mi) (hc : X.calm = true) (hg : Gl X "list") (hm : X.mg "list" = none) (hg2 : Gl X "range") (hm2 : X.mg "range" = none) (hs : PySem.W.isStarred a = false := by rfl) :
    EX X F (.Call (.Name "list" p0) [.Call (.Name "range" q0) [a] [] rpos] [] pos) (tLstRg (tRg1 ta)) G G' (rList rInt) (bnd mi fun j => bnd (grd (RgOk 0 j)) fun _ => ret (upto 0 j.toNat)) :=
  ⟨pe_listRg hc hg hm (prg_1 hg2 hm2 h.pe (star1 hs)), fun T t σ s H Q h0 q => h.go T t σ s H _ h0 (wp_mono (wp_bnd q) (fun j s1 q1 v H1 at1 => by
    obtain ⟨hz, q1⟩ := wp_grd (wp_bnd q1)
    obtain ⟨_, _, ek, _⟩ := top_rel at1
    refine ⟨j, ek, hz, fun p hp => ?_⟩
    rw [rg_upto, show (j - 0).toNat = j.toNat by rw [Int.sub_zero]]
    exact q1 _ _ (at1.pop.ints _ hp)) fun _ _ z => z)⟩
theorem ex_listRg2 (h : EX X F a ta G G1 rInt m1) (h2 : EX X F b tb G1 G2 rInt m2) (hc : X.calm = true) (hg : Gl X "list") (hm : X.mg "list" = none) (hg2 : Gl X "range") (hm2 : X.mg "range" = none) (hs : PySem.W.isStarred a = false := by rfl) (hs2 : PySem.W.isStarred b = false := by rfl) :
    EX X F (.Call (.Name "list" p0) [.Call (.Name "range" q0) [a, b] [] rpos] [] pos) (tLstRg (tRg2 ta tb)) G G2 (rList rInt) (bnd m1 fun i => bnd m2 fun j => bnd (grd (RgOk i j)) fun _ => ret (upto i (j - i).toNat)) :=
  ⟨pe_listRg hc hg hm (prg_2 hg2 hm2 h.pe h2.pe (star1 hs) (star1 hs2) (by rw [star1 hs2]; rfl)), fun T t σ s H Q h0 q => h.go T t σ s H _ h0 (wp_mono (wp_bnd q) (fun i s1 q1 v H1 at1 => by
    refine h2.go _ _ σ s1 H1 _ at1 (wp_mono (wp_bnd q1) (fun j s2 q2 w H2 at2 => ?_) fun _ _ z => z)
    obtain ⟨hz, q2⟩ := wp_grd (wp_bnd q2)
    obtain ⟨_, _, ek, _⟩ := snd_rel at2
    obtain ⟨_, _, ek2, _⟩ := top_rel at2
    refine ⟨i, j, ek, ek2, hz, fun p hp => ?_⟩
    rw [rg_upto]
    exact q2 _ _ (at2.pop.pop.ints _ hp)) fun _ _ z => z)⟩
/-- the step is -1 -/
def tRg3 (tr : TA) : TE := fun σ H Q => tr σ H fun vs H1 => ∃ i j, vs = [.int i, .int j, .int (-1)] ∧ RgOk j i ∧ ∀ q, H1 q = none → Q (.ref q) (upd H1 q (.lst ((dnto i (i - j).toNat).map V.int)))
theorem vals_dn {i : Int} {n : Nat} {acc : Array Value} (h : ItemsOf (fun k v => ∃ t, v = .int (i + k * (-1)) t) acc n) : Vals ((dnto i n).map V.int) acc.toList := by
  have e : acc.toList.length = n := by rw [Array.length_toList]; exact h.1
  unfold dnto
  rw [List.map_map, ← e]
  refine vals_of_get acc.toList _ fun j u hj => ?_
  obtain ⟨t, et⟩ := h.2 j u (by rw [← hj, Array.getElem?_toList])
  exact ⟨t, et⟩
theorem pe_listRg3 {es : List Expr} {tr : TA} (hc : X.calm = true) (pa : PA X (a :: es) tr) (hg : Gl X "list") (hm : X.mg "list" = none) (hg2 : Gl X "range") (hm2 : X.mg "range" = none) (hs : PySem.W.isStarred a = false) (hp : (backTo rpos (starEach es X.env)).any (·.1) = false) :
    PE X (.Call (.Name "list" p0) [.Call (.Name "range" q0) (a :: es) [] rpos] [] pos) (tRg3 tr) := by
  refine ⟨fun pins s σ H Q I h => ?_⟩
  refine wpAny_Call_Name_kw (ld_blt I hg hm boot_list (PyProof.Rows.callWith_type1 (args_cons (wpAny_Call_Name_kw (ld_blt I hg2 hm2 boot_range (PyProof.Rows.callWith_type1 (thn (pa.run rpos pins s σ H _ I h) fun us s1 ⟨vs, H1, I1, r1, i, j, ev, ok, q⟩ => ?_) (star1 hs) hp))) rfl) rfl))
  subst ev
  obtain ⟨u1, us1, e1, r1', rr⟩ : ∃ u us', us = u :: us' ∧ RelV (.int i) u ∧ Vals [.int j, .int (-1)] us' := by
    cases r1 with
    | cons h t => exact ⟨_, _, rfl, h, t⟩
  obtain ⟨u2, u3, e2, r2, r3⟩ := Vals.two rr
  subst e1 e2
  obtain ⟨t1, k1⟩ := r1'
  obtain ⟨t2, k2⟩ := r2
  obtain ⟨t3, k3⟩ := r3
  subst k1 k2 k3
  refine call_range_3 (by decide) ?_ (.inl (PyProof.noPylong_small (by decide)))
  have I2 : L2.Inv X pins σ H1 { s1 with heap := s1.heap.push { cls := .type "range", data := .fields #[.int i t1, .int j t2, .int (-1) t3] } } := I1.kept (t' := s1.toks) fun b u e => Heap.get?_push_of_some _ e
  obtain ⟨b1, b2, b3, b4, b5⟩ := ok
  refine args_nil ?_
  refine call_list_range (n := (i - j).toNat) (I2.ok.hd hc) (IsRange.new ..) (PySem.W.small_down b3 b4 b1 b2) (PySem.W.rangeSize_downNat i j) b5 fun h' tk acc c' hk e' hi => ?_
  refine ⟨.ref _, _, I2.laid (o := .lst ((dnto i (i - j).toNat).map V.int)) hk (Nat.le_refl _) ⟨?_, acc.toList, c', vals_dn hi, ?_⟩, rfl, q _ (I2.hok.fresh (Nat.le_refl _))⟩
  · rw [List.length_map, dnto_len, sizeLine_eq]; omega
  · rw [Array.toArray_toList]; exact e'
theorem ex_listRg3 {k : Nat} {p1 p2 : Pos} (h : EX X F a ta G G1 rInt m1) (h2 : EX X F b tb G1 G2 rInt m2) (hc : X.calm = true) (hg : Gl X "list") (hm : X.mg "list" = none) (hg2 : Gl X "range") (hm2 : X.mg "range" = none) (hs : PySem.W.isStarred a = false := by rfl) (hs2 : PySem.W.isStarred b = false := by rfl) :
    EX X F (.Call (.Name "list" p0) [.Call (.Name "range" q0) [a, b, .UnaryOp .USub (.Constant (.int 1) k p1) p2] [] rpos] [] pos) (tRg3 (tCons ta (tCons tb (tCons (tUn (rU fun i => .int (-i)) (tC (.int 1))) tNil)))) G G2 (rList rInt) (bnd m1 fun i => bnd m2 fun j => bnd (grd (RgOk j i)) fun _ => ret (dnto i (i - j).toNat)) :=
  ⟨pe_listRg3 hc (pa_cons h.pe (pa_cons h2.pe (pa_cons (pe_un un_neg pe_int) pa_nil (star1 rfl)) (star1 hs2)) (star1 hs)) hg hm hg2 hm2 hs (by rw [star1 hs2]; rfl), fun T t σ s H Q h0 q => h.go T t σ s H _ h0 (wp_mono (wp_bnd q) (fun i s1 q1 v H1 at1 => by
    refine h2.go _ _ σ s1 H1 _ at1 (wp_mono (wp_bnd q1) (fun j s2 q2 w H2 at2 => ?_) fun _ _ z => z)
    obtain ⟨hz, q2⟩ := wp_grd (wp_bnd q2)
    obtain ⟨_, _, ek, _⟩ := snd_rel at2
    obtain ⟨_, _, ek2, _⟩ := top_rel at2
    subst ek ek2
    exact ⟨1, rfl, i, j, rfl, hz, fun p hp => q2 _ _ (at2.pop.pop.ints _ hp)⟩) fun _ _ z => z)⟩
end
/-! ### x in (a, b) -/
section
variable {X : Cx} {S : Type} {F : FC X.K S} {a b : Expr} {ta tb : TE} {G G1 G2 G' : S → List Slot} {mi : SM S Int} {pos : Pos}
theorem vo_in2 {K : PySem.W.Frag} : VO2 K S rInt (rPair rInt rInt) rBool (rIn K false) (fun i p => ret ([p.1, p.2].any (· == i))) := by
  intro i p v w M B M' B' H Q s h1 h2 q
  obtain ⟨ev, _⟩ := h1
  obtain ⟨x, v1, v2, B1, B2, ew, hT, ⟨e1, _⟩, ⟨e2, _⟩, _⟩ := h2
  subst ev ew e1 e2
  exact ⟨x, _, rfl, .inr hT, rfl, rfl, q rfl _ fun _ => ⟨by simp [inV, eqV], rfl⟩⟩
theorem vo_in3 {K : PySem.W.Frag} : VO2 K S rInt (rTup3 rInt rInt rInt) rBool (rIn K false) (fun i p => ret ([p.1, p.2.1, p.2.2].any (· == i))) := by
  intro i p v w M B M' B' H Q s h1 h2 q
  obtain ⟨ev, _⟩ := h1
  obtain ⟨x, v1, v2, v3, B1, B2, B3, ew, hT, ⟨e1, _⟩, ⟨e2, _⟩, ⟨e3, _⟩, _⟩ := h2
  subst ev ew e1 e2 e3
  exact ⟨x, _, rfl, .inr hT, rfl, rfl, q rfl _ fun _ => ⟨by simp [inV, eqV], rfl⟩⟩
variable {m2 : SM S (Int × Int)} {m3 : SM S (Int × Int × Int)}
theorem ex_in2 (h1 : EX X F a ta G G1 rInt mi) (h2 : EX X F b tb G1 G2 (rPair rInt rInt) m2) (hm : behindInMarks .In b = false := by with_unfolding_all rfl) : EX X F (.Compare a [.In] [b] pos) (tOp (rIn X.K false) ta tb) G G2 rBool (bnd mi fun i => bnd m2 fun p => ret ([p.1, p.2].any (· == i))) :=
  ex_cmp op_in_seq vo_in2 (fun _ _ => stl_ret _) h1 h2 hm
theorem et_in2 (h1 : EX X F a ta G G1 rInt mi) (h2 : EX X F b tb G1 G2 (rPair rInt rInt) m2) (hm : behindInMarks .In b = false := by with_unfolding_all rfl) : ET X F (.Compare a [.In] [b] pos) (tTest (tOp (rIn X.K false) ta tb)) G G2 (bnd mi fun i => bnd m2 fun p => ret ([p.1, p.2].any (· == i))) :=
  et_cmp op_in_seq vo_in2 (fun _ _ => stl_ret _) h1 h2 hm
theorem ex_in3 (h1 : EX X F a ta G G1 rInt mi) (h2 : EX X F b tb G1 G2 (rTup3 rInt rInt rInt) m3) (hm : behindInMarks .In b = false := by with_unfolding_all rfl) : EX X F (.Compare a [.In] [b] pos) (tOp (rIn X.K false) ta tb) G G2 rBool (bnd mi fun i => bnd m3 fun p => ret ([p.1, p.2.1, p.2.2].any (· == i))) :=
  ex_cmp op_in_seq vo_in3 (fun _ _ => stl_ret _) h1 h2 hm
theorem et_in3 (h1 : EX X F a ta G G1 rInt mi) (h2 : EX X F b tb G1 G2 (rTup3 rInt rInt rInt) m3) (hm : behindInMarks .In b = false := by with_unfolding_all rfl) : ET X F (.Compare a [.In] [b] pos) (tTest (tOp (rIn X.K false) ta tb)) G G2 (bnd mi fun i => bnd m3 fun p => ret ([p.1, p.2.1, p.2.2].any (· == i))) :=
  et_cmp op_in_seq vo_in3 (fun _ _ => stl_ret _) h1 h2 hm
end
end Td

set_option Elab.async false
set_option linter.all false
set_option maxRecDepth 100000
set_option maxHeartbeats 4000000
namespace Td
open PySem PySem.Spec PyProof.Rows L2 SlX StX

/-! ### two fors -/
def lc2M {S A B C : Type} (mt : A → SM S Bool) (mi : A → SM S (List B)) (f : A → B → SM S (Option C)) : List C → List A → SM S (List C)
  | acc, [] => ret acc
  | acc, x :: xs => bnd (nxc (mt x)) fun k => if k then bnd (nxc (mi x)) fun ys => bnd (lcM (f x) acc ys) fun acc' => lc2M mt mi f acc' xs else lc2M mt mi f acc xs
theorem At.raise {K : PySem.W.Frag} {S : Type} {F : FC K S} {T T1 : List Slot} {t t1 : List V} {G : List Slot} {σ : L2.St} {H : Hp} {g : Slot} {v : V} (e : t1.length = T1.length) (h : At F (T1 ++ (g :: T)) (t1 ++ (v :: t)) G σ H) : At F (g :: (T1 ++ T)) (v :: (t1 ++ t)) G σ H := by
  obtain ⟨A1, A2, h⟩ := h
  obtain ⟨B, A1', mm, hg, tail, h2⟩ := h.lift e
  exact At.sink ⟨_, _, h2⟩
theorem At.sinkUn {K : PySem.W.Frag} {S : Type} {F : FC K S} {T T1 : List Slot} {t t1 : List V} {G : List Slot} {σ : L2.St} {H : Hp} {g : Slot} {v : V} (e : t1.length = T1.length) (h : At F (g :: (T1 ++ T)) (v :: (t1 ++ t)) G σ H) : At F (g :: T) (v :: t) G σ H := At.dropU e h
section
variable {X : Cx} {S : Type} {F : FC X.K S} {A B C : Type} {rx : Rp A} {ry : Rp B} {rc : Rp C} {wi wi1 : TI} {g g1 : TG} {ws ws1 vs vs1 : List Nat} {tt tt1 : TT} {te : TE} {G G1 : S → List Slot} {CI CJ : List Slot → Prop} {mi : SM S (List A)} {Gt : S → A → List Slot} {Gu : S → A → B → List Slot} {mt : A → SM S Bool} {mj : A → SM S (List B)} {mt1 : A → B → SM S Bool} {me : A → B → SM S C}
theorem wipe_sub : ∀ {vs : List Nat} {σ : L2.St} {j : Nat}, j ∉ vs → (wipe σ vs)[j]? = σ[j]? := fun h => wipe_get h
theorem go_lc2 (hi : GI F wi G G1 CI rx mi) (hC : ∀ s, CI (G1 s)) (hun : ∀ s, UnAt (G1 s) vs) (sub : ∀ j, j ∈ ws → j ∈ vs) (sub1 : ∀ j, j ∈ ws1 → j ∈ vs1) (hv : ∀ j, j ∈ vs1 → j ∈ vs) (hg : ∀ s, GG F.nx g ws rx (G1 s) (Gt s)) (hwk : ∀ s x, Weak (Gt s x) (G1 s))
    (ht : ∀ x, GT F.nx tt (fun s => Gt s x) (fun s => Gt s x) (mt x)) (hj : ∀ x, GI F.nx wi1 (fun s => Gt s x) (fun s => Gt s x) CJ ry (mj x)) (hCJ : ∀ s x, CJ (Gt s x)) (hun1 : ∀ s x, UnAt (Gt s x) vs1) (hg1 : ∀ s x, GG F.nx g1 ws1 ry (Gt s x) (Gu s x)) (hwk1 : ∀ s x y, Weak (Gu s x y) (Gt s x))
    (ht1 : ∀ x y, GT F.nx tt1 (fun s => Gu s x y) (fun s => Gu s x y) (mt1 x y)) (he : ∀ x y, GE F.nx te (fun s => Gu s x y) (fun s => Gu s x y) rc (me x y)) :
    GE F (tLc2 wi g tt wi1 g1 tt1 te vs vs1) G G1 (rList rc) (bnd mi fun xs => lc2M mt mj (fun x y => lcIt (mt1 x y) (me x y)) [] xs) := by
  intro T t σ s H Q h0 q
  refine hi T t σ s H _ h0 (wp_mono (wp_bnd q) (fun xs s1 q1 J gv hvv H1 src at1 D hD => ?_) fun _ _ z => z)
  refine ⟨fun i m H => m = xs.length - i ∧ i ≤ xs.length ∧ ∃ s acc, At F (.is (rList rc) acc :: (gv ++ T)) (.ref D :: (hvv ++ t)) (G1 s) σ H ∧
      (lc2M mt mj (fun x y => lcIt (mt1 x y) (me x y)) acc (xs.drop i) s).wp (fun a s' => ∀ v H', At F (.is (rList rc) a :: T) (v :: t) (G1 s') σ H' → Q v H') (XP F σ),
    ⟨xs.length, by simp, Nat.zero_le _, s1, [], At.lst (r := rc) (as := []) (vs := []) (by simpa [pend] using at1) rfl hD, by simpa using q1⟩, ?_⟩
  rintro i m H ⟨rfl, hi, s, acc, at2, q2⟩
  by_cases hlt : i < xs.length
  · refine .inr ⟨src.go (T1 := [_]) (t1 := [_]) (hC s) rfl at2 hlt, fun H' => ∃ s acc, At F (.is (rList rc) acc :: (gv ++ T)) (.ref D :: (hvv ++ t)) (G1 s) σ H' ∧
      (lc2M mt mj (fun x y => lcIt (mt1 x y) (me x y)) acc (xs.drop (i + 1)) s).wp (fun a s' => ∀ v H', At F (.is (rList rc) a :: T) (v :: t) (G1 s') σ H' → Q v H') (XP F σ),
      fun H' ⟨s, acc, at3, q3⟩ => ⟨xs.length - (i + 1), by omega, rfl, hlt, s, acc, at3, q3⟩, fun x H' hy => ?_⟩
    have at3 := src.yld (T1 := [_]) (t1 := [_]) (hC s) rfl at2 hy (List.getElem?_eq_getElem hlt)
    refine hg s _ _ _ H' x xs[i] _ (nx_at (at3.wiped fun v h => (hun s).all v h)) fun σ2 at4 l4 k4 => ?_
    refine ⟨wipe_eq l4 k4 sub, ?_⟩
    rw [List.drop_eq_getElem_cons hlt] at q2
    have back : ∀ {T' : List Slot} {t' : List V} {s' : S} {H3 : Hp}, At F.nx T' t' (Gt s' xs[i]) σ2 H3 → At F T' t' (G1 s') σ H3 := fun {T' t' s' H3} z => by
      have y := (at_nx z).weak (hwk s' xs[i])
      refine y.reS (by rw [l4, wipe_length]) fun j => ?_
      by_cases hj : j ∈ vs
      · rcases (hun s').all j hj with w | w
        · exact .inl w
        · right
          have hl : σ2.length ≤ j := by rw [y.len]; exact List.getElem?_eq_none_iff.mp w
          rw [List.getElem?_eq_none hl, List.getElem?_eq_none (by rw [l4, wipe_length] at hl; exact hl)]
      · right
        rw [k4 j fun w => hj (sub j w), wipe_get hj]
    have q3 := wp_nxc (E' := XP F.nx σ2) (wp_bnd q2)
    refine ht xs[i] _ _ σ2 s H' _ at4 (wp_mono q3 (fun k s4 q4 H4 at5 => ?_) fun _ _ z => z)
    cases k with
    | false =>
      rw [if_neg Bool.false_ne_true] at q4
      rw [if_neg Bool.false_ne_true]
      exact ⟨s4, acc, back at5, q4⟩
    | true =>
      rw [if_pos rfl] at q4
      rw [if_pos rfl]
      have q5 := wp_nxc (E' := XP F.nx σ2) (wp_bnd q4)
      refine hj xs[i] _ _ σ2 s4 H4 _ at5 (wp_mono q5 (fun ys s5 q6 J1 g1v h1v H5 src1 at6 => ?_) fun _ _ z => z)
      have at7 := At.raise src1.len at6
      refine ⟨fun j m H => m = ys.length - j ∧ j ≤ ys.length ∧ ∃ s acc, At F.nx (.is (rList rc) acc :: (g1v ++ (gv ++ T))) (.ref D :: (h1v ++ (hvv ++ t))) (Gt s xs[i]) σ2 H ∧
          (bnd (lcM (fun y => lcIt (mt1 xs[i] y) (me xs[i] y)) acc (ys.drop j)) (fun acc' => lc2M mt mj (fun x y => lcIt (mt1 x y) (me x y)) acc' (xs.drop (i + 1))) s).wp (fun a s' => ∀ v H', At F (.is (rList rc) a :: T) (v :: t) (G1 s') σ H' → Q v H') (XP F σ),
        ⟨ys.length, by simp, Nat.zero_le _, s5, acc, at7, by simpa using q6⟩, ?_⟩
      rintro j m H ⟨rfl, hjl, s6, acc6, at8, q8⟩
      by_cases hlt1 : j < ys.length
      · refine .inr ⟨src1.go (T1 := [_]) (t1 := [_]) (hCJ s6 xs[i]) rfl at8 hlt1, fun H' => ∃ s acc, At F.nx (.is (rList rc) acc :: (g1v ++ (gv ++ T))) (.ref D :: (h1v ++ (hvv ++ t))) (Gt s xs[i]) σ2 H' ∧
          (bnd (lcM (fun y => lcIt (mt1 xs[i] y) (me xs[i] y)) acc (ys.drop (j + 1))) (fun acc' => lc2M mt mj (fun x y => lcIt (mt1 x y) (me x y)) acc' (xs.drop (i + 1))) s).wp (fun a s' => ∀ v H', At F (.is (rList rc) a :: T) (v :: t) (G1 s') σ H' → Q v H') (XP F σ),
          fun H' ⟨s, acc, at3, q3⟩ => ⟨ys.length - (j + 1), by omega, rfl, hlt1, s, acc, at3, q3⟩, fun y H' hy1 => ?_⟩
        have at9 := src1.yld (T1 := [_]) (t1 := [_]) (hCJ s6 xs[i]) rfl at8 hy1 (List.getElem?_eq_getElem hlt1)
        refine hg1 s6 xs[i] _ _ _ H' y ys[j] _ (at9.wiped fun v h => (hun1 s6 xs[i]).all v h) fun σ3 at10 l10 k10 => ?_
        refine ⟨wipe_eq l10 k10 sub1, ?_⟩
        rw [List.drop_eq_getElem_cons hlt1] at q8
        have back1 : ∀ {T' : List Slot} {t' : List V} {s' : S} {H3 : Hp}, At F.nx T' t' (Gu s' xs[i] ys[j]) σ3 H3 → At F.nx T' t' (Gt s' xs[i]) σ2 H3 := fun {T' t' s' H3} z => by
          have y := z.weak (hwk1 s' xs[i] ys[j])
          refine y.reS (by rw [l10, wipe_length]) fun j' => ?_
          by_cases hj' : j' ∈ vs1
          · rcases (hun1 s' xs[i]).all j' hj' with w | w
            · exact .inl w
            · right
              have hl : σ3.length ≤ j' := by rw [y.len]; exact List.getElem?_eq_none_iff.mp w
              rw [List.getElem?_eq_none hl, List.getElem?_eq_none (by rw [l10, wipe_length] at hl; exact hl)]
          · right
            rw [k10 j' fun w => hj' (sub1 j' w), wipe_get hj']
        have q9 := wp_nxc (E' := XP F.nx σ3) (wp_bnd (wp_bnd q8))
        refine ht1 xs[i] ys[j] _ _ σ3 s6 H' _ at10 (wp_mono (wp_bnd q9) (fun k s7 q10 H7 at11 => ?_) fun _ _ z => z)
        cases k with
        | true =>
          rw [if_pos rfl] at q10
          rw [if_pos rfl]
          refine he xs[i] ys[j] _ _ σ3 s7 H7 _ at11 (wp_mono (wp_bnd q10) (fun c s8 q11 v H8 at12 => ?_) fun _ _ z => z)
          have at13 := back1 at12
          have q12 : ((bnd (grd (acc6.length < sizeLine)) fun _ => lcM (fun y => lcIt (mt1 xs[i] y) (me xs[i] y)) (acc6 ++ [c]) (List.drop (j + 1) ys)) s8).wp (fun a s' => (lc2M mt mj (fun x y => lcIt (mt1 x y) (me x y)) a (List.drop (i + 1) xs) s').wp (fun a s' => ∀ v H', At F (.is (rList rc) a :: T) (v :: t) (G1 s') σ H' → Q v H') (XP F σ)) (XP F σ) := q11
          obtain ⟨hz, q13⟩ := wp_grd (wp_bnd q12)
          obtain ⟨us, hDu, hl, at14⟩ := At.appendT at13
          exact ⟨us, hDu, by rw [hl]; exact hz, s8, acc6 ++ [c], at14, bnd_wp q13⟩
        | false =>
          rw [if_neg Bool.false_ne_true] at q10
          rw [if_neg Bool.false_ne_true]
          exact ⟨s7, acc6, back1 at11, bnd_wp q10⟩
      · have e : j = ys.length := by omega
        subst e
        rw [List.drop_length] at q8
        exact .inl ⟨src1.stop (T1 := [_]) (t1 := [_]) (hCJ s6 xs[i]) rfl at8 (Nat.le_refl _), s6, acc6, back (At.dropU src1.len at8), wp_bnd q8⟩
  · have e : i = xs.length := by omega
    subst e
    rw [List.drop_length] at q2
    refine .inl ⟨src.stop (T1 := [_]) (t1 := [_]) (hC s) rfl at2 (Nat.le_refl _), ?_⟩
    exact q2 _ H (At.dropU src.len at2)
end
section
variable {X : Cx} {S : Type} {F : FC X.K S} {A B C : Type} {rx : Rp A} {ry : Rp B} {rc : Rp C} {tg e tg1 e1 elt : Expr} {ifs ifs1 : List Expr} {scope : Scope} {own : List (Str × Nat)} {wi : TI} {wi1 : Shared → Hp → Addr → List (Str × Addr) → List Addr → TI} {g g1 : Shared → Hp → Addr → List (Str × Addr) → List Addr → TG} {ws ws1 vs1 : List Nat} {tt tt1 : Shared → Hp → Addr → List (Str × Addr) → List Addr → TT} {te : Shared → Hp → Addr → List (Str × Addr) → List Addr → TE} {G G1 : S → List Slot} {CI CJ : List Slot → Prop} {mi : SM S (List A)} {Gt : S → A → List Slot} {Gu : S → A → B → List Slot} {mt : A → SM S Bool} {mj : A → SM S (List B)} {mt1 : A → B → SM S Bool} {me : A → B → SM S C} {pos : Pos}
theorem ex_lc2 (sh0 : Shared) (hc : X.calm = true) (hN : X.N.Nodup) (hi : EI X F tg e wi G G1 CI rx mi) (hC : ∀ s, CI (G1 s)) (ok : BlkOk X.N X.env.scope scope own) (hun : ∀ s, UnAt (G1 s) (own.map (·.2))) (sub : ∀ j, j ∈ ws → j ∈ own.map (·.2)) (sub1 : ∀ j, j ∈ ws1 → j ∈ vs1) (hv : ∀ j, j ∈ vs1 → j ∈ own.map (·.2)) (hwk : ∀ s x, Weak (Gt s x) (G1 s))
    (hg : ∀ (s0 : Shared) (H : Hp) (D : Addr) (cl : List (Str × Addr)) (fp : List Addr) (s : S), EG (X.blk s0 H scope (compEnvC scope cl D X.env) fp) F.nx tg (g s0 H D cl fp) ws rx (G1 s) (Gt s))
    (ht : ∀ (s0 : Shared) (H : Hp) (D : Addr) (cl : List (Str × Addr)) (fp : List Addr) (x : A), ETs (X.blk s0 H scope (compEnvC scope cl D X.env) fp) F.nx ifs (tt s0 H D cl fp) (fun s => Gt s x) (fun s => Gt s x) (mt x))
    (hj : ∀ (s0 : Shared) (H : Hp) (D : Addr) (cl : List (Str × Addr)) (fp : List Addr) (x : A), EI (X.blk s0 H scope (compEnvC scope cl D X.env) fp) F.nx tg1 e1 (wi1 s0 H D cl fp) (fun s => Gt s x) (fun s => Gt s x) CJ ry (mj x)) (hCJ : ∀ s x, CJ (Gt s x)) (hun1 : ∀ s x, UnAt (Gt s x) vs1) (hwk1 : ∀ s x y, Weak (Gu s x y) (Gt s x))
    (hg1 : ∀ (s0 : Shared) (H : Hp) (D : Addr) (cl : List (Str × Addr)) (fp : List Addr) (s : S) (x : A), EG (X.blk s0 H scope (compEnvC scope cl D X.env) fp) F.nx tg1 (g1 s0 H D cl fp) ws1 ry (Gt s x) (Gu s x))
    (ht1 : ∀ (s0 : Shared) (H : Hp) (D : Addr) (cl : List (Str × Addr)) (fp : List Addr) (x : A) (y : B), ETs (X.blk s0 H scope (compEnvC scope cl D X.env) fp) F.nx ifs1 (tt1 s0 H D cl fp) (fun s => Gu s x y) (fun s => Gu s x y) (mt1 x y))
    (he : ∀ (s0 : Shared) (H : Hp) (D : Addr) (cl : List (Str × Addr)) (fp : List Addr) (x : A) (y : B), EX (X.blk s0 H scope (compEnvC scope cl D X.env) fp) F.nx elt (te s0 H D cl fp) (fun s => Gu s x y) (fun s => Gu s x y) rc (me x y)) (hA : Inhabited A) (hB : Inhabited B) (hS : Inhabited S)
    (e_g : ∀ s0 H D cl fp, g s0 H D cl fp = g sh0 (fun _ => none) 0 [] [] := by intros; rfl) (e_g1 : ∀ s0 H D cl fp, g1 s0 H D cl fp = g1 sh0 (fun _ => none) 0 [] [] := by intros; rfl) (e_tt : ∀ s0 H D cl fp, tt s0 H D cl fp = tt sh0 (fun _ => none) 0 [] [] := by intros; rfl) (e_tt1 : ∀ s0 H D cl fp, tt1 s0 H D cl fp = tt1 sh0 (fun _ => none) 0 [] [] := by intros; rfl) (e_te : ∀ s0 H D cl fp, te s0 H D cl fp = te sh0 (fun _ => none) 0 [] [] := by intros; rfl) (e_wi1 : ∀ s0 H D cl fp, wi1 s0 H D cl fp = wi1 sh0 (fun _ => none) 0 [] [] := by intros; rfl) (hs : ∀ x, foldedSetIterable e X.env x = pure x := by intro _; rfl) (hs1 : ∀ env x, foldedSetIterable e1 env x = pure x := by intro _ _; rfl) :
    EX X F (.ListComp elt [⟨tg, e, ifs, 0⟩, ⟨tg1, e1, ifs1, 0⟩] scope pos) (tLc2 wi (g sh0 (fun _ => none) 0 [] []) (tt sh0 (fun _ => none) 0 [] []) (wi1 sh0 (fun _ => none) 0 [] []) (g1 sh0 (fun _ => none) 0 [] []) (tt1 sh0 (fun _ => none) 0 [] []) (te sh0 (fun _ => none) 0 [] []) (own.map (·.2)) vs1) G G1 (rList rc) (bnd mi fun xs => lc2M mt mj (fun x y => lcIt (mt1 x y) (me x y)) [] xs) :=
  ⟨pe_lc2 hc hN hi.pi ok hv (fun s0 H D cl fp => by rw [← e_g s0 H D cl fp]; exact (hg s0 H D cl fp hS.default).pg) (fun s0 H D cl fp => by rw [← e_tt s0 H D cl fp]; exact (ht s0 H D cl fp hA.default).pt) (fun s0 H D cl fp => by rw [← e_wi1 s0 H D cl fp]; exact (hj s0 H D cl fp hA.default).pi)
      (fun s0 H D cl fp => by rw [← e_g1 s0 H D cl fp]; exact (hg1 s0 H D cl fp hS.default hA.default).pg) (fun s0 H D cl fp => by rw [← e_tt1 s0 H D cl fp]; exact (ht1 s0 H D cl fp hA.default hB.default).pt) (fun s0 H D cl fp => by rw [← e_te s0 H D cl fp]; exact (he s0 H D cl fp hA.default hB.default).pe) hs hs1,
    go_lc2 hi.go hC hun sub sub1 hv (fun s => (hg sh0 (fun _ => none) 0 [] [] s).go) hwk (fun x => (ht sh0 (fun _ => none) 0 [] [] x).go) (fun x => (hj sh0 (fun _ => none) 0 [] [] x).go) hCJ hun1 (fun s x => (hg1 sh0 (fun _ => none) 0 [] [] s x).go) hwk1 (fun x y => (ht1 sh0 (fun _ => none) 0 [] [] x y).go) (fun x y => (he sh0 (fun _ => none) 0 [] [] x y).go)⟩
end
end Td
namespace Td
open PySem PySem.Spec PyProof.Rows L2
theorem At.unpair3 {K : PySem.W.Frag} {S : Type} {F : FC K S} {T : List Slot} {t : List V} {G : List Slot} {σ : L2.St} {H : Hp} {U W Z : Type} {r : Rp U} {q : Rp W} {l : Rp Z} {a : U × W × Z} {v : V} (h : At F (.is (rTup3 r q l) a :: T) (v :: t) G σ H) :
    ∃ p x y z, v = .ref p ∧ SqT K H p [x, y, z] ∧ At F (.is r a.1 :: .is q a.2.1 :: .is l a.2.2 :: T) (x :: y :: z :: t) G σ H := by
  obtain ⟨A1, A2, h⟩ := h
  obtain ⟨B, A', eA, ⟨v', ev, p, x, y, z, B1, B2, B3, e, hT, h1, h2, h3, eB⟩, ht⟩ := AtS.cons_inv h.tmp
  cases ev
  subst eA eB
  have eq : (B1 ++ (B2 ++ B3)) ++ A' = B1 ++ (B2 ++ (B3 ++ A')) := by simp
  refine ⟨p, x, y, z, e, hT, (B1 ++ (B2 ++ (B3 ++ A'))), A2, ?_, ?_, ?_⟩
  · rw [← eq]
    have w : AtS K ((B1 ++ (B2 ++ B3)) ++ A' ++ A2 ++ F.M0) H (.is r a.1 :: .is q a.2.1 :: .is l a.2.2 :: T) ((x :: y :: z :: t).map some) (B1 ++ (B2 ++ (B3 ++ A'))) := .cons ⟨x, rfl, h1⟩ (.cons ⟨y, rfl, h2⟩ (.cons ⟨z, rfl, h3⟩ ht))
    rwa [← eq] at w
  · rw [← eq]; exact h.loc
  · rw [← eq]; exact h.good
section
variable {X : Cx} {S : Type} {F : FC X.K S} {A B C : Type} {rx : Rp A} {ry : Rp B} {rz : Rp C} {G : List Slot} {pos : Pos}
theorem eg_tup3 {e1 e2 e3 : Expr} {g1 g2 g3 : TG} {w1 w2 w3 ws : List Nat} {k : Nat} {Gt : A × B × C → List Slot} {G1 : A → List Slot} {G2 : A → B → List Slot} {G3 : A → B → C → List Slot} (hc : X.calm = true) (h1 : EG X F e1 g1 w1 rx G G1) (h2 : ∀ a, EG X F e2 g2 w2 ry (G1 a) (G2 a)) (h3 : ∀ a b, EG X F e3 g3 w3 rz (G2 a b) (G3 a b))
    (ha : Inhabited A) (hb : Inhabited B) (hws : ws = w1 ++ (w2 ++ w3) := by rfl) (hGt : ∀ p, Gt p = G3 p.1 p.2.1 p.2.2 := by intro _; rfl) (hs1 : (assignEach [e1, e2, e3] X.env).map (·.2) = assign e1 X.env :: (assignEach [e2, e3] X.env).map (·.2) := by rfl)
    (hs2 : (assignEach [e2, e3] X.env).map (·.2) = assign e2 X.env :: (assignEach [e3] X.env).map (·.2) := by rfl) (hs3 : (assignEach [e3] X.env).map (·.2) = assign e3 X.env :: (assignEach [] X.env).map (·.2) := by rfl)
    (hn : (assignEach [e1, e2, e3] X.env).length = 3 := by rfl) (hst : (assignEach [e1, e2, e3] X.env).findIdx? (·.1) = none := by rfl) :
    EG X F (.Tuple [e1, e2, e3] k pos) (gTup X.K 3 (gCons g1 (gCons g2 (gCons g3 gNil)))) ws (rTup3 rx ry rz) G Gt :=
  ⟨pg_tup hc (pgs_cons h1.pg (pgs_cons (h2 ha.default).pg (pgs_cons (h3 ha.default hb.default).pg pgs_nil hs3) hs2) hs1) hn hst, fun T t σ H v a Q h q => by
    have eG : Gt = fun p => G3 p.1 p.2.1 p.2.2 := funext hGt
    subst hws eG
    obtain ⟨p, x, y, z, ev, hT, h⟩ := h.unpair3
    refine ⟨p, [x, y, z], ev, hT, rfl, x, [y, z], rfl, ?_⟩
    refine h1.go _ _ σ H x a.1 _ h fun σ1 at1 l1 k1 => ?_
    refine ⟨y, [z], rfl, ?_⟩
    refine (h2 a.1).go _ _ σ1 H y a.2.1 _ at1 fun σ2 at2 l2 k2 => ?_
    refine ⟨z, [], rfl, ?_⟩
    refine (h3 a.1 a.2.1).go _ _ σ2 H z a.2.2 _ at2 fun σ3 at3 l3 k3 => ?_
    exact ⟨rfl, q σ3 at3 ((l3.trans l2).trans l1) fun j hj => ((k3 j fun z => hj (by simp [z])).trans (k2 j fun z => hj (by simp [z]))).trans (k1 j fun z => hj (by simp [z]))⟩⟩
end
end Td

set_option Elab.async false
set_option linter.all false
set_option maxRecDepth 100000
set_option maxHeartbeats 4000000
namespace Td
open PySem PySem.Spec PyProof.Rows L2

/-! ### a law whose def shows data: run where no repr is under way -/
section
variable {P : Program} {w : World} {K : PySem.W.Frag} {mg mb : Str → Option Value} {k : Nat} {fa a : Addr} {fd : FuncData} {x : Str} {sp : Sp} {sh : Shared} {H : Hp}
/-- the call over one abstract heap that knows at most the script -/
theorem callG_at {o : Obj} (KX : K.In sh.heap) (hns : sh.heap.Ns mainGlobals mg) (hb : sh.heap.Ns builtinsNs mb) (hbb : ∀ x : Str, x ≠ "__name__" → mb x = bootBuiltins x) (hlim : sh.heap.NoLimit) (hg : sh.gens = #[])
    (ho : sh.heap.get? a = some o) (hseq : ∀ es ep, o.data ≠ .dict es ep) (hr : Room k callerA) (F : ∀ base : Heap, K.In base → base.Ns mainGlobals mg → FnG P w K mg base k fa fd [x] sp) (hbind : ∀ (s : Shared) (u : Value), BindsTo s fd ⟨[u], []⟩ [(x, u)])
    (hO : Only H) (hok : HOk P w H sh.heap) (hA : ∀ b, H b ≠ none → b = a) (hK : H a ≠ none → K.lookup a = none) (hsp : sp [.ref a] H (fun v _ => v = .bl true) fun _ _ _ => False) :
    codeAny (model P w) callerA (.call (.ref fa) ⟨[.ref a], []⟩) (fun r s' => r = .ok (.ret (.bool true)) ∧ OldK sh.heap s'.heap ∧ s'.os = sh.os ∧ AllBare s'.gens) sh := by
  have free : ∀ {b : Addr}, b ≠ a → H b = none := fun {b} h => by
    cases q : H b with
    | none => rfl
    | some u => exact absurd (hA b (by rw [q]; exact fun z => nomatch z)) h
  have nsK : ∀ {b : Addr} {m : Str → Option Value}, sh.heap.Ns b m → (hidT sh.heap H).Ns b m := fun {b m} hn => by
    obtain ⟨ob, es, ep, e, d, r⟩ := hn
    refine ⟨ob, es, ep, hidT_get e (free fun z => ?_), d, r⟩
    subst z
    rw [ho] at e
    cases e
    exact hseq es ep d
  have hKb : K.In (hidT sh.heap H) := fun b ob e => by
    refine hidT_get (KX b ob e) ?_
    by_cases hb : b = a
    · subst hb
      cases q : H b with
      | none => rfl
      | some u =>
        have z := hK (by rw [q]; exact fun z => nomatch z)
        rw [z] at e; cases e
    · exact free hb
  obtain ⟨mc, lim1, lim2⟩ := hlim
  have e0 : Env0 P w K mg (hidT sh.heap H) callerA [] sh H := ⟨rfl, ⟨hKb, nsK hns, ⟨mb, nsK hb, hbb⟩, ⟨mc, nsK lim1, lim2⟩⟩, fun b ob e => of_hidT e, Nat.le_of_eq (hidT_size _ _), trivial, fun b hb => (nomatch hb), hok, .of_eq hg⟩
  refine codeAny_mono ((F _ hKb (nsK hns)).run callerA [] sh H ⟨[.ref a], []⟩ [.ref a] [.ref a] _ _ hr rfl e0 (hbind sh (.ref a)) (.cons rfl .nil) hsp) fun r s' h => ?_
  cases r with
  | error e =>
    obtain ⟨_, _, _, _, _, _, _, _, _, _, _, _, hf⟩ := h
    exact hf.elim
  | ok fl =>
    cases fl with
    | next => exact h.elim
    | brk => exact h.elim
    | cont => exact h.elim
    | ret u =>
      obtain ⟨v, H', os, bare, un, hok', ru, ev⟩ := h
      have ev' : v = .bl true := ev
      subst ev'
      have eu : u = Value.bool true := ru
      refine ⟨by rw [eu], OldK.of_keep fun b ob e => ?_, os, bare⟩
      rcases hO b with z | ⟨o2, ys, z⟩
      · exact un.keep b ob e z (fun z => nomatch (show b ∈ ([] : List Addr) from z)) (fun z => nomatch z)
      · obtain ⟨e1, _⟩ := hok b _ z
        obtain ⟨e2, _⟩ := hok' b _ (un.frzs b o2 _ z)
        rw [e] at e1; cases e1
        exact e2
theorem law_callG {vs : List Value} {ns : List Int} (KX : K.In sh.heap) (hns : sh.heap.Ns mainGlobals mg) (hb : sh.heap.Ns builtinsNs mb) (hbb : ∀ x : Str, x ≠ "__name__" → mb x = bootBuiltins x) (hlim : sh.heap.NoLimit) (hg : sh.gens = #[])
    (ha : sh.heap.get? a = some { cls := .type "list", data := .seq vs.toArray }) (hi : IntsAre vs ns) (hl : ns.length ≤ sizeLine) (hr : Room k callerA)
    (F : ∀ base : Heap, K.In base → base.Ns mainGlobals mg → FnG P w K mg base k fa fd [x] sp) (hbind : ∀ (s : Shared) (u : Value), BindsTo s fd ⟨[u], []⟩ [(x, u)])
    (hsp : ∀ H : Hp, Only H → SqL K H a (ns.map V.int) → sp [.ref a] H (fun v _ => v = .bl true) fun _ _ _ => False) :
    codeAny (model P w) callerA (.call (.ref fa) ⟨[.ref a], []⟩) (fun r s' => r = .ok (.ret (.bool true)) ∧ OldK sh.heap s'.heap ∧ s'.os = sh.os ∧ AllBare s'.gens) sh := by
  have rv := vals_ints hi
  have key := fun (H : Hp) (hO : Only H) (hS : SqL K H a (ns.map V.int)) => callG_at (H := H) KX hns hb hbb hlim hg ha (fun es ep z => nomatch z) hr F hbind hO (hsp := hsp H hO hS)
  cases hk : K.lookup a with
  | some o =>
    have e := KX a o hk
    rw [ha] at e
    cases e
    exact key (fun _ => none) (fun _ => .inl rfl) (.inr ⟨_, vs.toArray, _, hk, rfl, rfl, rfl, by rw [List.size_toArray, hi.length]; exact hl, by simpa using rv⟩) (fun b u z => nomatch (show (none : Option HO) = some u from z)) (fun b z => absurd rfl z) (fun z => absurd rfl z)
  | none =>
    obtain ⟨u0, hu0⟩ : ∃ u : HO, u = .frz { cls := .type "list", data := .seq vs.toArray } (.lst (ns.map V.int)) := ⟨_, rfl⟩
    have at_a : (fun b : Addr => if b = a then some u0 else none) a = some u0 := if_pos rfl
    have off : ∀ b, b ≠ a → (fun b : Addr => if b = a then some u0 else none) b = none := fun b h => if_neg h
    refine key (fun b => if b = a then some u0 else none) (fun b => ?_) (.inl (.inr ⟨{ cls := .type "list", data := .seq vs.toArray }, by rw [← hu0]; exact at_a⟩)) (fun b u z => ?_) (fun b z => ?_) fun _ => hk
    · by_cases h : b = a
      · exact .inr ⟨_, _, by rw [h, at_a, hu0]⟩
      · exact .inl (off b h)
    · by_cases h : b = a
      · subst h
        rw [at_a] at z
        cases z
        subst hu0
        exact ⟨ha, by rw [List.length_map]; exact hl, vs, _, rv, ha⟩
      · rw [off b h] at z; cases z
    · exact Classical.byContradiction fun h => z (off b h)
end
/-- a law over a head by facts -/
theorem walk_ofG {l : PySem.W.OpenLaw} {n k : Nat} {q : Program} {loose : List Str} {XP : (Str → Option Value) → Heap → Prop} {YP : World → Heap → Prop} {d : DefRec} {x : Str}
    (hn : l.most = some n) (hn2 : n ≤ sizeLine) (hdf : d.params.defaults = []) (hr : Room k callerA)
    (F : ∀ (w : World) (mg : Str → Option Value) (fa : Addr) (h : Heap), YP w h → h.Ns mainGlobals mg → mg d.name = some (.ref fa) →
      ∃ (K : PySem.W.Frag) (fd : FuncData) (sp : Sp), K.In h ∧ (∀ (s : Shared) (u : Value), BindsTo s fd ⟨[u], []⟩ [(x, u)]) ∧
        (∀ (H : Hp) (a : Addr) (ns : List Int), ns.length ≤ n → Only H → SqL K H a (ns.map V.int) → sp [.ref a] H (fun v _ => v = .bl true) fun _ _ _ => False) ∧
        ∀ base : Heap, K.In base → base.Ns mainGlobals mg → FnG l.prog w K mg base k fa fd [x] sp) :
    PySem.W.WalkO q loose XP YP l.row.toRowW d [] (fun f vs => PySem.call f vs) := by
  refine Att.attach_call hn hdf fun w s₀ s₁ mg mb fa o pm cd doc a vs ns G Y ho hd hcd hmg hobj hints hlen hg => ?_
  obtain ⟨K, fd, sp, KX, hb, hsp, hF⟩ := F w mg fa _ Y G.T.g hmg
  exact law_callG KX G.T.g G.T.b G.T.builtins G.T.nolimit hg hobj hints (Nat.le_trans hlen hn2) hr hF hb fun H hO hS => hsp H a ns hlen hO hS
end Td
namespace Td
open PySem PySem.Spec PyProof.Rows L2
/-! ### the script -/
def rScr : Rp (List Int) where
  rel := fun K M H v xs B => B = [] ∧ ∃ p, v = .ref p ∧ ((∃ o, H p = some (.frz o (.lst (xs.map V.int)))) ∨ ∀ H', SqL K H' p (xs.map V.int))
  keep := by
    rintro K M H H' v a B ⟨eB, p, ev, h⟩ k
    refine ⟨eB, p, ev, h.imp (fun ⟨o, e⟩ => ⟨o, k p _ e (.inr (.inr rfl))⟩) id⟩
  grow := fun h _ => h
  trk := by
    rintro K M H v a B ⟨eB, _⟩ x hx
    rw [eB] at hx; cases hx
theorem cp_scr : rScr.Cp := fun h => h.1
theorem clo_scr : rScr.Clo := fun h => h
theorem scr_seq {K : PySem.W.Frag} {M : List Addr} {H : Hp} {v : V} {xs : List Int} {B : List Addr} (h : rScr.rel K M H v xs B) : ∃ p, v = .ref p ∧ SqL K H p (xs.map V.int) := by
  obtain ⟨_, p, ev, h⟩ := h
  exact ⟨p, ev, h.elim (fun ⟨o, e⟩ => .inl (.inr ⟨o, e⟩)) fun h => h H⟩
theorem scr_of {K : PySem.W.Frag} {H : Hp} {a : Addr} {xs : List Int} (hO : Only H) (h : SqL K H a (xs.map V.int)) (M : List Addr) : rScr.rel K M H (.ref a) xs [] := by
  refine ⟨rfl, a, rfl, ?_⟩
  rcases h with (h | h) | h
  · rcases hO a with z | ⟨o, ys, z⟩
    · rw [h] at z; cases z
    · rw [h] at z; cases z
  · exact .inl h
  · exact .inr fun _ => .inr h
theorem atI_map {xs : List Int} {i a : Int} (h : atI xs i = some a) : atI (xs.map V.int) i = some (.int a) := by
  unfold atI at *
  rw [List.length_map]
  cases e : ixN xs.length i with
  | none => rw [e] at h; cases h
  | some j =>
    rw [e] at h
    show (xs.map V.int)[j]? = _
    have h' : xs[j]? = some a := h
    rw [List.getElem?_map, h']; rfl
section
variable {X : Cx} {S : Type} {F : FC X.K S} {U : Type} {a b e : Expr} {ta tb te : TE} {G G1 G2 G' : S → List Slot} {m1 m : SM S U} {mi : SM S Int} {argU arg : U → Arg} {xs : U → List Int} {pos p0 : Pos}
theorem ex_ixScr (h1 : EO X F a ta G G1 argU m1) (h2 : EX X F b tb G1 G2 rInt mi) (hx : ∀ a s, Rdd (G2 s) (argU a) rScr (xs a)) (hs : PlainIx b := by exact fun _ _ => rfl) :
    EX X F (.Subscript a b pos) (tOp (rIxL X.K) ta tb) G G2 rInt (bnd m1 fun a => bnd mi fun i => ixM (xs a) i) :=
  ⟨pe_ix ix_list h1.pe h2.pe hs, go_op2 h1.go (eo_t h2).go (fun _ _ => stl_ixM _ _) fun a i s T t ts x y σ H Q A1 A2 at1 av q => by
    obtain ⟨v, B, e1, k1⟩ := rddM (j := 0) at1 av rfl (hx a s)
    obtain ⟨w, B', e2, ew, _⟩ := rddM (j := 1) at1 av rfl .t
    cases e1; cases e2
    obtain ⟨p, ev, hs⟩ := scr_seq k1
    obtain ⟨z, ez, _, q⟩ := wp_ixM q
    exact ⟨p, _, i, .int z, ev, ew, hs, atI_map ez, q _ H (at1.fin av ⟨rfl, rfl⟩)⟩⟩
theorem ex_lenScr (h : EO X F e te G G' arg m) (hx : ∀ a s, Rdd (G' s) (arg a) rScr (xs a)) (hg : Gl X "len") (hm : X.mg "len" = none) (hs : PySem.W.isStarred e = false := by rfl) :
    EX X F (.Call (.Name "len" p0) [e] [] pos) (tCB (fun xs H Q => ∃ p ys, xs = [.ref p] ∧ (SqL X.K H p ys ∨ SqT X.K H p ys) ∧ Q (.int ys.length) H) (tCons te tNil)) G G' rInt (bnd m fun a => ret ((xs a).length : Int)) :=
  ex_callB1 call_len_seq hg hm PySem.boot_len h (go_call1 h.go (fun _ => stl_ret _) fun a s T t ts v σ H Q A1 A2 at1 av q => by
    obtain ⟨v', B, e1, k1⟩ := rddM (j := 0) at1 av rfl (hx a s)
    cases e1
    obtain ⟨p, ev, hs⟩ := scr_seq k1
    exact ⟨p, _, by rw [ev], .inl hs, q.2 _ H (at1.fin av ⟨by rw [List.length_map], rfl⟩)⟩) hs
end
/-- the law's promise from what the head gives -/
theorem law_sp {K : PySem.W.Frag} {H : Hp} {a : Addr} {ns : List Int} {f : List Int → SM Unit Bool} (hO : Only H) (h : SqL K H a (ns.map V.int)) (hf : ∃ s, f ns () = .ok true s) : SpP K 1 (fun u : List Int => [.is rScr u]) rBool f [.ref a] H (fun v _ => v = .bl true) fun _ _ _ => False := by
  refine ⟨ns, (), [], [], rfl, ⟨[], [] ++ [], .nil, .cons (B := []) ⟨_, rfl, scr_of hO h _⟩ .nil, good_c fun _ z => nomatch z⟩, ?_⟩
  obtain ⟨s, e⟩ := hf
  rw [e]
  intro v H' hx
  obtain ⟨A1, A2, hx⟩ := hx
  obtain ⟨B, A', eA, ⟨v', ev, hv, _⟩, _⟩ := AtS.cons_inv hx.tmp
  cases ev
  exact hv
end Td

set_option Elab.async false
set_option linter.all false
set_option maxRecDepth 100000
set_option maxHeartbeats 0
namespace Hd
open PySem PySem.Spec PyProof.Rows L2 He Td
def tp (i : Nat) : Stmt := PySem.Challenge.pw_tapedetours_k13_rows_of_equal_files.main.body.getD i (.Pass ⟨0, 0, 0, 0⟩)
def ms (i j : Nat) : Stmt := (clsB (tp i)).getD j (.Pass ⟨0, 0, 0, 0⟩)
def d_TapeError_DinitD : Df := ⟨fun K => ma K (ga K "TapeError") "__init__", "__init__", "TapeError.__init__", defArgs (ms 2 0), defBody (ms 2 0), defScope (ms 2 0)⟩
def d_lowest : Df := ⟨fun K => ga K "lowest", "lowest", "lowest", defArgs (tp 10), defBody (tp 10), defScope (tp 10)⟩
def d_is_fraction : Df := ⟨fun K => ga K "is_fraction", "is_fraction", "is_fraction", defArgs (tp 11), defBody (tp 11), defScope (tp 11)⟩
def d_is_less : Df := ⟨fun K => ga K "is_less", "is_less", "is_less", defArgs (tp 12), defBody (tp 12), defScope (tp 12)⟩
def d_worth : Df := ⟨fun K => ga K "worth", "worth", "worth", defArgs (tp 13), defBody (tp 13), defScope (tp 13)⟩
def d_asked_files : Df := ⟨fun K => ga K "asked_files", "asked_files", "asked_files", defArgs (tp 15), defBody (tp 15), defScope (tp 15)⟩
def d_are_asks : Df := ⟨fun K => ga K "are_asks", "are_asks", "are_asks", defArgs (tp 16), defBody (tp 16), defScope (tp 16)⟩
def d_is_row : Df := ⟨fun K => ga K "is_row", "is_row", "is_row", defArgs (tp 17), defBody (tp 17), defScope (tp 17)⟩
def d_is_cost : Df := ⟨fun K => ga K "is_cost", "is_cost", "is_cost", defArgs (tp 18), defBody (tp 18), defScope (tp 18)⟩
def d_check_asks : Df := ⟨fun K => ga K "check_asks", "check_asks", "check_asks", defArgs (tp 19), defBody (tp 19), defScope (tp 19)⟩
def d_check_row : Df := ⟨fun K => ga K "check_row", "check_row", "check_row", defArgs (tp 20), defBody (tp 20), defScope (tp 20)⟩
def d_check_cost : Df := ⟨fun K => ga K "check_cost", "check_cost", "check_cost", defArgs (tp 21), defBody (tp 21), defScope (tp 21)⟩
def d_fresh_runs : Df := ⟨fun K => ga K "fresh_runs", "fresh_runs", "fresh_runs", defArgs (tp 23), defBody (tp 23), defScope (tp 23)⟩
def d_way : Df := ⟨fun K => ga K "way", "way", "way", defArgs (tp 24), defBody (tp 24), defScope (tp 24)⟩
def d_waits : Df := ⟨fun K => ga K "waits", "waits", "waits", defArgs (tp 25), defBody (tp 25), defScope (tp 25)⟩
def d_total : Df := ⟨fun K => ga K "total", "total", "total", defArgs (tp 26), defBody (tp 26), defScope (tp 26)⟩
def d_longest : Df := ⟨fun K => ga K "longest", "longest", "longest", defArgs (tp 27), defBody (tp 27), defScope (tp 27)⟩
def d_trimmed : Df := ⟨fun K => ga K "trimmed", "trimmed", "trimmed", defArgs (tp 28), defBody (tp 28), defScope (tp 28)⟩
def d_reading_order : Df := ⟨fun K => ga K "reading_order", "reading_order", "reading_order", defArgs (tp 29), defBody (tp 29), defScope (tp 29)⟩
def d_Tape_DinitD : Df := ⟨fun K => ma K (ga K "Tape") "__init__", "__init__", "Tape.__init__", defArgs (ms 31 1), defBody (ms 31 1), defScope (ms 31 1)⟩
def d_Tape_length : Df := ⟨fun K => pgA K (ga K "Tape") "length", "length", "Tape.length", defArgs (ms 31 2), defBody (ms 31 2), defScope (ms 31 2)⟩
def d_Tape_files : Df := ⟨fun K => pgA K (ga K "Tape") "files", "files", "Tape.files", defArgs (ms 31 3), defBody (ms 31 3), defScope (ms 31 3)⟩
def d_Tape_DlenD : Df := ⟨fun K => ma K (ga K "Tape") "__len__", "__len__", "Tape.__len__", defArgs (ms 31 4), defBody (ms 31 4), defScope (ms 31 4)⟩
def d_Tape_DeqD : Df := ⟨fun K => ma K (ga K "Tape") "__eq__", "__eq__", "Tape.__eq__", defArgs (ms 31 5), defBody (ms 31 5), defScope (ms 31 5)⟩
def d_Tape_DiterD : Df := ⟨fun K => ma K (ga K "Tape") "__iter__", "__iter__", "Tape.__iter__", defArgs (ms 31 6), defBody (ms 31 6), defScope (ms 31 6)⟩
def d_Tape_DgetitemD : Df := ⟨fun K => ma K (ga K "Tape") "__getitem__", "__getitem__", "Tape.__getitem__", defArgs (ms 31 7), defBody (ms 31 7), defScope (ms 31 7)⟩
def d__law_td_sack : Df := ⟨fun K => ga K "_law_td_sack", "_law_td_sack", "_law_td_sack", defArgs (tp 33), defBody (tp 33), defScope (tp 33)⟩
def d__law_td_pick : Df := ⟨fun K => ga K "_law_td_pick", "_law_td_pick", "_law_td_pick", defArgs (tp 34), defBody (tp 34), defScope (tp 34)⟩
def d__law_td_ratio : Df := ⟨fun K => ga K "_law_td_ratio", "_law_td_ratio", "_law_td_ratio", defArgs (tp 35), defBody (tp 35), defScope (tp 35)⟩
def d__law_td_comes : Df := ⟨fun K => ga K "_law_td_comes", "_law_td_comes", "_law_td_comes", defArgs (tp 36), defBody (tp 36), defScope (tp 36)⟩
def d__law_td_price : Df := ⟨fun K => ga K "_law_td_price", "_law_td_price", "_law_td_price", defArgs (tp 37), defBody (tp 37), defScope (tp 37)⟩
def d__law_td_kind_row : Df := ⟨fun K => ga K "_law_td_kind_row", "_law_td_kind_row", "_law_td_kind_row", defArgs (tp 38), defBody (tp 38), defScope (tp 38)⟩
def d__law_td_kind_wait : Df := ⟨fun K => ga K "_law_td_kind_wait", "_law_td_kind_wait", "_law_td_kind_wait", defArgs (tp 39), defBody (tp 39), defScope (tp 39)⟩
def d__law_td_right : Df := ⟨fun K => ga K "_law_td_right", "_law_td_right", "_law_td_right", defArgs (tp 40), defBody (tp 40), defScope (tp 40)⟩
def d_law : Df := ⟨fun K => ga K "law", "law", "law", defArgs (tp 41), defBody (tp 41), defScope (tp 41)⟩
def fs : List Df := [d_TapeError_DinitD, d_lowest, d_is_fraction, d_is_less, d_worth, d_asked_files, d_are_asks, d_is_row, d_is_cost, d_check_asks, d_check_row, d_check_cost, d_fresh_runs, d_way, d_waits, d_total, d_longest, d_trimmed, d_reading_order, d_Tape_DinitD, d_Tape_length, d_Tape_files, d_Tape_DlenD, d_Tape_DeqD, d_Tape_DiterD, d_Tape_DgetitemD, d__law_td_sack, d__law_td_pick, d__law_td_ratio, d__law_td_comes, d__law_td_price, d__law_td_kind_row, d__law_td_kind_wait, d__law_td_right, d_law]
def gl0 : List Str := ["lowest", "is_fraction", "is_less", "worth", "asked_files", "are_asks", "is_row", "is_cost", "check_asks", "check_row", "check_cost", "fresh_runs", "way", "waits", "total", "longest", "trimmed", "reading_order", "_law_td_sack", "_law_td_pick"]
def gl1 : List Str := ["_law_td_ratio", "_law_td_comes", "_law_td_price", "_law_td_kind_row", "_law_td_kind_wait", "_law_td_right", "law", "TapeError", "InvalidTape", "InvalidFile", "InvalidAsks", "InvalidRow", "InvalidCost", "UnknownFile", "Tape"]
def glos : List Str := gl0 ++ gl1
def frees : List Str := ["TypeError", "abs", "all", "enumerate", "int", "isinstance", "len", "list", "max", "min", "range", "repr", "sum", "tuple", "zip"]
def exs (K : PySem.W.Frag) : Bool := glos.all (gaB K) && (frees.all (frB K) && (slcB K (ga K "Tape") && (slotB K (ga K "Tape") "extent" 0 && (slotB K (ga K "Tape") "kept" 1 && (prpB K (ga K "Tape") "length" && (prpB K (ga K "Tape") "files" && (mthB K (ga K "Tape") "__len__" && (mthB K (ga K "Tape") "__getitem__" && ((Fa.mkr "Tape").ok K && (isiB K (ga K "Tape")))))))))))
abbrev R : PySem.W.OpenRow := PySem.W.OpenLaw.row PySem.Challenge.rw_tapedetours_k13_rows_of_equal_files
abbrev hk : PySem.W.Hook := hookTd 5 exs fs
def ob (s : PySem.W.SharedT) : AlTd := obsTdG 5 exs fs (HandSHeadRun.getT s)
theorem ob_eq (s : PySem.W.SharedT) : ob s = hk.obs s.abs := obsTdG_eq (HandSHeadRun.getT_eq s)
def lo0 : List Str := ["_wall", "__name__", "TapeError", "InvalidTape", "InvalidFile", "InvalidAsks", "InvalidRow", "InvalidCost", "UnknownFile", "lowest", "is_fraction", "is_less", "worth", "asked_files", "are_asks", "is_row", "is_cost", "check_asks", "check_row", "check_cost"]
def lo1 : List Str := ["fresh_runs", "way", "waits", "total", "longest", "trimmed", "reading_order", "Tape", "_law_td_sack", "_law_td_pick", "_law_td_ratio", "_law_td_comes", "_law_td_price", "_law_td_kind_row", "_law_td_kind_wait", "_law_td_right"]
def loose : List Str := lo0 ++ lo1
theorem run (w : World) : HandSHeadRun.RunEq R (PySem.W.view R.prog [41]) hk ob 20000 loose w := by
  intro os
  kernel_rfl
end Hd

set_option Elab.async false
set_option linter.all false
set_option maxRecDepth 100000
set_option maxHeartbeats 4000000
namespace Tk
open PySem PySem.Spec PyProof.Rows L2 He Td
def o_Tape_DinitD (u : (Int × (List (Int × Int)))) : SM TS0 (Fl Unit Empty Unit) := (bnd (bnd (ret u.1) fun a1 => bnd (ret 1) fun a2 => ret (decide (a1 < a2))) fun k3 => if k3 then esc stk else (bnd (ret 0) fun v_edge4 => (bnd (ret u.2) fun xs => lpM (forM_ xs (fun (l5 : Int) x6 => (bnd (bnd (bnd (ret l5) fun a7 => bnd (ret x6.1) fun a8 => if decide (a7 ≤ a8) then bnd (ret x6.2) fun a9 => if decide (a8 < a9) then bnd (ret u.1) fun a10 => ret (decide (a9 ≤ a10)) else ret false else ret false) fun k11 => ret (!k11)) fun k12 => if k12 then esc stk else (bnd (ret x6.2) fun v_edge13 => (ret (.nx v_edge13))))) v_edge4) fun l5 => (bnd (ret u.1) fun a14 => bnd (setExt a14) fun _ => (bnd (bnd (ret u.2) fun a15 => ret a15) fun a16 => bnd (setKept a16) fun _ => (ret (.nx ())))))))
def m_Tape_DinitD (u : (Int × (List (Int × Int)))) : SM TS0 Unit := runP (o_Tape_DinitD u)
def o_Tape_length (u : (Int × List (Int × Int))) : SM Unit (Fl Empty Empty Int) := (bnd (bnd (ret u) fun a17 => ret a17.1) fun a18 => ret (.rt a18))
def m_Tape_length (u : (Int × List (Int × Int))) : SM Unit Int := runB (o_Tape_length u)
def o_Tape_files (u : (Int × List (Int × Int))) : SM Unit (Fl Empty Empty (List (Int × Int))) := (bnd (bnd (bnd (ret u) fun a19 => ret a19.2) fun a20 => ret a20) fun a21 => ret (.rt a21))
def m_Tape_files (u : (Int × List (Int × Int))) : SM Unit (List (Int × Int)) := runB (o_Tape_files u)
def o_Tape_DlenD (u : (Int × List (Int × Int))) : SM Unit (Fl Empty Empty Int) := (bnd (bnd (bnd (ret u) fun a22 => ret a22.2) fun a23 => ret ((a23).length : Int)) fun a24 => ret (.rt a24))
def m_Tape_DlenD (u : (Int × List (Int × Int))) : SM Unit Int := runB (o_Tape_DlenD u)
def o_Tape_DgetitemD (u : ((Int × List (Int × Int)) × Int)) : SM Unit (Fl Empty Empty (Int × Int)) := (bnd (bnd (bnd (ret 0) fun a27 => bnd (ret u.2) fun a28 => if decide (a27 ≤ a28) then bnd (bnd (bnd (ret u.1) fun a25 => ret a25.2) fun a26 => ret ((a26).length : Int)) fun a29 => ret (decide (a28 < a29)) else ret false) fun k30 => ret (!k30)) fun k31 => if k31 then esc stk else (bnd (bnd (bnd (ret u.1) fun a32 => ret a32.2) fun a33 => bnd (ret u.2) fun a34 => ixM a33 a34) fun a35 => ret (.rt a35)))
def m_Tape_DgetitemD (u : ((Int × List (Int × Int)) × Int)) : SM Unit (Int × Int) := runB (o_Tape_DgetitemD u)
def o_lowest (u : (Int × Int)) : SM Unit (Fl Empty Empty (Int × Int)) := (bnd (bnd (ret u.1) fun a36 => ret (if a36 < 0 then -a36 else a36)) fun v_one40 => (bnd (bnd (ret u.2) fun a38 => ret (if a38 < 0 then -a38 else a38)) fun v_other41 => (lpM (whileM_ (v_other41.natAbs + 1) (fun (l42 : (Int × Int)) => (bnd (ret l42.2) fun a43 => ret (a43 != 0))) (fun l42 => (bnd (ret l42.2) fun v_one52 => (bnd (bnd (bnd (ret l42.1) fun a46 => ret a46) fun a50 => bnd (bnd (ret l42.2) fun a48 => ret a48) fun a51 => modM a50 a51) fun v_other53 => (ret (.nx (v_one52, v_other53)))))) (v_one40, v_other41)) fun l42 => (bnd (bnd (bnd (ret u.2) fun a55 => bnd (ret 0) fun a56 => ret (decide (a56 < a55))) fun k58 => if k58 then (ret 1) else (bnd (ret 1) fun a57 => ret (-a57))) fun v_sign54 => (bnd (bnd (bnd (bnd (ret v_sign54) fun a61 => bnd (ret u.1) fun a62 => mulM a61 a62) fun a63 => bnd (ret l42.1) fun a64 => divM a63 a64) fun a71 => bnd (bnd (bnd (ret v_sign54) fun a67 => bnd (ret u.2) fun a68 => mulM a67 a68) fun a69 => bnd (ret l42.1) fun a70 => divM a69 a70) fun a72 => ret (a71, a72)) fun a73 => ret (.rt a73))))))
def m_lowest (u : (Int × Int)) : SM Unit (Int × Int) := runB (o_lowest u)
def o_is_fraction (u : (Int × Int)) : SM Unit (Fl Empty Empty Bool) := (bnd (ret u) fun w74 => (bnd (bnd (bnd (ret w74.2) fun a75 => bnd (ret 1) fun a76 => ret (decide (a76 ≤ a75))) fun a86 => if a86 then (bnd (bnd (bnd (ret w74.1) fun a79 => bnd (bnd (ret w74.2) fun a77 => bnd (ret ()) fun a78 => ret (a77, a78)) fun a80 => ret (a79, a80)) fun q81 => lft (m_lowest (q81.1, q81.2.1))) fun a84 => bnd (bnd (ret w74.1) fun a82 => bnd (ret w74.2) fun a83 => ret (a82, a83)) fun a85 => eqD ((dP PyData.int PyData.int) a84) ((dP PyData.int PyData.int) a85)) else ret false) fun a87 => ret (.rt a87)))
def m_is_fraction (u : (Int × Int)) : SM Unit Bool := runB (o_is_fraction u)
def o_is_less (u : ((Int × Int) × (Int × Int))) : SM Unit (Fl Empty Empty Bool) := (bnd (bnd (bnd (bnd (ret u.1) fun a89 => ret a89.1) fun a91 => bnd (bnd (ret u.2) fun a90 => ret a90.2) fun a92 => mulM a91 a92) fun a98 => bnd (bnd (bnd (ret u.2) fun a94 => ret a94.1) fun a96 => bnd (bnd (ret u.1) fun a95 => ret a95.2) fun a97 => mulM a96 a97) fun a99 => ret (decide (a98 < a99))) fun a100 => ret (.rt a100))
def m_is_less (u : ((Int × Int) × (Int × Int))) : SM Unit Bool := runB (o_is_less u)
def o_worth (u : ((Int × Int) × (Int × Int))) : SM Unit (Fl Empty Empty (Int × Int)) := (bnd (ret u.1) fun w101 => (bnd (ret u.2) fun w102 => (bnd (bnd (bnd (bnd (bnd (ret w101.1) fun a105 => bnd (ret w102.2) fun a106 => mulM a105 a106) fun a109 => bnd (bnd (ret w101.2) fun a107 => bnd (ret w102.1) fun a108 => mulM a107 a108) fun a110 => ret (a109 + a110)) fun a113 => bnd (bnd (ret w102.2) fun a111 => bnd (ret ()) fun a112 => ret (a111, a112)) fun a114 => ret (a113, a114)) fun q115 => lft (m_lowest (q115.1, q115.2.1))) fun a116 => ret (.rt a116))))
def m_worth (u : ((Int × Int) × (Int × Int))) : SM Unit (Int × Int) := runB (o_worth u)
def o_asked_files (u : (List Int)) : SM Unit (Fl Empty Empty (List Int)) := (bnd (bnd (bnd (ret u) fun a117 => ret (enum a117)) fun xs => lcM (fun x118 => lcIt (bnd (ret x118.2) fun a119 => bnd (ret 0) fun a120 => ret (decide (a120 < a119))) (ret x118.1)) [] xs) fun a121 => ret (.rt a121))
def m_asked_files (u : (List Int)) : SM Unit (List Int) := runB (o_asked_files u)
def o_are_asks (u : (Int × (List Int))) : SM Unit (Fl Empty Empty Bool) := (bnd (bnd (bnd (bnd (ret u.2) fun a125 => ret ((a125).length : Int)) fun a123 => bnd (ret u.1) fun a124 => ret (decide (a123 = a124))) fun a130 => if a130 then (bnd (bnd (ret u.2) fun xs => lcM (fun x126 => lcIt (ret true) (bnd (ret x126) fun a127 => bnd (ret 0) fun a128 => ret (decide (a128 ≤ a127)))) [] xs) fun a129 => ret ((a129).all id)) else ret false) fun a131 => ret (.rt a131))
def m_are_asks (u : (Int × (List Int))) : SM Unit Bool := runB (o_are_asks u)
def o_is_row (u : ((List Int) × (List (Int × Int)))) : SM Unit (Fl Empty Empty Bool) := (bnd (bnd (ret u.1) fun a133 => ret ((a133).length : Int)) fun v_edge132 => (bnd (bnd (bnd (ret u.1) fun a135 => bnd (ret ()) fun a136 => ret (a135, a136)) fun q137 => lft (m_asked_files q137.1)) fun v_asked134 => (bnd (ret u.2) fun xs => lpM (forM_ xs (fun (l138 : Int) x139 => (bnd (bnd (bnd (bnd (ret v_asked134) fun a140 => ret (!(a140).isEmpty)) fun k141 => ret (!k141)) fun k153 => if k153 then ret true else (bnd (bnd (bnd (bnd (ret v_asked134) fun a142 => bnd (ret 0) fun a143 => ixM a142 a143) fun a145 => bnd (ret x139.1) fun a146 => if decide (a145 < a146) then bnd (ret x139.2) fun a147 => if decide (a146 ≤ a147) then bnd (bnd (ret u.1) fun a144 => ret ((a144).length : Int)) fun a148 => ret (decide (a147 < a148)) else ret false else ret false) fun k149 => ret (!k149)) fun k152 => if k152 then ret true else (bnd (ret x139.1) fun a150 => bnd (ret l138) fun a151 => ret (decide (a151 ≤ a150))))) fun k154 => if k154 then esc (bnd (ret false) fun a155 => ret (.rt a155)) else (bnd (bnd (bnd (bnd (ret u.1) fun a160 => bnd (ret x139.1) fun a161 => ixM a160 a161) fun a158 => bnd (ret 0) fun a159 => ret (decide (a158 = a159))) fun k168 => if k168 then ret true else (bnd (bnd (ret u.1) fun a166 => bnd (ret x139.2) fun a167 => ixM a166 a167) fun a164 => bnd (ret 0) fun a165 => ret (decide (a164 = a165)))) fun k169 => if k169 then esc (bnd (ret false) fun a170 => ret (.rt a170)) else (bnd (ret x139.1) fun v_edge171 => (ret (.nx v_edge171)))))) v_edge132) fun l138 => (bnd (ret true) fun a172 => ret (.rt a172)))))
def m_is_row (u : ((List Int) × (List (Int × Int)))) : SM Unit Bool := runB (o_is_row u)
def o_is_cost (u : (Int × Int)) : SM Unit (Fl Empty Empty Bool) := (bnd (bnd (bnd (bnd (ret u) fun a173 => bnd (ret ()) fun a174 => ret (a173, a174)) fun q175 => lft (m_is_fraction q175.1)) fun a179 => if a179 then (bnd (bnd (ret u) fun a176 => ret a176.1) fun a177 => bnd (ret 0) fun a178 => ret (decide (a178 ≤ a177))) else ret false) fun a180 => ret (.rt a180))
def m_is_cost (u : (Int × Int)) : SM Unit Bool := runB (o_is_cost u)
def o_check_row (u : ((List Int) × (List (Int × Int)))) : SM Unit (Fl Unit Empty Unit) := (bnd (bnd (bnd (bnd (ret u.1) fun a189 => bnd (bnd (ret u.2) fun a187 => bnd (ret ()) fun a188 => ret (a187, a188)) fun a190 => ret (a189, a190)) fun q191 => lft (m_is_row (q191.1, q191.2.1))) fun k192 => ret (!k192)) fun k193 => if k193 then esc stk else (ret (.nx ())))
def m_check_row (u : ((List Int) × (List (Int × Int)))) : SM Unit Unit := runP (o_check_row u)
def o_check_cost (u : (Int × Int)) : SM Unit (Fl Unit Empty Unit) := (bnd (bnd (bnd (bnd (ret u) fun a198 => bnd (ret ()) fun a199 => ret (a198, a199)) fun q200 => lft (m_is_cost q200.1)) fun k201 => ret (!k201)) fun k202 => if k202 then esc stk else (ret (.nx ())))
def m_check_cost (u : (Int × Int)) : SM Unit Unit := runP (o_check_cost u)
def o_check_asks (u : ((Int × List (Int × Int)) × (List Int))) : SM Unit (Fl Unit Empty Unit) := (bnd (bnd (bnd (bnd (bnd (ret u.1) fun a213 => bnd (nxc (lft (m_Tape_DlenD a213))) fun a214 => bnd (grd (0 ≤ a214 ∧ a214 < 2 ^ 63)) fun _ => ret a214) fun a217 => bnd (bnd (ret u.2) fun a215 => bnd (ret ()) fun a216 => ret (a215, a216)) fun a218 => ret (a217, a218)) fun q219 => lft (m_are_asks (q219.1, q219.2.1))) fun k220 => ret (!k220)) fun k221 => if k221 then esc stk else (ret (.nx ())))
def m_check_asks (u : ((Int × List (Int × Int)) × (List Int))) : SM Unit Unit := runP (o_check_asks u)
def o_fresh_runs (u : ((List Int) × (List (Int × Int)))) : SM Unit (Fl Empty Empty (List (List Int))) := (bnd (bnd (bnd (ret u.1) fun a222 => bnd (ret ()) fun a223 => ret (a222, a223)) fun q224 => lft (m_asked_files q224.1)) fun v_unread226 => (bnd (bnd (ret []) fun l225 => bnd (lenG l225) fun _ => ret l225) fun v_runs227 => (bnd (ret u.2) fun xs => lpM (forM_ xs (fun (l228 : ((List (List Int)) × (List Int))) x229 => (bnd (bnd (ret l228.2) fun xs => lcM (fun x230 => lcIt (bnd (ret x229.1) fun a231 => bnd (ret x230) fun a232 => if decide (a231 ≤ a232) then bnd (ret x229.2) fun a233 => ret (decide (a232 ≤ a233)) else ret false) (ret x230)) [] xs) fun a234 => bnd (pushM l228.1 a234) fun v_runs235 => (bnd (bnd (ret l228.2) fun xs => lcM (fun x237 => lcIt (bnd (bnd (ret x229.1) fun a238 => bnd (ret x237) fun a239 => if decide (a238 ≤ a239) then bnd (ret x229.2) fun a240 => ret (decide (a239 ≤ a240)) else ret false) fun k241 => ret (!k241)) (ret x237)) [] xs) fun v_unread236 => (ret (.nx (v_runs235, v_unread236)))))) (v_runs227, v_unread226)) fun l228 => (bnd (bnd (bnd (ret ()) fun a244 => bnd (bnd (ret l228.2) fun a242 => bnd (ret []) fun l243 => ret (a242 :: l243)) fun l245 => ret (l228.1 ++ l245)) fun l246 => bnd (lenG l246) fun _ => ret l246) fun a247 => ret (.rt a247)))))
def m_fresh_runs (u : ((List Int) × (List (Int × Int)))) : SM Unit (List (List Int)) := runB (o_fresh_runs u)
def o_way (u : ((Int × List (Int × Int)) × (List Int) × (List (Int × Int)))) : SM Unit (Fl Empty Empty (List Int)) := (bnd (bnd (bnd (ret u.1) fun a250 => bnd (bnd (ret u.2.1) fun a248 => bnd (ret ()) fun a249 => ret (a248, a249)) fun a251 => ret (a250, a251)) fun q252 => lft (m_check_asks (q252.1, q252.2.1))) fun _ => (bnd (bnd (bnd (ret u.2.1) fun a255 => bnd (bnd (ret u.2.2) fun a253 => bnd (ret ()) fun a254 => ret (a253, a254)) fun a256 => ret (a255, a256)) fun q257 => lft (m_check_row (q257.1, q257.2.1))) fun _ => (bnd (bnd (bnd (ret u.2.1) fun a259 => bnd (ret ()) fun a260 => ret (a259, a260)) fun q261 => lft (m_asked_files q261.1)) fun v_asked258 => (bnd (bnd (bnd (ret v_asked258) fun a262 => ret (!(a262).isEmpty)) fun k263 => ret (!k263)) fun k264 => if k264 then esc (bnd (bnd (bnd (bnd (ret u.1) fun a267 => nxc (lft (m_Tape_length a267))) fun a265 => bnd (ret []) fun l266 => ret (a265 :: l266)) fun l268 => bnd (lenG l268) fun _ => ret l268) fun a269 => ret (.rt a269)) else (bnd (bnd (ret []) fun l271 => bnd (lenG l271) fun _ => ret l271) fun v_stops270 => (bnd (ret u.2.2) fun xs => lpM (forM_ xs (fun (l272 : (List Int)) x273 => (bnd (bnd (bnd (bnd (bnd (ret u.1) fun a287 => bnd (ret x273.1) fun a288 => nxc (lft (m_Tape_DgetitemD (a287, a288)))) fun a289 => ret a289.1) fun a283 => bnd (bnd (bnd (bnd (ret u.1) fun a280 => bnd (ret x273.2) fun a281 => nxc (lft (m_Tape_DgetitemD (a280, a281)))) fun a282 => ret a282.2) fun a276 => bnd (ret []) fun l277 => ret (a276 :: l277)) fun l284 => ret (a283 :: l284)) fun l290 => bnd (lenG l290) fun _ => ret l290) fun a275 => bnd (catM l272 a275) fun v_stops274 => (ret (.nx v_stops274)))) v_stops270) fun l272 => (bnd (bnd (bnd (ret ()) fun a318 => bnd (bnd (bnd (bnd (ret u.1) fun a315 => bnd (bnd (ret v_asked258) fun a312 => bnd (ret 0) fun a313 => ixM a312 a313) fun a316 => nxc (lft (m_Tape_DgetitemD (a315, a316)))) fun a317 => ret a317.1) fun a309 => bnd (bnd (bnd (bnd (ret u.1) fun a306 => bnd (bnd (bnd (bnd (bnd (ret u.2.1) fun a296 => bnd (bnd (ret u.2.2) fun a294 => bnd (ret ()) fun a295 => ret (a294, a295)) fun a297 => ret (a296, a297)) fun q298 => lft (m_fresh_runs (q298.1, q298.2.1))) fun a299 => bnd (bnd (ret 1) fun a300 => ret (-a300)) fun a301 => ixM a299 a301) fun a302 => bnd (bnd (ret 1) fun a303 => ret (-a303)) fun a304 => ixM a302 a304) fun a307 => nxc (lft (m_Tape_DgetitemD (a306, a307)))) fun a308 => ret a308.2) fun a291 => bnd (ret []) fun l292 => ret (a291 :: l292)) fun l310 => ret (a309 :: l310)) fun l319 => ret (l272 ++ l319)) fun l320 => bnd (lenG l320) fun _ => ret l320) fun a321 => ret (.rt a321))))))))
def m_way (u : ((Int × List (Int × Int)) × (List Int) × (List (Int × Int)))) : SM Unit (List Int) := runB (o_way u)
def o_waits (u : ((Int × List (Int × Int)) × (List Int) × (List (Int × Int)))) : SM Unit (Fl Empty Empty (List (Option (Int × Int)))) := (bnd (bnd (bnd (ret u.1) fun a327 => bnd (bnd (ret u.2.1) fun a325 => bnd (bnd (ret u.2.2) fun a323 => bnd (ret ()) fun a324 => ret (a323, a324)) fun a326 => ret (a325, a326)) fun a328 => ret (a327, a328)) fun q329 => lft (m_way (q329.1, q329.2.1, q329.2.2.1))) fun v_stops322 => (bnd (bnd (ret u.2.1) fun xs => lcM (fun x331 => lcIt (ret true) (ret none)) [] xs) fun v_found330 => (bnd (ret 0) fun v_steps333 => (bnd (bnd (ret u.1) fun a332 => nxc (lft (m_Tape_length a332))) fun v_place334 => (bnd (bnd (bnd (ret u.2.1) fun a338 => bnd (bnd (ret u.2.2) fun a336 => bnd (ret ()) fun a337 => ret (a336, a337)) fun a339 => ret (a338, a339)) fun q340 => lft (m_fresh_runs (q340.1, q340.2.1))) fun v_runs335 => (bnd (bnd (ret v_stops322) fun a342 => ret (enum a342)) fun xs => lpM (forM_ xs (fun (l341 : ((List (Option (Int × Int))) × Int × Int)) x343 => (bnd (bnd (bnd (ret x343.1) fun a348 => bnd (ret 2) fun a349 => modM a348 a349) fun a346 => bnd (ret 1) fun a347 => ret (decide (a346 = a347))) fun k350 => thn_ (if k350 then (bnd (bnd (ret v_runs335) fun a381 => bnd (bnd (ret x343.1) fun a382 => bnd (ret 2) fun a383 => divM a382 a383) fun a384 => ixM a381 a384) fun xs => lpM (forM_ xs (fun (l380 : (List (Option (Int × Int)))) x385 => (bnd (bnd (bnd (bnd (bnd (ret l341.2.2) fun a398 => bnd (bnd (bnd (ret u.1) fun a395 => bnd (ret x385) fun a396 => nxc (lft (m_Tape_DgetitemD (a395, a396)))) fun a397 => ret a397.2) fun a399 => ret (a398 + a399)) fun a400 => bnd (ret l341.2.1) fun a401 => ret (a400 - a401)) fun a402 => bnd (ret x343.1) fun a403 => ret (a402, a403)) fun a404 => ret (some a404)) fun a405 => bnd (ret x385) fun a406 => bnd (setM l380 a406 a405) fun v_found407 => (ret (.nx v_found407)))) l341.1) fun l380 => (ret (.nx l380))) else (ret (.nx l341.1))) fun n379 => (bnd (bnd (bnd (ret x343.2) fun a410 => bnd (ret l341.2.1) fun a411 => ret (a410 - a411)) fun a412 => ret (if a412 < 0 then -a412 else a412)) fun a409 => bnd (ret (l341.2.2 + a409)) fun v_steps408 => (bnd (ret x343.2) fun v_place414 => (ret (.nx (n379, v_place414, v_steps408))))))) (v_found330, v_place334, v_steps333)) fun l341 => (bnd (ret l341.1) fun a415 => ret (.rt a415))))))))
def m_waits (u : ((Int × List (Int × Int)) × (List Int) × (List (Int × Int)))) : SM Unit (List (Option (Int × Int))) := runB (o_waits u)
def o_total (u : ((Int × List (Int × Int)) × (List Int) × (List (Int × Int)))) : SM Unit (Fl Empty Empty (Int × Int)) := (bnd (ret 0) fun v_steps416 => (bnd (bnd (ret u.2.1) fun a425 => bnd (bnd (bnd (ret u.1) fun a422 => bnd (bnd (ret u.2.1) fun a420 => bnd (bnd (ret u.2.2) fun a418 => bnd (ret ()) fun a419 => ret (a418, a419)) fun a421 => ret (a420, a421)) fun a423 => ret (a422, a423)) fun q424 => lft (m_waits (q424.1, q424.2.1, q424.2.2.1))) fun a426 => ret (a425.zip a426)) fun xs => lpM (forM_ xs (fun (l417 : (Int × Int)) x427 => (bnd (bnd (ret x427.2) fun a428 => ret (a428).isSome) fun k429 => thn_ (if k429 then (bnd (bnd (ret x427.1) fun a447 => bnd (bnd (bnd (ret x427.2) fun a446 => optM a446) fun a445 => ret a445.1) fun a448 => mulM a447 a448) fun a444 => bnd (ret (l417.1 + a444)) fun v_steps443 => (bnd (bnd (ret x427.1) fun a453 => bnd (bnd (bnd (ret x427.2) fun a452 => optM a452) fun a451 => ret a451.2) fun a454 => mulM a453 a454) fun a450 => bnd (ret (l417.2 + a450)) fun v_turns449 => (ret (.nx (v_steps443, v_turns449))))) else (ret (.nx (l417.1, l417.2)))) fun n442 => (ret (.nx (n442.1, n442.2))))) (v_steps416, v_steps416)) fun l417 => (bnd (bnd (ret l417.1) fun a455 => bnd (ret l417.2) fun a456 => ret (a455, a456)) fun a457 => ret (.rt a457))))
def m_total (u : ((Int × List (Int × Int)) × (List Int) × (List (Int × Int)))) : SM Unit (Int × Int) := runB (o_total u)
def o_longest (u : ((Int × List (Int × Int)) × (List Int) × (List (Int × Int)) × (Int × Int))) : SM Unit (Fl Empty Empty (Int × Int)) := (bnd (bnd (bnd (ret u.1) fun a463 => bnd (bnd (ret u.2.1) fun a461 => bnd (bnd (ret u.2.2.1) fun a459 => bnd (ret ()) fun a460 => ret (a459, a460)) fun a462 => ret (a461, a462)) fun a464 => ret (a463, a464)) fun q465 => lft (m_waits (q465.1, q465.2.1, q465.2.2.1))) fun v_told458 => (bnd (bnd (bnd (ret u.2.2.2) fun a466 => bnd (ret ()) fun a467 => ret (a466, a467)) fun q468 => lft (m_check_cost q468.1)) fun _ => (bnd (bnd (ret 0) fun a470 => bnd (ret 1) fun a471 => ret (a470, a471)) fun v_most469 => (bnd (ret v_told458) fun xs => lpM (forM_ xs (fun (l472 : (Int × Int)) x473 => (bnd (bnd (bnd (ret x473) fun a474 => ret (a474).isSome) fun k498 => if k498 then (bnd (bnd (ret l472) fun a495 => bnd (bnd (bnd (bnd (bnd (ret x473) fun a487 => optM a487) fun a490 => bnd (bnd (ret u.2.2.2) fun a488 => bnd (ret ()) fun a489 => ret (a488, a489)) fun a491 => ret (a490, a491)) fun q492 => lft (m_worth (q492.1, q492.2.1))) fun a493 => bnd (ret ()) fun a494 => ret (a493, a494)) fun a496 => ret (a495, a496)) fun q497 => lft (m_is_less (q497.1, q497.2.1))) else ret false) fun k499 => thn_ (if k499 then (bnd (bnd (bnd (bnd (ret x473) fun a509 => optM a509) fun a512 => bnd (bnd (ret u.2.2.2) fun a510 => bnd (ret ()) fun a511 => ret (a510, a511)) fun a513 => ret (a512, a513)) fun q514 => lft (m_worth (q514.1, q514.2.1))) fun v_most508 => (ret (.nx v_most508))) else (ret (.nx l472))) fun n507 => (ret (.nx n507)))) v_most469) fun l472 => (bnd (ret l472) fun a515 => ret (.rt a515))))))
def m_longest (u : ((Int × List (Int × Int)) × (List Int) × (List (Int × Int)) × (Int × Int))) : SM Unit (Int × Int) := runB (o_longest u)
def o_trimmed (u : ((Int × List (Int × Int)) × (List Int) × (List (Int × Int)))) : SM Unit (Fl Empty Empty (List (Int × Int))) := (bnd (bnd (bnd (ret u.1) fun a518 => bnd (bnd (ret u.2.1) fun a516 => bnd (ret ()) fun a517 => ret (a516, a517)) fun a519 => ret (a518, a519)) fun q520 => lft (m_check_asks (q520.1, q520.2.1))) fun _ => (bnd (bnd (bnd (ret u.2.1) fun a523 => bnd (bnd (ret u.2.2) fun a521 => bnd (ret ()) fun a522 => ret (a521, a522)) fun a524 => ret (a523, a524)) fun q525 => lft (m_check_row (q525.1, q525.2.1))) fun _ => (bnd (bnd (bnd (bnd (bnd (ret u.2.1) fun a528 => bnd (bnd (ret u.2.2) fun a526 => bnd (ret ()) fun a527 => ret (a526, a527)) fun a529 => ret (a528, a529)) fun q530 => lft (m_fresh_runs (q530.1, q530.2.1))) fun a531 => bnd (ret none) fun a534 => bnd (bnd (bnd (ret u.2.2) fun a532 => ret ((a532).length : Int)) fun a533 => ret (some a533)) fun a535 => ret (cutL a531 a534 a535)) fun xs => lcM (fun x536 => lcIt (ret true) (bnd (bnd (ret x536) fun a537 => bnd (ret 0) fun a538 => ixM a537 a538) fun a542 => bnd (bnd (ret x536) fun a539 => bnd (bnd (ret 1) fun a540 => ret (-a540)) fun a541 => ixM a539 a541) fun a543 => ret (a542, a543))) [] xs) fun a544 => ret (.rt a544))))
def m_trimmed (u : ((Int × List (Int × Int)) × (List Int) × (List (Int × Int)))) : SM Unit (List (Int × Int)) := runB (o_trimmed u)
def o_reading_order (u : ((Int × List (Int × Int)) × (List Int) × (List (Int × Int)))) : SM Unit (Fl Empty Empty (List Int)) := (bnd (bnd (bnd (ret u.1) fun a547 => bnd (bnd (ret u.2.1) fun a545 => bnd (ret ()) fun a546 => ret (a545, a546)) fun a548 => ret (a547, a548)) fun q549 => lft (m_check_asks (q549.1, q549.2.1))) fun _ => (bnd (bnd (bnd (ret u.2.1) fun a552 => bnd (bnd (ret u.2.2) fun a550 => bnd (ret ()) fun a551 => ret (a550, a551)) fun a553 => ret (a552, a553)) fun q554 => lft (m_check_row (q554.1, q554.2.1))) fun _ => (bnd (bnd (bnd (bnd (ret u.2.1) fun a557 => bnd (bnd (ret u.2.2) fun a555 => bnd (ret ()) fun a556 => ret (a555, a556)) fun a558 => ret (a557, a558)) fun q559 => lft (m_fresh_runs (q559.1, q559.2.1))) fun xs => lc2M (fun x560 => (ret true)) (fun x560 => (ret x560)) (fun x560 y561 => lcIt (ret true) (ret y561)) [] xs) fun a562 => ret (.rt a562))))
def m_reading_order (u : ((Int × List (Int × Int)) × (List Int) × (List (Int × Int)))) : SM Unit (List Int) := runB (o_reading_order u)
def o__law_td_sack (u : ((List Int) × Int)) : SM Unit (Fl Empty Empty (List Int)) := (bnd (bnd (bnd (ret u.2) fun a565 => bnd (bnd (ret u.1) fun a564 => ret ((a564).length : Int)) fun a566 => ret (decide (a565 < a566))) fun k569 => if k569 then (bnd (ret u.1) fun a567 => bnd (ret u.2) fun a568 => ixM a567 a568) else (ret 0)) fun v_law_cell563 => (bnd (bnd (bnd (bnd (ret 0) fun a632 => bnd (bnd (bnd (ret v_law_cell563) fun a626 => ret (if a626 < 0 then -a626 else a626)) fun a630 => bnd (bnd (ret 10) fun a628 => bnd (ret 18) fun a629 => powM a628 a629) fun a631 => ret (a630 - a631)) fun a633 => ret (if a633 > a632 then a633 else a632)) fun a622 => bnd (bnd (bnd (bnd (bnd (bnd (bnd (ret v_law_cell563) fun a604 => bnd (ret 52361) fun a605 => mulM a604 a605) fun a608 => bnd (bnd (ret u.2) fun a606 => bnd (ret 9176429) fun a607 => mulM a606 a607) fun a609 => ret (a608 + a609)) fun a610 => bnd (ret 7919) fun a611 => ret (a610 + a611)) fun a612 => ret a612) fun a620 => bnd (bnd (bnd (ret 10) fun a616 => bnd (ret 36) fun a617 => powM a616 a617) fun a618 => bnd (ret 67) fun a619 => ret (a618 + a619)) fun a621 => modM a620 a621) fun a572 => bnd (bnd (ret 0) fun a570 => bnd (ret []) fun l571 => ret (a570 :: l571)) fun l573 => ret (a572 :: l573)) fun l623 => ret (a622 :: l623)) fun l634 => bnd (lenG l634) fun _ => ret l634) fun a635 => ret (.rt a635)))
def m__law_td_sack (u : ((List Int) × Int)) : SM Unit (List Int) := runB (o__law_td_sack u)
def o__law_td_pick (u : Int) : SM (List Int) (Fl Empty Empty Int) := (bnd (bnd (bnd (ret 0) fun a636 => stIx a636) fun a637 => bnd (ret 1) fun a638 => ret (decide (a638 < a637))) fun k639 => if k639 then esc (bnd (bnd (bnd (bnd (ret 0) fun a644 => stIx a644) fun a645 => ret a645) fun a647 => bnd (ret u) fun a648 => modM a647 a648) fun v_law_drawn640 => (bnd (bnd (bnd (ret 0) fun a650 => stIx a650) fun a651 => bnd (ret u) fun a652 => divWM a651 a652) fun a653 => bnd (ret 0) fun a654 => bnd (stSet a654 a653) fun _ => (bnd (ret v_law_drawn640) fun a655 => ret (.rt a655)))) else (bnd (bnd (bnd (ret 2) fun a657 => stIx a657) fun a658 => bnd (ret 1) fun a659 => ret (a658 + a659)) fun a660 => bnd (ret 2) fun a661 => bnd (stSet a661 a660) fun _ => (bnd (bnd (bnd (bnd (bnd (bnd (ret 1) fun a693 => stIx a693) fun a697 => bnd (bnd (ret 1300190417) fun a695 => bnd (bnd (ret 2) fun a694 => stIx a694) fun a696 => mulWM a695 a696) fun a698 => ret (a697 + a698)) fun a699 => ret a699) fun a701 => bnd (ret 3) fun a702 => powM a701 a702) fun a709 => bnd (bnd (bnd (ret 10) fun a705 => bnd (ret 40) fun a706 => powM a705 a706) fun a707 => bnd (ret 121) fun a708 => ret (a707 + a708)) fun a710 => modM a709 a710) fun v_law_stirred662 => (bnd (bnd (bnd (bnd (bnd (ret v_law_stirred662) fun a738 => bnd (bnd (ret 15485863) fun a736 => bnd (bnd (ret 2) fun a735 => stIx a735) fun a737 => mulWM a736 a737) fun a739 => ret (a738 + a739)) fun a740 => ret a740) fun a742 => bnd (ret 2) fun a743 => powM a742 a743) fun a750 => bnd (bnd (bnd (ret 10) fun a746 => bnd (ret 36) fun a747 => powM a746 a747) fun a748 => bnd (ret 67) fun a749 => ret (a748 + a749)) fun a751 => modM a750 a751) fun v_law_stirred711 => (bnd (bnd (bnd (bnd (ret v_law_stirred711) fun a756 => bnd (ret 4096) fun a757 => divWM a756 a757) fun a758 => ret a758) fun a760 => bnd (ret u) fun a761 => modM a760 a761) fun a762 => ret (.rt a762))))))
def m__law_td_pick (u : Int) : SM (List Int) Int := runB (o__law_td_pick u)
def o__law_td_ratio (u : (Int × Int)) : SM Unit (Fl Empty Empty (Int × Int)) := (bnd (bnd (ret u.1) fun a763 => ret (if a763 < 0 then -a763 else a763)) fun v_law_one767 => (bnd (bnd (ret u.2) fun a765 => ret (if a765 < 0 then -a765 else a765)) fun v_law_other768 => (bnd (bnd (ret 500) fun a771 => bnd (rngG a771) fun _ => ret (upto 0 a771.toNat)) fun xs => lpM (forM_ xs (fun (l769 : (Int × Int)) x772 => (bnd (bnd (ret l769.2) fun a773 => bnd (ret 0) fun a774 => ret (decide (a773 = a774))) fun k775 => if k775 then esc (ret (.bk (l769.1, l769.2))) else (bnd (ret l769.2) fun v_law_one784 => (bnd (bnd (bnd (ret l769.1) fun a778 => ret a778) fun a782 => bnd (bnd (ret l769.2) fun a780 => ret a780) fun a783 => modM a782 a783) fun v_law_other785 => (ret (.nx (v_law_one784, v_law_other785))))))) (v_law_one767, v_law_other768)) fun l769 => (bnd (bnd (bnd (ret u.2) fun a787 => bnd (ret 0) fun a788 => ret (decide (a788 < a787))) fun k790 => if k790 then (ret 1) else (bnd (ret 1) fun a789 => ret (-a789))) fun v_law_sign786 => (bnd (bnd (bnd (bnd (ret v_law_sign786) fun a793 => bnd (ret u.1) fun a794 => mulM a793 a794) fun a795 => bnd (ret l769.1) fun a796 => divM a795 a796) fun a803 => bnd (bnd (bnd (ret v_law_sign786) fun a799 => bnd (ret u.2) fun a800 => mulM a799 a800) fun a801 => bnd (ret l769.1) fun a802 => divM a801 a802) fun a804 => ret (a803, a804)) fun a805 => ret (.rt a805))))))
def m__law_td_ratio (u : (Int × Int)) : SM Unit (Int × Int) := runB (o__law_td_ratio u)
def o__law_td_comes (u : ((Int × Int) × (Int × Int))) : SM Unit (Fl Empty Empty (Int × Int)) := (bnd (bnd (bnd (bnd (bnd (bnd (ret u.1) fun a812 => ret a812.1) fun a814 => bnd (bnd (ret u.2) fun a813 => ret a813.2) fun a815 => mulM a814 a815) fun a821 => bnd (bnd (bnd (ret u.1) fun a817 => ret a817.2) fun a819 => bnd (bnd (ret u.2) fun a818 => ret a818.1) fun a820 => mulM a819 a820) fun a822 => ret (a821 + a822)) fun a826 => bnd (bnd (bnd (ret u.2) fun a823 => ret a823.2) fun a824 => bnd (ret ()) fun a825 => ret (a824, a825)) fun a827 => ret (a826, a827)) fun q828 => lft (m__law_td_ratio (q828.1, q828.2.1))) fun a829 => ret (.rt a829))
def m__law_td_comes (u : ((Int × Int) × (Int × Int))) : SM Unit (Int × Int) := runB (o__law_td_comes u)
def o__law_td_price (u : Unit) : SM (List Int) (Fl Empty Empty (Int × Int)) := (bnd (bnd (bnd (ret ()) fun _ => bnd (bnd (bnd (bnd (bnd (ret 1) fun a835 => bnd (bnd (ret 6) fun a833 => bnd (bnd (ret 101) fun a831 => bnd (ret []) fun l832 => ret (a831 :: l832)) fun l834 => ret (a833 :: l834)) fun l836 => ret (a835 :: l836)) fun l837 => bnd (lenG l837) fun _ => ret l837) fun a838 => bnd (bnd (bnd (ret ()) fun _ => bnd (bnd (ret 3) fun a839 => bnd (ret ()) fun a840 => ret (a839, a840)) fun a842 => ret ((), a842)) fun q841 => m__law_td_pick q841.2.1) fun a843 => ixM a838 a843) fun a844 => bnd (ret ()) fun a845 => ret (a844, a845)) fun a847 => ret ((), a847)) fun q846 => m__law_td_pick q846.2.1) fun v_law_above830 => (bnd (bnd (bnd (ret v_law_above830) fun a869 => bnd (bnd (bnd (ret 1) fun a865 => bnd (bnd (bnd (ret ()) fun _ => bnd (bnd (bnd (bnd (bnd (ret 1) fun a852 => bnd (bnd (ret 5) fun a850 => bnd (bnd (ret 100) fun a848 => bnd (ret []) fun l849 => ret (a848 :: l849)) fun l851 => ret (a850 :: l851)) fun l853 => ret (a852 :: l853)) fun l854 => bnd (lenG l854) fun _ => ret l854) fun a855 => bnd (bnd (bnd (ret ()) fun _ => bnd (bnd (ret 3) fun a856 => bnd (ret ()) fun a857 => ret (a856, a857)) fun a859 => ret ((), a859)) fun q858 => m__law_td_pick q858.2.1) fun a860 => ixM a855 a860) fun a861 => bnd (ret ()) fun a862 => ret (a861, a862)) fun a864 => ret ((), a864)) fun q863 => m__law_td_pick q863.2.1) fun a866 => ret (a865 + a866)) fun a867 => bnd (ret ()) fun a868 => ret (a867, a868)) fun a870 => ret (a869, a870)) fun q871 => lft (m__law_td_ratio (q871.1, q871.2.1))) fun a872 => ret (.rt a872)))
def m__law_td_price (u : Unit) : SM (List Int) (Int × Int) := runB (o__law_td_price u)
def o__law_td_kind_row (u : (Int × Int)) : SM Unit (Fl Empty Empty (List (Int × Int))) := (bnd (bnd (ret u.1) fun a873 => bnd (ret 0) fun a874 => ret (decide (a873 = a874))) fun k875 => if k875 then esc (bnd (bnd (ret []) fun l876 => bnd (lenG l876) fun _ => ret l876) fun a877 => ret (.rt a877)) else (bnd (bnd (ret u.1) fun a878 => bnd (ret 1) fun a879 => ret (decide (a878 = a879))) fun k880 => if k880 then esc (bnd (bnd (bnd (bnd (ret u.2) fun a881 => bnd (ret 1) fun a882 => ret (a881 - a882)) fun a883 => bnd (ret 0) fun a884 => bnd (rngG a883) fun _ => bnd (rngG a884) fun _ => ret (dnto a883 (a883 - a884).toNat)) fun xs => lcM (fun x885 => lcIt (ret true) (bnd (ret x885) fun a886 => bnd (ret x885) fun a887 => ret (a886, a887))) [] xs) fun a888 => ret (.rt a888)) else (bnd (bnd (ret u.1) fun a889 => bnd (ret 2) fun a890 => ret (decide (a889 = a890))) fun k891 => if k891 then esc (bnd (bnd (bnd (ret u.2) fun a892 => bnd (ret 1) fun a893 => ret (decide (a893 < a892))) fun k902 => if k902 then (bnd (bnd (bnd (ret 1) fun a898 => bnd (bnd (ret u.2) fun a896 => bnd (ret 1) fun a897 => ret (a896 - a897)) fun a899 => ret (a898, a899)) fun a894 => bnd (ret []) fun l895 => ret (a894 :: l895)) fun l900 => bnd (lenG l900) fun _ => ret l900) else (bnd (ret []) fun l901 => bnd (lenG l901) fun _ => ret l901)) fun a903 => ret (.rt a903)) else (bnd (bnd (bnd (bnd (ret u.2) fun a904 => bnd (ret 1) fun a905 => ret (a904 - a905)) fun a906 => bnd (ret 0) fun a907 => bnd (rngG a906) fun _ => bnd (rngG a907) fun _ => ret (dnto a906 (a906 - a907).toNat)) fun xs => lcM (fun x908 => lcIt (ret true) (bnd (ret x908) fun a911 => bnd (bnd (ret u.2) fun a909 => bnd (ret 1) fun a910 => ret (a909 - a910)) fun a912 => ret (a911, a912))) [] xs) fun a913 => ret (.rt a913)))))
def m__law_td_kind_row (u : (Int × Int)) : SM Unit (List (Int × Int)) := runB (o__law_td_kind_row u)
def o__law_td_kind_wait (u : (Int × Int × Int × Int × Int × Int × Int)) : SM Unit (Fl Empty Empty (Int × Int)) := (bnd (bnd (bnd (bnd (ret u.2.1) fun a922 => bnd (ret 1) fun a923 => ret (a922 - a923)) fun a924 => bnd (ret u.2.2.2.1) fun a925 => mulM a924 a925) fun a926 => bnd (ret u.2.2.1) fun a927 => ret (a926 + a927)) fun v_law_reach934 => (bnd (bnd (bnd (ret u.2.1) fun a930 => bnd (ret 1) fun a931 => ret (a930 - a931)) fun a932 => bnd (ret u.2.2.2.2.2.2) fun a933 => ret (a932 - a933)) fun v_law_ahead935 => (bnd (bnd (bnd (ret u.1) fun a936 => bnd (ret 0) fun a937 => ret (decide (a936 = a937))) fun k940 => if k940 then ret true else (bnd (ret u.2.1) fun a938 => bnd (ret 1) fun a939 => ret (decide (a938 = a939)))) fun k941 => if k941 then esc (bnd (bnd (bnd (bnd (bnd (ret v_law_reach934) fun a952 => bnd (ret u.2.2.2.2.2.1) fun a953 => ret (a952 + a953)) fun a956 => bnd (bnd (ret u.2.2.2.2.2.2) fun a954 => bnd (ret u.2.2.2.1) fun a955 => mulM a954 a955) fun a957 => ret (a956 + a957)) fun a958 => bnd (ret u.2.2.1) fun a959 => ret (a958 + a959)) fun a960 => bnd (ret 1) fun a961 => ret (a960, a961)) fun a962 => ret (.rt a962)) else (bnd (bnd (ret u.1) fun a963 => bnd (ret 1) fun a964 => ret (decide (a963 = a964))) fun k965 => if k965 then esc (bnd (bnd (bnd (bnd (ret u.2.2.2.2.2.1) fun a972 => bnd (bnd (ret 2) fun a970 => bnd (ret u.2.2.1) fun a971 => mulM a970 a971) fun a973 => ret (a972 + a973)) fun a982 => bnd (bnd (ret v_law_ahead935) fun a980 => bnd (bnd (bnd (ret 2) fun a976 => bnd (ret u.2.2.1) fun a977 => mulM a976 a977) fun a978 => bnd (ret u.2.2.2.1) fun a979 => ret (a978 + a979)) fun a981 => mulM a980 a981) fun a983 => ret (a982 + a983)) fun a990 => bnd (bnd (bnd (ret 2) fun a986 => bnd (ret v_law_ahead935) fun a987 => mulM a986 a987) fun a988 => bnd (ret 1) fun a989 => ret (a988 + a989)) fun a991 => ret (a990, a991)) fun a992 => ret (.rt a992)) else (bnd (bnd (ret u.1) fun a993 => bnd (ret 2) fun a994 => ret (decide (a993 = a994))) fun k995 => if k995 then esc (bnd (bnd (ret u.2.2.2.2.2.2) fun a996 => bnd (ret 0) fun a997 => ret (decide (a996 = a997))) fun k998 => if k998 then esc (bnd (bnd (bnd (bnd (bnd (ret u.2.2.2.2.2.1) fun a1017 => bnd (bnd (ret 3) fun a1015 => bnd (ret v_law_reach934) fun a1016 => mulM a1015 a1016) fun a1018 => ret (a1017 + a1018)) fun a1021 => bnd (bnd (ret 2) fun a1019 => bnd (ret u.2.2.2.1) fun a1020 => mulM a1019 a1020) fun a1022 => ret (a1021 - a1022)) fun a1023 => bnd (ret u.2.2.1) fun a1024 => ret (a1023 + a1024)) fun a1025 => bnd (ret 3) fun a1026 => ret (a1025, a1026)) fun a1027 => ret (.rt a1027)) else (bnd (bnd (bnd (bnd (bnd (bnd (ret u.2.2.2.2.2.1) fun a1056 => bnd (ret v_law_reach934) fun a1057 => ret (a1056 + a1057)) fun a1058 => bnd (ret u.2.2.2.1) fun a1059 => ret (a1058 - a1059)) fun a1066 => bnd (bnd (bnd (ret u.2.2.2.2.2.2) fun a1062 => bnd (ret 1) fun a1063 => ret (a1062 - a1063)) fun a1064 => bnd (ret u.2.2.2.1) fun a1065 => mulM a1064 a1065) fun a1067 => ret (a1066 + a1067)) fun a1068 => bnd (ret u.2.2.1) fun a1069 => ret (a1068 + a1069)) fun a1070 => bnd (ret 1) fun a1071 => ret (a1070, a1071)) fun a1072 => ret (.rt a1072))) else (bnd (bnd (bnd (bnd (ret u.2.2.2.2.2.1) fun a1096 => bnd (bnd (ret 2) fun a1094 => bnd (ret u.2.2.1) fun a1095 => mulM a1094 a1095) fun a1097 => ret (a1096 + a1097)) fun a1104 => bnd (bnd (bnd (ret 2) fun a1100 => bnd (ret u.2.2.1) fun a1101 => mulM a1100 a1101) fun a1102 => bnd (ret v_law_ahead935) fun a1103 => mulM a1102 a1103) fun a1105 => ret (a1104 + a1105)) fun a1112 => bnd (bnd (bnd (ret u.2.2.2.1) fun a1108 => bnd (ret v_law_ahead935) fun a1109 => mulM a1108 a1109) fun a1110 => bnd (ret v_law_ahead935) fun a1111 => mulM a1110 a1111) fun a1113 => ret (a1112 + a1113)) fun v_law_steps1073 => (bnd (bnd (ret v_law_steps1073) fun a1120 => bnd (bnd (bnd (ret 2) fun a1116 => bnd (ret v_law_ahead935) fun a1117 => mulM a1116 a1117) fun a1118 => bnd (ret 1) fun a1119 => ret (a1118 + a1119)) fun a1121 => ret (a1120, a1121)) fun a1122 => ret (.rt a1122))))))))
def m__law_td_kind_wait (u : (Int × Int × Int × Int × Int × Int × Int)) : SM Unit (Int × Int) := runB (o__law_td_kind_wait u)
def o__law_td_right (u : Unit) : SM (List Int) (Fl Empty Empty Bool) := (bnd (bnd (bnd (ret 1) fun a1127 => bnd (bnd (bnd (ret ()) fun _ => bnd (bnd (ret 60) fun a1123 => bnd (ret ()) fun a1124 => ret (a1123, a1124)) fun a1126 => ret ((), a1126)) fun q1125 => m__law_td_pick q1125.2.1) fun a1128 => ret (a1127 + a1128)) fun a1139 => bnd (bnd (ret 1) fun a1133 => bnd (bnd (bnd (ret ()) fun _ => bnd (bnd (ret 8000) fun a1129 => bnd (ret ()) fun a1130 => ret (a1129, a1130)) fun a1132 => ret ((), a1132)) fun q1131 => m__law_td_pick q1131.2.1) fun a1134 => ret (a1133 + a1134)) fun a1140 => bnd (bnd (bnd (ret ()) fun _ => bnd (bnd (ret 8000) fun a1135 => bnd (ret ()) fun a1136 => ret (a1135, a1136)) fun a1138 => ret ((), a1138)) fun q1137 => m__law_td_pick q1137.2.1) fun a1141 => ret (a1139, a1140, a1141)) fun w1142 => (bnd (bnd (bnd (bnd (ret 0) fun a1146 => bnd (bnd (ret w1142.2.2) fun a1144 => bnd (ret []) fun l1145 => ret (a1144 :: l1145)) fun l1147 => ret (a1146 :: l1147)) fun l1148 => bnd (lenG l1148) fun _ => ret l1148) fun a1149 => bnd (bnd (bnd (ret ()) fun _ => bnd (bnd (ret 2) fun a1150 => bnd (ret ()) fun a1151 => ret (a1150, a1151)) fun a1153 => ret ((), a1153)) fun q1152 => m__law_td_pick q1152.2.1) fun a1154 => ixM a1149 a1154) fun v_law_gap1143 => (bnd (bnd (bnd (bnd (ret ()) fun _ => bnd (bnd (ret 10000) fun a1155 => bnd (ret ()) fun a1156 => ret (a1155, a1156)) fun a1158 => ret ((), a1158)) fun q1157 => m__law_td_pick q1157.2.1) fun a1169 => bnd (bnd (bnd (ret ()) fun _ => bnd (bnd (ret 10000) fun a1159 => bnd (ret ()) fun a1160 => ret (a1159, a1160)) fun a1162 => ret ((), a1162)) fun q1161 => m__law_td_pick q1161.2.1) fun a1170 => bnd (bnd (ret 1) fun a1167 => bnd (bnd (bnd (ret ()) fun _ => bnd (bnd (ret 20) fun a1163 => bnd (ret ()) fun a1164 => ret (a1163, a1164)) fun a1166 => ret ((), a1166)) fun q1165 => m__law_td_pick q1165.2.1) fun a1168 => ret (a1167 + a1168)) fun a1171 => ret (a1169, a1170, a1171)) fun w1172 => (bnd (bnd (bnd (ret w1142.2.1) fun a1173 => bnd (ret v_law_gap1143) fun a1174 => ret (a1173 + a1174)) fun a1181 => bnd (bnd (bnd (ret ()) fun _ => bnd (bnd (ret 4) fun a1175 => bnd (ret ()) fun a1176 => ret (a1175, a1176)) fun a1178 => ret ((), a1178)) fun q1177 => m__law_td_pick q1177.2.1) fun a1182 => bnd (bnd (bnd (ret ()) fun _ => bnd (ret ()) fun a1180 => ret ((), a1180)) fun q1179 => m__law_td_price ()) fun a1183 => ret (a1181, a1182, a1183)) fun w1184 => (bnd (bnd (bnd (ret w1142.1) fun a1187 => bnd (rngG a1187) fun _ => ret (upto 0 a1187.toNat)) fun xs => lcM (fun x1188 => lcIt (ret true) (bnd (ret w1172.1) fun a1191 => bnd (bnd (ret x1188) fun a1189 => bnd (ret w1184.1) fun a1190 => mulM a1189 a1190) fun a1192 => ret (a1191 + a1192))) [] xs) fun v_law_begins1185 => (bnd (bnd (bnd (bnd (bnd (bnd (ret v_law_begins1185) fun a1205 => bnd (bnd (ret 1) fun a1206 => ret (-a1206)) fun a1207 => ixM a1205 a1207) fun a1208 => bnd (ret w1142.2.1) fun a1209 => ret (a1208 + a1209)) fun a1210 => bnd (ret w1172.2.1) fun a1211 => ret (a1210 + a1211)) fun a1219 => bnd (bnd (bnd (ret v_law_begins1185) fun xs => lcM (fun x1212 => lcIt (ret true) (bnd (ret x1212) fun a1215 => bnd (bnd (ret x1212) fun a1213 => bnd (ret w1142.2.1) fun a1214 => ret (a1213 + a1214)) fun a1216 => ret (a1215, a1216))) [] xs) fun a1217 => bnd (ret ()) fun a1218 => ret (a1217, a1218)) fun a1220 => ret (a1219, a1220)) fun q1221 => bnd (subM (m_Tape_DinitD (q1221.1, q1221.2.1)) TS0.new) fun r1222 => tapeM r1222.2) fun v_law_made1193 => (bnd (bnd (ret v_law_begins1185) fun xs => lcM (fun x1223 => lcIt (ret true) (ret w1172.2.2)) [] xs) fun v_law_counts1229 => (bnd (bnd (bnd (ret w1184.2.1) fun a1226 => bnd (bnd (ret w1142.1) fun a1224 => bnd (ret ()) fun a1225 => ret (a1224, a1225)) fun a1227 => ret (a1226, a1227)) fun q1228 => lft (m__law_td_kind_row (q1228.1, q1228.2.1))) fun v_law_bends1230 => (bnd (bnd (bnd (ret w1142.1) fun a1233 => bnd (rngG a1233) fun _ => ret (upto 0 a1233.toNat)) fun xs => lcM (fun x1234 => lcIt (ret true) (bnd (bnd (ret w1184.2.1) fun a1247 => bnd (bnd (ret w1142.1) fun a1245 => bnd (bnd (ret w1142.2.1) fun a1243 => bnd (bnd (ret w1184.1) fun a1241 => bnd (bnd (ret w1172.1) fun a1239 => bnd (bnd (ret w1172.2.1) fun a1237 => bnd (bnd (ret x1234) fun a1235 => bnd (ret ()) fun a1236 => ret (a1235, a1236)) fun a1238 => ret (a1237, a1238)) fun a1240 => ret (a1239, a1240)) fun a1242 => ret (a1241, a1242)) fun a1244 => ret (a1243, a1244)) fun a1246 => ret (a1245, a1246)) fun a1248 => ret (a1247, a1248)) fun q1249 => lft (m__law_td_kind_wait (q1249.1, q1249.2.1, q1249.2.2.1, q1249.2.2.2.1, q1249.2.2.2.2.1, q1249.2.2.2.2.2.1, q1249.2.2.2.2.2.2.1)))) [] xs) fun v_law_told1231 => (bnd (bnd (bnd (ret ()) fun _ => bnd (bnd (ret w1142.1) fun a1251 => bnd (ret ()) fun a1252 => ret (a1251, a1252)) fun a1254 => ret ((), a1254)) fun q1253 => m__law_td_pick q1253.2.1) fun v_law_number1250 => (bnd (bnd (bnd (bnd (bnd (bnd (ret v_law_made1193) fun a1274 => bnd (bnd (ret v_law_counts1229) fun a1272 => bnd (bnd (ret v_law_bends1230) fun a1270 => bnd (ret ()) fun a1271 => ret (a1270, a1271)) fun a1273 => ret (a1272, a1273)) fun a1275 => ret (a1274, a1275)) fun q1276 => lft (m_waits (q1276.1, q1276.2.1, q1276.2.2.1))) fun a1277 => bnd (ret v_law_number1250) fun a1278 => ixM a1277 a1278) fun a1279 => reprM ((dO (dP PyData.int PyData.int)) a1279)) fun a1268 => bnd (bnd (bnd (ret v_law_told1231) fun a1280 => bnd (ret v_law_number1250) fun a1281 => ixM a1280 a1281) fun a1282 => reprM ((dP PyData.int PyData.int) a1282)) fun a1269 => ret (!decide (a1268 = a1269))) fun k1283 => if k1283 then esc (bnd (ret false) fun a1284 => ret (.rt a1284)) else (bnd (bnd (bnd (ret w1172.2.2) fun a1289 => bnd (bnd (bnd (ret v_law_told1231) fun xs => lcM (fun x1286 => lcIt (ret true) (bnd (ret x1286) fun a1287 => ret a1287.1)) [] xs) fun a1288 => ret (a1288).sum) fun a1290 => mulM a1289 a1290) fun a1296 => bnd (bnd (ret w1172.2.2) fun a1294 => bnd (bnd (bnd (ret v_law_told1231) fun xs => lcM (fun x1291 => lcIt (ret true) (bnd (ret x1291) fun a1292 => ret a1292.2)) [] xs) fun a1293 => ret (a1293).sum) fun a1295 => mulM a1294 a1295) fun a1297 => ret (a1296, a1297)) fun v_law_owed1285 => (bnd (bnd (bnd (bnd (ret w1184.2.1) fun a1299 => bnd (bnd (ret 1) fun a1301 => bnd (ret 3) fun a1302 => ret (a1301, a1302)) fun a1300 => ret (([a1300.1, a1300.2]).any (· == a1299))) fun k1309 => if k1309 then ret true else (bnd (bnd (ret w1184.2.1) fun a1304 => bnd (ret 2) fun a1305 => ret (decide (a1304 = a1305))) fun k1308 => if k1308 then (bnd (ret w1142.1) fun a1306 => bnd (ret 1) fun a1307 => ret (decide (a1307 < a1306))) else ret false)) fun k1312 => if k1312 then (ret 0) else (bnd (ret w1142.1) fun a1310 => bnd (ret 1) fun a1311 => ret (a1310 - a1311))) fun v_law_last1298 => (bnd (bnd (bnd (bnd (bnd (ret v_law_made1193) fun a1328 => bnd (bnd (ret v_law_counts1229) fun a1326 => bnd (bnd (ret v_law_bends1230) fun a1324 => bnd (ret ()) fun a1325 => ret (a1324, a1325)) fun a1327 => ret (a1326, a1327)) fun a1329 => ret (a1328, a1329)) fun q1330 => lft (m_total (q1330.1, q1330.2.1, q1330.2.2.1))) fun a1331 => reprM ((dP PyData.int PyData.int) a1331)) fun a1322 => bnd (bnd (ret v_law_owed1285) fun a1332 => reprM ((dP PyData.int PyData.int) a1332)) fun a1323 => ret (!decide (a1322 = a1323))) fun k1333 => if k1333 then esc (bnd (ret false) fun a1334 => ret (.rt a1334)) else (bnd (bnd (bnd (bnd (bnd (ret v_law_made1193) fun a1361 => bnd (bnd (ret v_law_counts1229) fun a1359 => bnd (bnd (ret v_law_bends1230) fun a1357 => bnd (bnd (ret w1184.2.2) fun a1355 => bnd (ret ()) fun a1356 => ret (a1355, a1356)) fun a1358 => ret (a1357, a1358)) fun a1360 => ret (a1359, a1360)) fun a1362 => ret (a1361, a1362)) fun q1363 => lft (m_longest (q1363.1, q1363.2.1, q1363.2.2.1, q1363.2.2.2.1))) fun a1364 => reprM ((dP PyData.int PyData.int) a1364)) fun a1353 => bnd (bnd (bnd (bnd (bnd (ret v_law_told1231) fun a1365 => bnd (ret v_law_last1298) fun a1366 => ixM a1365 a1366) fun a1369 => bnd (bnd (ret w1184.2.2) fun a1367 => bnd (ret ()) fun a1368 => ret (a1367, a1368)) fun a1370 => ret (a1369, a1370)) fun q1371 => lft (m__law_td_comes (q1371.1, q1371.2.1))) fun a1372 => reprM ((dP PyData.int PyData.int) a1372)) fun a1354 => ret (!decide (a1353 = a1354))) fun k1373 => if k1373 then esc (bnd (ret false) fun a1374 => ret (.rt a1374)) else (bnd (bnd (bnd (ret v_law_made1193) fun a1380 => bnd (bnd (ret v_law_counts1229) fun a1378 => bnd (bnd (ret v_law_bends1230) fun a1376 => bnd (ret ()) fun a1377 => ret (a1376, a1377)) fun a1379 => ret (a1378, a1379)) fun a1381 => ret (a1380, a1381)) fun q1382 => lft (m_way (q1382.1, q1382.2.1, q1382.2.2.1))) fun v_law_stops1375 => (bnd (bnd (bnd (bnd (ret v_law_stops1375) fun a1394 => ret ((a1394).length : Int)) fun a1392 => bnd (bnd (bnd (ret 2) fun a1399 => bnd (bnd (ret v_law_bends1230) fun a1398 => ret ((a1398).length : Int)) fun a1400 => mulM a1399 a1400) fun a1401 => bnd (ret 2) fun a1402 => ret (a1401 + a1402)) fun a1393 => ret (!decide (a1392 = a1393))) fun k1432 => if k1432 then ret true else (bnd (bnd (bnd (ret v_law_stops1375) fun a1408 => bnd (bnd (ret 2) fun a1409 => ret (-a1409)) fun a1410 => ixM a1408 a1410) fun a1406 => bnd (ret w1172.1) fun a1407 => ret (!decide (a1406 = a1407))) fun k1431 => if k1431 then ret true else (bnd (bnd (ret v_law_stops1375) fun a1422 => bnd (bnd (ret 1) fun a1423 => ret (-a1423)) fun a1424 => ixM a1422 a1424) fun a1420 => bnd (bnd (bnd (ret v_law_begins1185) fun a1427 => bnd (ret v_law_last1298) fun a1428 => ixM a1427 a1428) fun a1429 => bnd (ret w1142.2.1) fun a1430 => ret (a1429 + a1430)) fun a1421 => ret (!decide (a1420 = a1421))))) fun k1433 => if k1433 then esc (bnd (ret false) fun a1434 => ret (.rt a1434)) else (bnd (bnd (bnd (ret w1184.2.1) fun a1436 => bnd (bnd (ret 1) fun a1438 => bnd (ret 3) fun a1439 => ret (a1438, a1439)) fun a1437 => ret (([a1437.1, a1437.2]).any (· == a1436))) fun k1448 => if k1448 then (bnd (bnd (ret w1142.1) fun a1441 => bnd (ret 1) fun a1442 => ret (a1441 - a1442)) fun a1444 => bnd (bnd (ret 1) fun a1443 => ret (-a1443)) fun a1445 => bnd (grd (RgOk a1445 a1444)) fun _ => ret (dnto a1444 (a1444 - a1445).toNat)) else (bnd (ret w1142.1) fun a1447 => bnd (grd (RgOk 0 a1447)) fun _ => ret (upto 0 a1447.toNat))) fun v_law_order1435 => (bnd (bnd (ret w1184.2.1) fun a1449 => bnd (ret 2) fun a1450 => ret (decide (a1449 = a1450))) fun k1451 => thn_ (if k1451 then (bnd (bnd (bnd (ret 1) fun a1462 => bnd (ret w1142.1) fun a1463 => bnd (grd (RgOk a1462 a1463)) fun _ => ret (upto a1462 (a1463 - a1462).toNat)) fun a1467 => bnd (bnd (bnd (ret 0) fun a1464 => bnd (ret []) fun l1465 => ret (a1464 :: l1465)) fun l1466 => bnd (lenG l1466) fun _ => ret l1466) fun a1468 => catM a1467 a1468) fun v_law_order1461 => (ret (.nx v_law_order1461))) else (ret (.nx v_law_order1435))) fun n1460 => (bnd (bnd (bnd (bnd (ret v_law_made1193) fun a1473 => bnd (bnd (ret v_law_counts1229) fun a1471 => bnd (bnd (ret v_law_bends1230) fun a1469 => bnd (ret ()) fun a1470 => ret (a1469, a1470)) fun a1472 => ret (a1471, a1472)) fun a1474 => ret (a1473, a1474)) fun q1475 => lft (m_trimmed (q1475.1, q1475.2.1, q1475.2.2.1))) fun a1492 => bnd (bnd (bnd (bnd (bnd (bnd (ret 0) fun a1482 => bnd (bnd (ret 1) fun a1480 => bnd (bnd (ret 2) fun a1478 => bnd (bnd (ret 1) fun a1476 => bnd (ret []) fun l1477 => ret (a1476 :: l1477)) fun l1479 => ret (a1478 :: l1479)) fun l1481 => ret (a1480 :: l1481)) fun l1483 => ret (a1482 :: l1483)) fun l1484 => bnd (lenG l1484) fun _ => ret l1484) fun a1485 => bnd (ret w1184.2.1) fun a1486 => ixM a1485 a1486) fun a1489 => bnd (bnd (ret w1142.1) fun a1487 => bnd (ret ()) fun a1488 => ret (a1487, a1488)) fun a1490 => ret (a1489, a1490)) fun q1491 => lft (m__law_td_kind_row (q1491.1, q1491.2.1))) fun a1493 => neD ((dL (dP PyData.int PyData.int)) a1492) ((dL (dP PyData.int PyData.int)) a1493)) fun k1494 => if k1494 then esc (bnd (ret false) fun a1495 => ret (.rt a1495)) else (bnd (bnd (bnd (bnd (ret v_law_made1193) fun a1500 => bnd (bnd (ret v_law_counts1229) fun a1498 => bnd (bnd (ret v_law_bends1230) fun a1496 => bnd (ret ()) fun a1497 => ret (a1496, a1497)) fun a1499 => ret (a1498, a1499)) fun a1501 => ret (a1500, a1501)) fun q1502 => lft (m_reading_order (q1502.1, q1502.2.1, q1502.2.2.1))) fun a1503 => bnd (ret n1460) fun a1504 => eqD ((dL PyData.int) a1503) ((dL PyData.int) a1504)) fun a1505 => ret (.rt a1505))))))))))))))))))))))
def m__law_td_right (u : Unit) : SM (List Int) Bool := runB (o__law_td_right u)
def o_law (u : (List Int)) : SM Unit (Fl Empty Empty Bool) := (bnd (bnd (bnd (ret 1) fun a1510 => bnd (bnd (ret 4) fun a1508 => bnd (bnd (ret u) fun a1507 => ret ((a1507).length : Int)) fun a1509 => ret (if a1509 < a1508 then a1509 else a1508)) fun a1511 => ret (if a1511 > a1510 then a1511 else a1510)) fun a1513 => bnd (rngG a1513) fun _ => ret (upto 0 a1513.toNat)) fun xs => lpM (forM_ xs (fun (l1506 : Unit) x1514 => (bnd (bnd (bnd (bnd (bnd (bnd (ret u) fun a1528 => bnd (bnd (ret x1514) fun a1526 => bnd (ret ()) fun a1527 => ret (a1526, a1527)) fun a1529 => ret (a1528, a1529)) fun q1530 => lft (m__law_td_sack (q1530.1, q1530.2.1))) fun a1531 => bnd (ret ()) fun a1532 => ret (a1531, a1532)) fun q1525 => bnd (subM (m__law_td_right ()) q1525.1) fun r1533 => ret r1533.1) fun k1534 => ret (!k1534)) fun k1535 => if k1535 then esc (bnd (ret false) fun a1536 => ret (.rt a1536)) else (ret (.nx ())))) ()) fun l1506 => (bnd (ret true) fun a1537 => ret (.rt a1537)))
def m_law (u : (List Int)) : SM Unit Bool := runB (o_law u)
end Tk

set_option Elab.async false
set_option linter.all false
set_option maxRecDepth 100000
set_option maxHeartbeats 4000000
namespace Tk
open PySem PySem.Spec PyProof.Rows L2 He Td
section
variable {P : Program} {w : World} {K : PySem.W.Frag} {mg : Str → Option Value} {base : Heap} {fd : FuncData}
theorem sc_Tape_DinitD : FnScope ["self", "length", "files", "begin", "edge", "end"] ["self", "length", "files"] (defScope (Hd.ms 31 1)) := ⟨rfl, rfl, rfl, by decide +kernel, rfl, by decide +kernel, by decide +kernel⟩
theorem ok_Tape_DinitD (f_tuple : mg "tuple" = none) (t_cls : TapeCls K) (FD : FunD K "__init__" "Tape.__init__" (defArgs (Hd.ms 31 1)) (defBody (Hd.ms 31 1)) (defScope (Hd.ms 31 1)) [] [] (He.ma K (tapeC K) "__init__") fd) : FnOk P w K mg base (L2.CX P w) 1 (He.ma K (tapeC K) "__init__") fd ["self", "length", "files"] (SpI K 3 rSelf (fun u : (Int × (List (Int × Int))) => [.is rInt u.1, .is (sh (rList (rPair rInt rInt))) u.2]) rNon m_Tape_DinitD) :=
  fn_ioP (k := 0) FD sc_Tape_DinitD o_Tape_DinitD (fun _ => rfl) fun u v0 cdv A outer s H E hr F hio hW => ⟨_, (bx_nf (fun s => [.pn v0 rSelf s, .is rInt u.1, .is (sh (rList (rPair rInt rInt))) u.2, .un, .un, .un]) (fun _ => rfl) (bx_ifr (GE_ := fun e _ => e.elim) (et_cmp op_lt (vo_B0 fun i j => decide (i < j)) (fun _ _ => stl_ret _) (ex_var 1 cp_int fun _ => rfl) ex_int rfl) (bx_nf (fun s => [.pn v0 rSelf s, .is rInt u.1, .is (sh (rList (rPair rInt rInt))) u.2, .un, .un, .un]) (fun _ => rfl) bx_no) (bx_nf (fun s => [.pn v0 rSelf s, .is rInt u.1, .is (sh (rList (rPair rInt rInt))) u.2, .un, .un, .un]) (fun _ => rfl) (bx_asg 4 sc_Tape_DinitD.nd ex_int (fun v_edge4 => (bx_nf (fun s => [.pn v0 rSelf s, .is rInt u.1, .is (sh (rList (rPair rInt rInt))) u.2, .un, .is rInt v_edge4, .un]) (fun _ => rfl) (bx_for (Gt := fun (l5 : Int) s (x6 : (Int × Int)) => [.pn v0 rSelf s, .is rInt u.1, .is (sh (rList (rPair rInt rInt))) u.2, .is rInt x6.1, .is rInt l5, .is rInt x6.2]) (passes_of rfl) rfl (fun (l5 : Int) s => [.pn v0 rSelf s, .is rInt u.1, .is (sh (rList (rPair rInt rInt))) u.2, .un, .is rInt l5, .un]) v_edge4 (ei_sh (ex_var 2 cp_sh fun _ => rfl) (cp_pair cp_int cp_int)) (fun _ => (.eq (.eq (.eq (.eq (.eq (.eq .nil))))))) (fun _ _ => trivial) (fun l5 _ => (eg_pair rfl (eg_name (i := 3) rfl sc_Tape_DinitD.nd) (fun _ => (eg_name (i := 5) rfl sc_Tape_DinitD.nd)) inferInstance)) (fun l5 x6 => (bx_nf (fun s => [.pn v0 rSelf s, .is rInt u.1, .is (sh (rList (rPair rInt rInt))) u.2, .is rInt x6.1, .is rInt l5, .is rInt x6.2]) (fun _ => rfl) (bx_ifr (GE_ := fun e _ => e.elim) (et_not (et_chain3 ci_le ci_lt ci_le (ex_var 4 cp_int fun _ => rfl) (ex_var 3 cp_int fun _ => rfl) (ex_var 5 cp_int fun _ => rfl) (ex_var 1 cp_int fun _ => rfl))) (bx_nf (fun s => [.pn v0 rSelf s, .is rInt u.1, .is (sh (rList (rPair rInt rInt))) u.2, .is rInt x6.1, .is rInt l5, .is rInt x6.2]) (fun _ => rfl) bx_no) (bx_nf (fun s => [.pn v0 rSelf s, .is rInt u.1, .is (sh (rList (rPair rInt rInt))) u.2, .is rInt x6.1, .is rInt l5, .is rInt x6.2]) (fun _ => rfl) (bx_asg 4 sc_Tape_DinitD.nd (ex_var 5 cp_int fun _ => rfl) (fun v_edge13 => (bx_end v_edge13 fun _ => (.eq (.eq (.eq (.un (.eq (.un .nil)))))))) inferInstance (fun _ => rfl)))))) (fun l5 => (bx_nf (fun s => [.pn v0 rSelf s, .is rInt u.1, .is (sh (rList (rPair rInt rInt))) u.2, .un, .is rInt l5, .un]) (fun _ => rfl) (bx_ext t_cls (ex_var 1 cp_int fun _ => rfl) (fun _ => rfl) (fun _ _ => rfl) (bx_nf (fun s => [.pn v0 rSelf s, .is rInt u.1, .is (sh (rList (rPair rInt rInt))) u.2, .un, .is rInt l5, .un]) (fun _ => rfl) (bx_kept t_cls (ex_tuple (eo_t (ex_var 2 cp_sh fun _ => rfl)) (cp_pair cp_int cp_int) (fun _ _ => .ts) rfl f_tuple) (fun _ => rfl) (fun _ _ => rfl) (bx_end () fun _ => (.eq (.un (.un (.eq (.un (.eq .nil)))))))))))) inferInstance inferInstance))) inferInstance (fun _ => rfl)))))⟩
theorem sc_Tape_length : FnScope ["self"] ["self"] (defScope (Hd.ms 31 2)) := ⟨rfl, rfl, rfl, by decide +kernel, rfl, by decide +kernel, by decide +kernel⟩
theorem ok_Tape_length  (t_cls : TapeCls K) (FD : FunD K "length" "Tape.length" (defArgs (Hd.ms 31 2)) (defBody (Hd.ms 31 2)) (defScope (Hd.ms 31 2)) [] [] (pgA K (tapeC K) "length") fd) : FnOk P w K mg base (L2.CX P w) 1 (pgA K (tapeC K) "length") fd ["self"] (SpP K 1 (fun u : (Int × List (Int × Int)) => [.is (sh rTape) u]) rInt m_Tape_length) :=
  fn_pure (k := 0) FD sc_Tape_length o_Tape_length (fun _ => rfl) fun u cdv A outer s H E hr F hio hW => ⟨_, (bx_nf (fun s => [.is (sh rTape) u]) (fun _ => rfl) (bx_ret (ex_extent t_cls (eo_t (ex_var 0 cp_sh fun _ => rfl)) fun _ _ => .ts) (wio hio fun _ => (.un .nil))))⟩
theorem sc_Tape_files : FnScope ["self"] ["self"] (defScope (Hd.ms 31 3)) := ⟨rfl, rfl, rfl, by decide +kernel, rfl, by decide +kernel, by decide +kernel⟩
theorem ok_Tape_files (f_list : mg "list" = none) (t_cls : TapeCls K) (FD : FunD K "files" "Tape.files" (defArgs (Hd.ms 31 3)) (defBody (Hd.ms 31 3)) (defScope (Hd.ms 31 3)) [] [] (pgA K (tapeC K) "files") fd) : FnOk P w K mg base (L2.CX P w) 1 (pgA K (tapeC K) "files") fd ["self"] (SpP K 1 (fun u : (Int × List (Int × Int)) => [.is (sh rTape) u]) (rList (rPair rInt rInt)) m_Tape_files) :=
  fn_pure (k := 0) FD sc_Tape_files o_Tape_files (fun _ => rfl) fun u cdv A outer s H E hr F hio hW => ⟨_, (bx_nf (fun s => [.is (sh rTape) u]) (fun _ => rfl) (bx_ret (ex_listT (eo_t (ex_kept t_cls (eo_t (ex_var 0 cp_sh fun _ => rfl)) fun _ _ => .ts)) (cp_pair cp_int cp_int) (fun _ _ => .t) rfl f_list) (wio hio fun _ => (.un .nil))))⟩
theorem sc_Tape_DlenD : FnScope ["self"] ["self"] (defScope (Hd.ms 31 4)) := ⟨rfl, rfl, rfl, by decide +kernel, rfl, by decide +kernel, by decide +kernel⟩
theorem ok_Tape_DlenD (f_len : mg "len" = none) (t_cls : TapeCls K) (FD : FunD K "__len__" "Tape.__len__" (defArgs (Hd.ms 31 4)) (defBody (Hd.ms 31 4)) (defScope (Hd.ms 31 4)) [] [] (He.ma K (tapeC K) "__len__") fd) : FnOk P w K mg base (L2.CX P w) 1 (He.ma K (tapeC K) "__len__") fd ["self"] (SpP K 1 (fun u : (Int × List (Int × Int)) => [.is (sh rTape) u]) rInt m_Tape_DlenD) :=
  fn_pure (k := 0) FD sc_Tape_DlenD o_Tape_DlenD (fun _ => rfl) fun u cdv A outer s H E hr F hio hW => ⟨_, (bx_nf (fun s => [.is (sh rTape) u]) (fun _ => rfl) (bx_ret (ex_lenT (eo_t (ex_kept t_cls (eo_t (ex_var 0 cp_sh fun _ => rfl)) fun _ _ => .ts)) (fun _ _ => .t) rfl f_len) (wio hio fun _ => (.un .nil))))⟩
theorem sc_Tape_DgetitemD : FnScope ["self", "index"] ["self", "index"] (defScope (Hd.ms 31 7)) := ⟨rfl, rfl, rfl, by decide +kernel, rfl, by decide +kernel, by decide +kernel⟩
theorem ok_Tape_DgetitemD (f_len : mg "len" = none) (t_cls : TapeCls K) (FD : FunD K "__getitem__" "Tape.__getitem__" (defArgs (Hd.ms 31 7)) (defBody (Hd.ms 31 7)) (defScope (Hd.ms 31 7)) [] [] (He.ma K (tapeC K) "__getitem__") fd) : FnOk P w K mg base (L2.CX P w) 1 (He.ma K (tapeC K) "__getitem__") fd ["self", "index"] (SpP K 2 (fun u : ((Int × List (Int × Int)) × Int) => [.is (sh rTape) u.1, .is rInt u.2]) (rPair rInt rInt) m_Tape_DgetitemD) :=
  fn_pure (k := 0) FD sc_Tape_DgetitemD o_Tape_DgetitemD (fun _ => rfl) fun u cdv A outer s H E hr F hio hW => ⟨_, (bx_nf (fun s => [.is (sh rTape) u.1, .is rInt u.2]) (fun _ => rfl) (bx_ifr (GE_ := fun e _ => e.elim) (et_not (et_chain2 ci_le ci_lt ex_int (ex_var 1 cp_int fun _ => rfl) (ex_lenT (eo_t (ex_kept t_cls (eo_t (ex_var 0 cp_sh fun _ => rfl)) fun _ _ => .ts)) (fun _ _ => .t) rfl f_len))) (bx_nf (fun s => [.is (sh rTape) u.1, .is rInt u.2]) (fun _ => rfl) bx_no) (bx_nf (fun s => [.is (sh rTape) u.1, .is rInt u.2]) (fun _ => rfl) (bx_ret (ex_ixT (eo_t (ex_kept t_cls (eo_t (ex_var 0 cp_sh fun _ => rfl)) fun _ _ => .ts)) (ex_var 1 cp_int fun _ => rfl) (cp_pair cp_int cp_int) fun _ _ => .t) (wio hio fun _ => (.un (.un .nil)))))))⟩
theorem sc_lowest : FnScope ["above", "below", "one", "other", "sign"] ["above", "below"] (defScope (Hd.tp 10)) := ⟨rfl, rfl, rfl, by decide +kernel, rfl, by decide +kernel, by decide +kernel⟩
theorem ok_lowest (f_abs : mg "abs" = none) (f_int : mg "int" = none) (FD : FunD K "lowest" "lowest" (defArgs (Hd.tp 10)) (defBody (Hd.tp 10)) (defScope (Hd.tp 10)) [] [] (ga K "lowest") fd) : FnOk P w K mg base (L2.CX P w) 1 (ga K "lowest") fd ["above", "below"] (SpP K 2 (fun u : (Int × Int) => [.is rInt u.1, .is rInt u.2]) (rPair rInt rInt) m_lowest) :=
  fn_pure (k := 0) FD sc_lowest o_lowest (fun _ => rfl) fun u cdv A outer s H E hr F hio hW => ⟨_, (bx_nf (fun s => [.is rInt u.1, .is rInt u.2, .un, .un, .un]) (fun _ => rfl) (bx_par 2 3 sc_lowest.nd rfl (by decide) (ex_abs (ex_var 0 cp_int fun _ => rfl) rfl f_abs) (ex_abs (ex_var 1 cp_int fun _ => rfl) rfl f_abs) (fun v_one40 v_other41 => (bx_nf (fun s => [.is rInt u.1, .is rInt u.2, .is rInt v_one40, .is rInt v_other41, .un]) (fun _ => rfl) (bx_while (passes_of rfl) (fun (l42 : (Int × Int)) s => [.is rInt u.1, .is rInt u.2, .is rInt l42.1, .is rInt l42.2, .un]) (v_one40, v_other41) _ (fun _ => (.eq (.eq (.eq (.eq (.eq .nil)))))) (fun l42 => (et_truI (ex_var 3 cp_int fun _ => rfl))) (fun l42 => (bx_nf (fun s => [.is rInt u.1, .is rInt u.2, .is rInt l42.1, .is rInt l42.2, .un]) (fun _ => rfl) (bx_par 2 3 sc_lowest.nd rfl (by decide) (ex_var 3 cp_int fun _ => rfl) (ex_bin op_modN vo_mod stl_mod (ex_intI (ex_var 2 cp_int fun _ => rfl) rfl f_int) (ex_intI (ex_var 3 cp_int fun _ => rfl) rfl f_int)) (fun v_one52 v_other53 => (bx_end (v_one52, v_other53) fun _ => (.eq (.eq (.eq (.eq (.eq .nil))))))) inferInstance inferInstance (fun _ => rfl) (fun _ => rfl)))) (fun l42 => (bx_nf (fun s => [.is rInt u.1, .is rInt u.2, .is rInt l42.1, .is rInt l42.2, .un]) (fun _ => rfl) (bx_asg 4 sc_lowest.nd (ex_if (et_cmp op_gt (vo_B0 fun i j => decide (j < i)) (fun _ _ => stl_ret _) (ex_var 1 cp_int fun _ => rfl) ex_int rfl) ex_int (ex_neg ex_int)) (fun v_sign54 => (bx_nf (fun s => [.is rInt u.1, .is rInt u.2, .is rInt l42.1, .is rInt l42.2, .is rInt v_sign54]) (fun _ => rfl) (bx_ret (ex_tup2 (ex_bin op_fdivN vo_div stl_div (ex_bin op_mul vo_mul stl_mul (ex_var 4 cp_int fun _ => rfl) (ex_var 0 cp_int fun _ => rfl)) (ex_var 2 cp_int fun _ => rfl)) (ex_bin op_fdivN vo_div stl_div (ex_bin op_mul vo_mul stl_mul (ex_var 4 cp_int fun _ => rfl) (ex_var 1 cp_int fun _ => rfl)) (ex_var 2 cp_int fun _ => rfl))) (wio hio fun _ => (.un (.un (.un (.un (.un .nil))))))))) inferInstance (fun _ => rfl))))))) inferInstance inferInstance (fun _ => rfl) (fun _ => rfl)))⟩
theorem sc_is_fraction : FnScope ["pair", "above", "below"] ["pair"] (defScope (Hd.tp 11)) := ⟨rfl, rfl, rfl, by decide +kernel, rfl, by decide +kernel, by decide +kernel⟩
theorem ok_is_fraction  {d_lowest : FuncData} (c_lowest : FnOk P w K mg base (L2.CX P w) 1 (ga K "lowest") d_lowest ["above", "below"] (SpP K 2 (fun u : (Int × Int) => [.is rInt u.1, .is rInt u.2]) (rPair rInt rInt) m_lowest)) (g_lowest : mg "lowest" = some (.ref (ga K "lowest"))) (k_lowest : PySem.W.keepIn K (.ref (ga K "lowest")) = true) (b_lowest : Binds K d_lowest ["above", "below"] []) (FD : FunD K "is_fraction" "is_fraction" (defArgs (Hd.tp 11)) (defBody (Hd.tp 11)) (defScope (Hd.tp 11)) [] [] (ga K "is_fraction") fd) : FnOk P w K mg base (L2.CX P w) 2 (ga K "is_fraction") fd ["pair"] (SpP K 1 (fun u : (Int × Int) => [.is (rPair rInt rInt) u]) rBool m_is_fraction) :=
  fn_pure (k := 1) FD sc_is_fraction o_is_fraction (fun _ => rfl) fun u cdv A outer s H E hr F hio hW => ⟨_, (bx_nf (fun s => [.is (rPair rInt rInt) u, .un, .un]) (fun _ => rfl) (bx_tgt (Gt := fun s (w74 : (Int × Int)) => [.is (rPair rInt rInt) u, .is rInt w74.1, .is rInt w74.2]) (ex_var 0 (cp_pair cp_int cp_int) fun _ => rfl) (fun _ => (eg_pair rfl (eg_name (i := 1) rfl sc_is_fraction.nd) (fun _ => (eg_name (i := 2) rfl sc_is_fraction.nd)) inferInstance)) (fun w74 => (bx_nf (fun s => [.is (rPair rInt rInt) u, .is rInt w74.1, .is rInt w74.2]) (fun _ => rfl) (bx_ret (ex_and (ex_cmp op_ge (vo_B0 fun i j => decide (j ≤ i)) (fun _ _ => stl_ret _) (ex_var 2 cp_int fun _ => rfl) ex_int rfl) (ex_one (ex_eqD hr.units (eo_t (ex_call (E := E) (fun q81 => (q81.1, q81.2.1)) c_lowest (hr.mono (by decide)) rfl g_lowest k_lowest b_lowest (by exact passes_call (takes_of rfl rfl rfl rfl) fun _ _ _ _ h => h) (ea_cons (eo_t (ex_var 1 cp_int fun _ => rfl)) (ea_cons (eo_t (ex_var 2 cp_int fun _ => rfl)) ea_nil)) (fun _ => rfl) (.inl ⟨(clo_pair clo_int clo_int), fun _ _ => (.cp cp_int .t (.cp cp_int .t .nil))⟩) (hWE hW) (wio hio fun _ => (.un (.un (.un .nil)))))) (eo_t (ex_tup2 (ex_var 1 cp_int fun _ => rfl) (ex_var 2 cp_int fun _ => rfl))) (fun _ _ => .mk (en_P enc_int enc_int) .t) (fun _ _ => .mk (en_P enc_int enc_int) .t)))) (wio hio fun _ => (.un (.un (.un .nil))))))) inferInstance inferInstance))⟩
theorem sc_is_less : FnScope ["one", "other"] ["one", "other"] (defScope (Hd.tp 12)) := ⟨rfl, rfl, rfl, by decide +kernel, rfl, by decide +kernel, by decide +kernel⟩
theorem ok_is_less  (FD : FunD K "is_less" "is_less" (defArgs (Hd.tp 12)) (defBody (Hd.tp 12)) (defScope (Hd.tp 12)) [] [] (ga K "is_less") fd) : FnOk P w K mg base (L2.CX P w) 1 (ga K "is_less") fd ["one", "other"] (SpP K 2 (fun u : ((Int × Int) × (Int × Int)) => [.is (rPair rInt rInt) u.1, .is (rPair rInt rInt) u.2]) rBool m_is_less) :=
  fn_pure (k := 0) FD sc_is_less o_is_less (fun _ => rfl) fun u cdv A outer s H E hr F hio hW => ⟨_, (bx_nf (fun s => [.is (rPair rInt rInt) u.1, .is (rPair rInt rInt) u.2]) (fun _ => rfl) (bx_ret (ex_cmp op_lt (vo_B0 fun i j => decide (i < j)) (fun _ _ => stl_ret _) (ex_bin op_mul vo_mul stl_mul (ex_plc (eo_t (ex_var 0 (cp_pair cp_int cp_int) fun _ => rfl)) plc2_0 cp_int fun _ _ => .t) (ex_plc (eo_t (ex_var 1 (cp_pair cp_int cp_int) fun _ => rfl)) plc2_1 cp_int fun _ _ => .t)) (ex_bin op_mul vo_mul stl_mul (ex_plc (eo_t (ex_var 1 (cp_pair cp_int cp_int) fun _ => rfl)) plc2_0 cp_int fun _ _ => .t) (ex_plc (eo_t (ex_var 0 (cp_pair cp_int cp_int) fun _ => rfl)) plc2_1 cp_int fun _ _ => .t)) rfl) (wio hio fun _ => (.un (.un .nil)))))⟩
theorem sc_worth : FnScope ["form", "cost", "above", "below", "steps", "turns"] ["form", "cost"] (defScope (Hd.tp 13)) := ⟨rfl, rfl, rfl, by decide +kernel, rfl, by decide +kernel, by decide +kernel⟩
theorem ok_worth  {d_lowest : FuncData} (c_lowest : FnOk P w K mg base (L2.CX P w) 1 (ga K "lowest") d_lowest ["above", "below"] (SpP K 2 (fun u : (Int × Int) => [.is rInt u.1, .is rInt u.2]) (rPair rInt rInt) m_lowest)) (g_lowest : mg "lowest" = some (.ref (ga K "lowest"))) (k_lowest : PySem.W.keepIn K (.ref (ga K "lowest")) = true) (b_lowest : Binds K d_lowest ["above", "below"] []) (FD : FunD K "worth" "worth" (defArgs (Hd.tp 13)) (defBody (Hd.tp 13)) (defScope (Hd.tp 13)) [] [] (ga K "worth") fd) : FnOk P w K mg base (L2.CX P w) 2 (ga K "worth") fd ["form", "cost"] (SpP K 2 (fun u : ((Int × Int) × (Int × Int)) => [.is (rPair rInt rInt) u.1, .is (rPair rInt rInt) u.2]) (rPair rInt rInt) m_worth) :=
  fn_pure (k := 1) FD sc_worth o_worth (fun _ => rfl) fun u cdv A outer s H E hr F hio hW => ⟨_, (bx_nf (fun s => [.is (rPair rInt rInt) u.1, .is (rPair rInt rInt) u.2, .un, .un, .un, .un]) (fun _ => rfl) (bx_tgt (Gt := fun s (w101 : (Int × Int)) => [.is (rPair rInt rInt) u.1, .is (rPair rInt rInt) u.2, .un, .un, .is rInt w101.1, .is rInt w101.2]) (ex_var 0 (cp_pair cp_int cp_int) fun _ => rfl) (fun _ => (eg_pair rfl (eg_name (i := 4) rfl sc_worth.nd) (fun _ => (eg_name (i := 5) rfl sc_worth.nd)) inferInstance)) (fun w101 => (bx_nf (fun s => [.is (rPair rInt rInt) u.1, .is (rPair rInt rInt) u.2, .un, .un, .is rInt w101.1, .is rInt w101.2]) (fun _ => rfl) (bx_tgt (Gt := fun s (w102 : (Int × Int)) => [.is (rPair rInt rInt) u.1, .is (rPair rInt rInt) u.2, .is rInt w102.1, .is rInt w102.2, .is rInt w101.1, .is rInt w101.2]) (ex_var 1 (cp_pair cp_int cp_int) fun _ => rfl) (fun _ => (eg_pair rfl (eg_name (i := 2) rfl sc_worth.nd) (fun _ => (eg_name (i := 3) rfl sc_worth.nd)) inferInstance)) (fun w102 => (bx_nf (fun s => [.is (rPair rInt rInt) u.1, .is (rPair rInt rInt) u.2, .is rInt w102.1, .is rInt w102.2, .is rInt w101.1, .is rInt w101.2]) (fun _ => rfl) (bx_ret (ex_call (E := E) (fun q115 => (q115.1, q115.2.1)) c_lowest (hr.mono (by decide)) rfl g_lowest k_lowest b_lowest (by exact passes_call (takes_of rfl rfl rfl rfl) fun _ _ _ _ h => h) (ea_cons (eo_t (ex_bin op_add (vo_I0 fun i j => i + j) (fun _ _ => stl_ret _) (ex_bin op_mul vo_mul stl_mul (ex_var 4 cp_int fun _ => rfl) (ex_var 3 cp_int fun _ => rfl)) (ex_bin op_mul vo_mul stl_mul (ex_var 5 cp_int fun _ => rfl) (ex_var 2 cp_int fun _ => rfl)))) (ea_cons (eo_t (ex_var 3 cp_int fun _ => rfl)) ea_nil)) (fun _ => rfl) (.inl ⟨(clo_pair clo_int clo_int), fun _ _ => (.cp cp_int .t (.cp cp_int .t .nil))⟩) (hWE hW) (wio hio fun _ => (.un (.un (.un (.un (.un (.un .nil)))))))) (wio hio fun _ => (.un (.un (.un (.un (.un (.un .nil)))))))))) inferInstance inferInstance))) inferInstance inferInstance))⟩
theorem sc_asked_files : FnScope ["asks", "count", "index"] ["asks"] (defScope (Hd.tp 15)) := ⟨rfl, rfl, rfl, by decide +kernel, rfl, by decide +kernel, by decide +kernel⟩
theorem bk_asked_files_0 : BlkOk ["asks", "count", "index"] (defScope (Hd.tp 15)) { kind := .function, names := [(".0", .local), ("index", .local), ("count", .local)], isGenerator := false, isCoroutine := false, more := [] } [("index", 2), ("count", 1)] := blkOk_by (by decide +kernel)
theorem ok_asked_files (f_enumerate : mg "enumerate" = none) (FD : FunD K "asked_files" "asked_files" (defArgs (Hd.tp 15)) (defBody (Hd.tp 15)) (defScope (Hd.tp 15)) [] [] (ga K "asked_files") fd) : FnOk P w K mg base (L2.CX P w) 1 (ga K "asked_files") fd ["asks"] (SpP K 1 (fun u : (List Int) => [.is (sh (rList rInt)) u]) (rList rInt) m_asked_files) :=
  fn_pure (k := 0) FD sc_asked_files o_asked_files (fun _ => rfl) fun u cdv A outer s H E hr F hio hW => ⟨_, (bx_nf (fun s => [.is (sh (rList rInt)) u, .un, .un]) (fun _ => rfl) (bx_ret (ex_lcU (Gt := fun s (x118 : (Int × Int)) => [.is (sh (rList rInt)) u, .is rInt x118.2, .is rInt x118.1]) s rfl sc_asked_files.nd (ei_enum (ex_var 0 cp_sh fun _ => rfl) cp_int rfl f_enumerate) (fun _ => trivial) bk_asked_files_0 (fun _ => (.cons rfl (.cons rfl .nil))) (by exact fun _ h => h) (fun _ _ => (.eq (.un (.un .nil)))) (fun _ _ _ _ _ _ => (eg_pair rfl (eg_name (i := 2) rfl sc_asked_files.nd) (fun _ => (eg_name (i := 1) rfl sc_asked_files.nd)) inferInstance)) (fun _ _ _ _ _ x118 => (ets_one (et_cmp op_gt (vo_B0 fun i j => decide (j < i)) (fun _ _ => stl_ret _) (ex_var 1 cp_int fun _ => rfl) ex_int rfl))) (fun _ _ _ _ _ x118 => (ex_var 2 cp_int fun _ => rfl)) inferInstance inferInstance) (wio hio fun _ => (.un (.eq (.eq .nil))))))⟩
theorem sc_are_asks : FnScope ["many", "asks", "count"] ["many", "asks"] (defScope (Hd.tp 16)) := ⟨rfl, rfl, rfl, by decide +kernel, rfl, by decide +kernel, by decide +kernel⟩
theorem bk_are_asks_0 : BlkOk ["many", "asks", "count"] (defScope (Hd.tp 16)) { kind := .function, names := [(".0", .local), ("count", .local)], isGenerator := false, isCoroutine := false, more := [] } [("count", 2)] := blkOk_by (by decide +kernel)
theorem ok_are_asks (f_all : mg "all" = none) (f_len : mg "len" = none) (FD : FunD K "are_asks" "are_asks" (defArgs (Hd.tp 16)) (defBody (Hd.tp 16)) (defScope (Hd.tp 16)) [] [] (ga K "are_asks") fd) : FnOk P w K mg base (L2.CX P w) 1 (ga K "are_asks") fd ["many", "asks"] (SpP K 2 (fun u : (Int × (List Int)) => [.is rInt u.1, .is (sh (rList rInt)) u.2]) rBool m_are_asks) :=
  fn_pure (k := 0) FD sc_are_asks o_are_asks (fun _ => rfl) fun u cdv A outer s H E hr F hio hW => ⟨_, (bx_nf (fun s => [.is rInt u.1, .is (sh (rList rInt)) u.2, .un]) (fun _ => rfl) (bx_ret (ex_and (ex_cmp op_eq vo_eqI (fun _ _ => stl_ret _) (ex_len (eo_t (ex_var 1 cp_sh fun _ => rfl)) (fun _ _ => .ts) rfl f_len) (ex_var 0 cp_int fun _ => rfl) rfl) (ex_one (ex_all (eo_t (ex_lcU (Gt := fun s (x126 : Int) => [.is rInt u.1, .is (sh (rList rInt)) u.2, .is rInt x126]) s rfl sc_are_asks.nd (ei_sh (ex_var 1 cp_sh fun _ => rfl) cp_int) (fun _ => trivial) bk_are_asks_0 (fun _ => (.cons rfl .nil)) (by exact fun _ h => h) (fun _ _ => (.eq (.eq (.un .nil)))) (fun _ _ _ _ _ _ => (eg_name (i := 2) rfl sc_are_asks.nd)) (fun _ _ _ _ _ x126 => ets_nil) (fun _ _ _ _ _ x126 => (ex_cmp op_ge (vo_B0 fun i j => decide (j ≤ i)) (fun _ _ => stl_ret _) (ex_var 2 cp_int fun _ => rfl) ex_int rfl)) inferInstance inferInstance)) (fun _ _ => .t) rfl rfl f_all))) (wio hio fun _ => (.un (.un (.eq .nil))))))⟩
theorem sc_is_row : FnScope ["asks", "row", "asked", "edge", "first", "last"] ["asks", "row"] (defScope (Hd.tp 17)) := ⟨rfl, rfl, rfl, by decide +kernel, rfl, by decide +kernel, by decide +kernel⟩
theorem ok_is_row (f_len : mg "len" = none) {d_asked_files : FuncData} (c_asked_files : FnOk P w K mg base (L2.CX P w) 1 (ga K "asked_files") d_asked_files ["asks"] (SpP K 1 (fun u : (List Int) => [.is (sh (rList rInt)) u]) (rList rInt) m_asked_files)) (g_asked_files : mg "asked_files" = some (.ref (ga K "asked_files"))) (k_asked_files : PySem.W.keepIn K (.ref (ga K "asked_files")) = true) (b_asked_files : Binds K d_asked_files ["asks"] []) (FD : FunD K "is_row" "is_row" (defArgs (Hd.tp 17)) (defBody (Hd.tp 17)) (defScope (Hd.tp 17)) [] [] (ga K "is_row") fd) : FnOk P w K mg base (L2.CX P w) 2 (ga K "is_row") fd ["asks", "row"] (SpP K 2 (fun u : ((List Int) × (List (Int × Int))) => [.is (sh (rList rInt)) u.1, .is (sh (rList (rPair rInt rInt))) u.2]) rBool m_is_row) :=
  fn_pure (k := 1) FD sc_is_row o_is_row (fun _ => rfl) fun u cdv A outer s H E hr F hio hW => ⟨_, (bx_nf (fun s => [.is (sh (rList rInt)) u.1, .is (sh (rList (rPair rInt rInt))) u.2, .un, .un, .un, .un]) (fun _ => rfl) (bx_asg 3 sc_is_row.nd (ex_len (eo_t (ex_var 0 cp_sh fun _ => rfl)) (fun _ _ => .ts) rfl f_len) (fun v_edge132 => (bx_nf (fun s => [.is (sh (rList rInt)) u.1, .is (sh (rList (rPair rInt rInt))) u.2, .un, .is rInt v_edge132, .un, .un]) (fun _ => rfl) (bx_asg 2 sc_is_row.nd (ex_freeze (ex_call (E := E) (fun q137 => q137.1) c_asked_files (hr.mono (by decide)) rfl g_asked_files k_asked_files b_asked_files (by exact passes_call (takes_of rfl rfl rfl rfl) fun _ _ _ _ h => h) (ea_cons (eo_t (ex_var 0 cp_sh fun _ => rfl)) ea_nil) (fun _ => rfl) (.inl ⟨(clo_list clo_int), fun _ _ => (.cp cp_sh .t .nil)⟩) (hWE hW) (wio hio fun _ => (.un (.un (.eq (.un (.eq (.eq .nil))))))))) (fun v_asked134 => (bx_nf (fun s => [.is (sh (rList rInt)) u.1, .is (sh (rList (rPair rInt rInt))) u.2, .is (sh (rList rInt)) v_asked134, .is rInt v_edge132, .un, .un]) (fun _ => rfl) (bx_for (Gt := fun (l138 : Int) s (x139 : (Int × Int)) => [.is (sh (rList rInt)) u.1, .is (sh (rList (rPair rInt rInt))) u.2, .is (sh (rList rInt)) v_asked134, .is rInt l138, .is rInt x139.1, .is rInt x139.2]) (passes_of rfl) rfl (fun (l138 : Int) s => [.is (sh (rList rInt)) u.1, .is (sh (rList (rPair rInt rInt))) u.2, .is (sh (rList rInt)) v_asked134, .is rInt l138, .un, .un]) v_edge132 (ei_sh (ex_var 1 cp_sh fun _ => rfl) (cp_pair cp_int cp_int)) (fun _ => (.eq (.eq (.eq (.eq (.eq (.eq .nil))))))) (fun _ _ => trivial) (fun l138 _ => (eg_pair rfl (eg_name (i := 4) rfl sc_is_row.nd) (fun _ => (eg_name (i := 5) rfl sc_is_row.nd)) inferInstance)) (fun l138 x139 => (bx_nf (fun s => [.is (sh (rList rInt)) u.1, .is (sh (rList (rPair rInt rInt))) u.2, .is (sh (rList rInt)) v_asked134, .is rInt l138, .is rInt x139.1, .is rInt x139.2]) (fun _ => rfl) (bx_ifr (GE_ := fun e _ => e.elim) (et_w (ew_or (et_not (et_truL (eo_t (ex_var 2 cp_sh fun _ => rfl)) fun _ _ => .ts)) (ew_or (et_not (et_chain3 ci_lt ci_le ci_lt (ex_ix (eo_t (ex_var 2 cp_sh fun _ => rfl)) ex_int cp_int fun _ _ => .ts) (ex_var 4 cp_int fun _ => rfl) (ex_var 5 cp_int fun _ => rfl) (ex_len (eo_t (ex_var 0 cp_sh fun _ => rfl)) (fun _ _ => .ts) rfl f_len))) (ew_or1 (et_cmp op_ge (vo_B0 fun i j => decide (j ≤ i)) (fun _ _ => stl_ret _) (ex_var 4 cp_int fun _ => rfl) (ex_var 3 cp_int fun _ => rfl) rfl))))) (bx_nf (fun s => [.is (sh (rList rInt)) u.1, .is (sh (rList (rPair rInt rInt))) u.2, .is (sh (rList rInt)) v_asked134, .is rInt l138, .is rInt x139.1, .is rInt x139.2]) (fun _ => rfl) (bx_ret ex_bool (wio hio fun _ => (.un (.un (.un (.un (.un (.un .nil))))))))) (bx_nf (fun s => [.is (sh (rList rInt)) u.1, .is (sh (rList (rPair rInt rInt))) u.2, .is (sh (rList rInt)) v_asked134, .is rInt l138, .is rInt x139.1, .is rInt x139.2]) (fun _ => rfl) (bx_ifr (GE_ := fun e _ => e.elim) (et_w (ew_or (et_cmp op_eq vo_eqI (fun _ _ => stl_ret _) (ex_ix (eo_t (ex_var 0 cp_sh fun _ => rfl)) (ex_var 4 cp_int fun _ => rfl) cp_int fun _ _ => .ts) ex_int rfl) (ew_or1 (et_cmp op_eq vo_eqI (fun _ _ => stl_ret _) (ex_ix (eo_t (ex_var 0 cp_sh fun _ => rfl)) (ex_var 5 cp_int fun _ => rfl) cp_int fun _ _ => .ts) ex_int rfl)))) (bx_nf (fun s => [.is (sh (rList rInt)) u.1, .is (sh (rList (rPair rInt rInt))) u.2, .is (sh (rList rInt)) v_asked134, .is rInt l138, .is rInt x139.1, .is rInt x139.2]) (fun _ => rfl) (bx_ret ex_bool (wio hio fun _ => (.un (.un (.un (.un (.un (.un .nil))))))))) (bx_nf (fun s => [.is (sh (rList rInt)) u.1, .is (sh (rList (rPair rInt rInt))) u.2, .is (sh (rList rInt)) v_asked134, .is rInt l138, .is rInt x139.1, .is rInt x139.2]) (fun _ => rfl) (bx_asg 3 sc_is_row.nd (ex_var 4 cp_int fun _ => rfl) (fun v_edge171 => (bx_end v_edge171 fun _ => (.eq (.eq (.eq (.eq (.un (.un .nil)))))))) inferInstance (fun _ => rfl)))))))) (fun l138 => (bx_nf (fun s => [.is (sh (rList rInt)) u.1, .is (sh (rList (rPair rInt rInt))) u.2, .is (sh (rList rInt)) v_asked134, .is rInt l138, .un, .un]) (fun _ => rfl) (bx_ret ex_bool (wio hio fun _ => (.un (.un (.un (.un (.eq (.eq .nil)))))))))) inferInstance inferInstance))) inferInstance (fun _ => rfl)))) inferInstance (fun _ => rfl)))⟩
theorem sc_is_cost : FnScope ["cost"] ["cost"] (defScope (Hd.tp 18)) := ⟨rfl, rfl, rfl, by decide +kernel, rfl, by decide +kernel, by decide +kernel⟩
theorem ok_is_cost  {d_is_fraction : FuncData} (c_is_fraction : FnOk P w K mg base (L2.CX P w) 2 (ga K "is_fraction") d_is_fraction ["pair"] (SpP K 1 (fun u : (Int × Int) => [.is (rPair rInt rInt) u]) rBool m_is_fraction)) (g_is_fraction : mg "is_fraction" = some (.ref (ga K "is_fraction"))) (k_is_fraction : PySem.W.keepIn K (.ref (ga K "is_fraction")) = true) (b_is_fraction : Binds K d_is_fraction ["pair"] []) (FD : FunD K "is_cost" "is_cost" (defArgs (Hd.tp 18)) (defBody (Hd.tp 18)) (defScope (Hd.tp 18)) [] [] (ga K "is_cost") fd) : FnOk P w K mg base (L2.CX P w) 3 (ga K "is_cost") fd ["cost"] (SpP K 1 (fun u : (Int × Int) => [.is (rPair rInt rInt) u]) rBool m_is_cost) :=
  fn_pure (k := 2) FD sc_is_cost o_is_cost (fun _ => rfl) fun u cdv A outer s H E hr F hio hW => ⟨_, (bx_nf (fun s => [.is (rPair rInt rInt) u]) (fun _ => rfl) (bx_ret (ex_and (ex_call (E := E) (fun q175 => q175.1) c_is_fraction (hr.mono (by decide)) rfl g_is_fraction k_is_fraction b_is_fraction (by exact passes_call (takes_of rfl rfl rfl rfl) fun _ _ _ _ h => h) (ea_cons (eo_t (ex_var 0 (cp_pair cp_int cp_int) fun _ => rfl)) ea_nil) (fun _ => rfl) (.inl ⟨clo_bool, fun _ _ => (.cp (cp_pair cp_int cp_int) .t .nil)⟩) (hWE hW) (wio hio fun _ => (.un .nil))) (ex_one (ex_cmp op_ge (vo_B0 fun i j => decide (j ≤ i)) (fun _ _ => stl_ret _) (ex_plc (eo_t (ex_var 0 (cp_pair cp_int cp_int) fun _ => rfl)) plc2_0 cp_int fun _ _ => .t) ex_int rfl))) (wio hio fun _ => (.un .nil))))⟩
theorem sc_check_row : FnScope ["asks", "row"] ["asks", "row"] (defScope (Hd.tp 20)) := ⟨rfl, rfl, rfl, by decide +kernel, rfl, by decide +kernel, by decide +kernel⟩
theorem ok_check_row  {d_is_row : FuncData} (c_is_row : FnOk P w K mg base (L2.CX P w) 2 (ga K "is_row") d_is_row ["asks", "row"] (SpP K 2 (fun u : ((List Int) × (List (Int × Int))) => [.is (sh (rList rInt)) u.1, .is (sh (rList (rPair rInt rInt))) u.2]) rBool m_is_row)) (g_is_row : mg "is_row" = some (.ref (ga K "is_row"))) (k_is_row : PySem.W.keepIn K (.ref (ga K "is_row")) = true) (b_is_row : Binds K d_is_row ["asks", "row"] []) (FD : FunD K "check_row" "check_row" (defArgs (Hd.tp 20)) (defBody (Hd.tp 20)) (defScope (Hd.tp 20)) [] [] (ga K "check_row") fd) : FnOk P w K mg base (L2.CX P w) 3 (ga K "check_row") fd ["asks", "row"] (SpP K 2 (fun u : ((List Int) × (List (Int × Int))) => [.is (sh (rList rInt)) u.1, .is (sh (rList (rPair rInt rInt))) u.2]) rNon m_check_row) :=
  fn_proc (k := 2) FD sc_check_row o_check_row (fun _ => rfl) fun u cdv A outer s H E hr F hio hW => ⟨_, (bx_nf (fun s => [.is (sh (rList rInt)) u.1, .is (sh (rList (rPair rInt rInt))) u.2]) (fun _ => rfl) (bx_ifr (GE_ := fun e _ => e.elim) (et_not (et_val (ex_call (E := E) (fun q191 => (q191.1, q191.2.1)) c_is_row (hr.mono (by decide)) rfl g_is_row k_is_row b_is_row (by exact passes_call (takes_of rfl rfl rfl rfl) fun _ _ _ _ h => h) (ea_cons (eo_t (ex_var 0 cp_sh fun _ => rfl)) (ea_cons (eo_t (ex_var 1 cp_sh fun _ => rfl)) ea_nil)) (fun _ => rfl) (.inl ⟨clo_bool, fun _ _ => (.cp cp_sh .t (.cp cp_sh .t .nil))⟩) (hWE hW) (wio hio fun _ => (.un (.un .nil)))))) (bx_nf (fun s => [.is (sh (rList rInt)) u.1, .is (sh (rList (rPair rInt rInt))) u.2]) (fun _ => rfl) bx_no) (bx_end () fun _ => (.un (.un .nil)))))⟩
theorem sc_check_cost : FnScope ["cost"] ["cost"] (defScope (Hd.tp 21)) := ⟨rfl, rfl, rfl, by decide +kernel, rfl, by decide +kernel, by decide +kernel⟩
theorem ok_check_cost  {d_is_cost : FuncData} (c_is_cost : FnOk P w K mg base (L2.CX P w) 3 (ga K "is_cost") d_is_cost ["cost"] (SpP K 1 (fun u : (Int × Int) => [.is (rPair rInt rInt) u]) rBool m_is_cost)) (g_is_cost : mg "is_cost" = some (.ref (ga K "is_cost"))) (k_is_cost : PySem.W.keepIn K (.ref (ga K "is_cost")) = true) (b_is_cost : Binds K d_is_cost ["cost"] []) (FD : FunD K "check_cost" "check_cost" (defArgs (Hd.tp 21)) (defBody (Hd.tp 21)) (defScope (Hd.tp 21)) [] [] (ga K "check_cost") fd) : FnOk P w K mg base (L2.CX P w) 4 (ga K "check_cost") fd ["cost"] (SpP K 1 (fun u : (Int × Int) => [.is (rPair rInt rInt) u]) rNon m_check_cost) :=
  fn_proc (k := 3) FD sc_check_cost o_check_cost (fun _ => rfl) fun u cdv A outer s H E hr F hio hW => ⟨_, (bx_nf (fun s => [.is (rPair rInt rInt) u]) (fun _ => rfl) (bx_ifr (GE_ := fun e _ => e.elim) (et_not (et_val (ex_call (E := E) (fun q200 => q200.1) c_is_cost (hr.mono (by decide)) rfl g_is_cost k_is_cost b_is_cost (by exact passes_call (takes_of rfl rfl rfl rfl) fun _ _ _ _ h => h) (ea_cons (eo_t (ex_var 0 (cp_pair cp_int cp_int) fun _ => rfl)) ea_nil) (fun _ => rfl) (.inl ⟨clo_bool, fun _ _ => (.cp (cp_pair cp_int cp_int) .t .nil)⟩) (hWE hW) (wio hio fun _ => (.un .nil))))) (bx_nf (fun s => [.is (rPair rInt rInt) u]) (fun _ => rfl) bx_no) (bx_end () fun _ => (.un .nil))))⟩
theorem sc_check_asks : FnScope ["tape", "asks"] ["tape", "asks"] (defScope (Hd.tp 19)) := ⟨rfl, rfl, rfl, by decide +kernel, rfl, by decide +kernel, by decide +kernel⟩
theorem ok_check_asks (f_len : mg "len" = none) (t_len : Mth K "__len__") {d_Tape_DlenD : FuncData} (c_Tape_DlenD : FnOk P w K mg base (L2.CX P w) 1 (He.ma K (tapeC K) "__len__") d_Tape_DlenD ["self"] (SpP K 1 (fun u : (Int × List (Int × Int)) => [.is (sh rTape) u]) rInt m_Tape_DlenD)) (b_Tape_DlenD : Binds K d_Tape_DlenD ["self"] []) {d_are_asks : FuncData} (c_are_asks : FnOk P w K mg base (L2.CX P w) 1 (ga K "are_asks") d_are_asks ["many", "asks"] (SpP K 2 (fun u : (Int × (List Int)) => [.is rInt u.1, .is (sh (rList rInt)) u.2]) rBool m_are_asks)) (g_are_asks : mg "are_asks" = some (.ref (ga K "are_asks"))) (k_are_asks : PySem.W.keepIn K (.ref (ga K "are_asks")) = true) (b_are_asks : Binds K d_are_asks ["many", "asks"] []) (FD : FunD K "check_asks" "check_asks" (defArgs (Hd.tp 19)) (defBody (Hd.tp 19)) (defScope (Hd.tp 19)) [] [] (ga K "check_asks") fd) : FnOk P w K mg base (L2.CX P w) 3 (ga K "check_asks") fd ["tape", "asks"] (SpP K 2 (fun u : ((Int × List (Int × Int)) × (List Int)) => [.is (sh rTape) u.1, .is (sh (rList rInt)) u.2]) rNon m_check_asks) :=
  fn_proc (k := 2) FD sc_check_asks o_check_asks (fun _ => rfl) fun u cdv A outer s H E hr F hio hW => ⟨_, (bx_nf (fun s => [.is (sh rTape) u.1, .is (sh (rList rInt)) u.2]) (fun _ => rfl) (bx_ifr (GE_ := fun e _ => e.elim) (et_not (et_val (ex_call (E := E) (fun q219 => (q219.1, q219.2.1)) c_are_asks (hr.mono (by decide)) rfl g_are_asks k_are_asks b_are_asks (by exact passes_call (takes_of rfl rfl rfl rfl) fun _ _ _ _ h => h) (ea_cons (eo_t (ex_tlen t_len c_Tape_DlenD b_Tape_DlenD (hr.mono (by decide)) (eo_t (ex_var 0 cp_sh fun _ => rfl)) (fun _ _ => .t) rfl f_len)) (ea_cons (eo_t (ex_var 1 cp_sh fun _ => rfl)) ea_nil)) (fun _ => rfl) (.inl ⟨clo_bool, fun _ _ => (.cp cp_int .t (.cp cp_sh .t .nil))⟩) (hWE hW) (wio hio fun _ => (.un (.un .nil)))))) (bx_nf (fun s => [.is (sh rTape) u.1, .is (sh (rList rInt)) u.2]) (fun _ => rfl) bx_no) (bx_end () fun _ => (.un (.un .nil)))))⟩
theorem sc_fresh_runs : FnScope ["asks", "row", "first", "index", "last", "runs", "unread"] ["asks", "row"] (defScope (Hd.tp 23)) := ⟨rfl, rfl, rfl, by decide +kernel, rfl, by decide +kernel, by decide +kernel⟩
theorem bk_fresh_runs_0 : BlkOk ["asks", "row", "first", "index", "last", "runs", "unread"] (defScope (Hd.tp 23)) { kind := .function, names := [(".0", .local), ("index", .local), ("first", .free), ("last", .free)], isGenerator := false, isCoroutine := false, more := [] } [("index", 3)] := blkOk_by (by decide +kernel)
theorem bk_fresh_runs_1 : BlkOk ["asks", "row", "first", "index", "last", "runs", "unread"] (defScope (Hd.tp 23)) { kind := .function, names := [(".0", .local), ("index", .local), ("first", .free), ("last", .free)], isGenerator := false, isCoroutine := false, more := [] } [("index", 3)] := blkOk_by (by decide +kernel)
theorem ok_fresh_runs  {d_asked_files : FuncData} (c_asked_files : FnOk P w K mg base (L2.CX P w) 1 (ga K "asked_files") d_asked_files ["asks"] (SpP K 1 (fun u : (List Int) => [.is (sh (rList rInt)) u]) (rList rInt) m_asked_files)) (g_asked_files : mg "asked_files" = some (.ref (ga K "asked_files"))) (k_asked_files : PySem.W.keepIn K (.ref (ga K "asked_files")) = true) (b_asked_files : Binds K d_asked_files ["asks"] []) (FD : FunD K "fresh_runs" "fresh_runs" (defArgs (Hd.tp 23)) (defBody (Hd.tp 23)) (defScope (Hd.tp 23)) [] [] (ga K "fresh_runs") fd) : FnOk P w K mg base (L2.CX P w) 2 (ga K "fresh_runs") fd ["asks", "row"] (SpP K 2 (fun u : ((List Int) × (List (Int × Int))) => [.is (sh (rList rInt)) u.1, .is (sh (rList (rPair rInt rInt))) u.2]) (rList (sh (rList rInt))) m_fresh_runs) :=
  fn_pure (k := 1) FD sc_fresh_runs o_fresh_runs (fun _ => rfl) fun u cdv A outer s H E hr F hio hW => ⟨_, (bx_nf (fun s => [.is (sh (rList rInt)) u.1, .is (sh (rList (rPair rInt rInt))) u.2, .un, .un, .un, .un, .un]) (fun _ => rfl) (bx_par 6 5 sc_fresh_runs.nd rfl (by decide) (ex_freeze (ex_call (E := E) (fun q224 => q224.1) c_asked_files (hr.mono (by decide)) rfl g_asked_files k_asked_files b_asked_files (by exact passes_call (takes_of rfl rfl rfl rfl) fun _ _ _ _ h => h) (ea_cons (eo_t (ex_var 0 cp_sh fun _ => rfl)) ea_nil) (fun _ => rfl) (.inl ⟨(clo_list clo_int), fun _ _ => (.cp cp_sh .t .nil)⟩) (hWE hW) (wio hio fun _ => (.un (.un (.eq (.eq (.eq (.eq (.eq .nil)))))))))) (ex_lst (r := (sh (rList rInt))) el_nil) (fun v_unread226 v_runs227 => (bx_nf (fun s => [.is (sh (rList rInt)) u.1, .is (sh (rList (rPair rInt rInt))) u.2, .un, .un, .un, .is (rList (sh (rList rInt))) v_runs227, .is (sh (rList rInt)) v_unread226]) (fun _ => rfl) (bx_for (Gt := fun (l228 : ((List (List Int)) × (List Int))) s (x229 : (Int × Int)) => [.is (sh (rList rInt)) u.1, .is (sh (rList (rPair rInt rInt))) u.2, .is rInt x229.1, .un, .is rInt x229.2, .is (rList (sh (rList rInt))) l228.1, .is (sh (rList rInt)) l228.2]) (passes_of rfl) rfl (fun (l228 : ((List (List Int)) × (List Int))) s => [.is (sh (rList rInt)) u.1, .is (sh (rList (rPair rInt rInt))) u.2, .un, .un, .un, .is (rList (sh (rList rInt))) l228.1, .is (sh (rList rInt)) l228.2]) (v_runs227, v_unread226) (ei_sh (ex_var 1 cp_sh fun _ => rfl) (cp_pair cp_int cp_int)) (fun _ => (.eq (.eq (.eq (.eq (.eq (.eq (.eq .nil)))))))) (fun _ _ => trivial) (fun l228 _ => (eg_pair rfl (eg_name (i := 2) rfl sc_fresh_runs.nd) (fun _ => (eg_name (i := 4) rfl sc_fresh_runs.nd)) inferInstance)) (fun l228 x229 => (bx_nf (fun s => [.is (sh (rList rInt)) u.1, .is (sh (rList (rPair rInt rInt))) u.2, .is rInt x229.1, .un, .is rInt x229.2, .is (rList (sh (rList rInt))) l228.1, .is (sh (rList rInt)) l228.2]) (fun _ => rfl) (bx_app 5 (ex_freeze (ex_lcU (Gt := fun s (x230 : Int) => [.is (sh (rList rInt)) u.1, .is (sh (rList (rPair rInt rInt))) u.2, .is rInt x229.1, .is rInt x230, .is rInt x229.2, .is (rList (sh (rList rInt))) l228.1, .is (sh (rList rInt)) l228.2]) s rfl sc_fresh_runs.nd (ei_sh (ex_var 6 cp_sh fun _ => rfl) cp_int) (fun _ => trivial) bk_fresh_runs_0 (fun _ => (.cons rfl .nil)) (by exact fun _ h => h) (fun _ _ => (.eq (.eq (.eq (.un (.eq (.eq (.eq .nil)))))))) (fun _ _ _ _ _ _ => (eg_name (i := 3) rfl sc_fresh_runs.nd)) (fun _ _ _ _ _ x230 => (ets_one (et_chain2 ci_le ci_le (ex_var 2 cp_int fun _ => rfl) (ex_var 3 cp_int fun _ => rfl) (ex_var 4 cp_int fun _ => rfl)))) (fun _ _ _ _ _ x230 => (ex_var 3 cp_int fun _ => rfl)) inferInstance inferInstance)) (fun _ => rfl) (fun _ => rfl) fun v_runs235 => (bx_nf (fun s => [.is (sh (rList rInt)) u.1, .is (sh (rList (rPair rInt rInt))) u.2, .is rInt x229.1, .un, .is rInt x229.2, .is (rList (sh (rList rInt))) v_runs235, .is (sh (rList rInt)) l228.2]) (fun _ => rfl) (bx_lcS (i := 6) (Gt := fun s (x237 : Int) => [.is (sh (rList rInt)) u.1, .is (sh (rList (rPair rInt rInt))) u.2, .is rInt x229.1, .is rInt x237, .is rInt x229.2, .is (rList (sh (rList rInt))) v_runs235, .is (sh (rList rInt)) l228.2]) s rfl sc_fresh_runs.nd (ei_sh (ex_var 6 cp_sh fun _ => rfl) cp_int) (fun _ => trivial) bk_fresh_runs_1 (fun _ => (.cons rfl .nil)) (by exact fun _ h => h) (fun _ _ => (.eq (.eq (.eq (.un (.eq (.eq (.eq .nil)))))))) (fun _ _ _ _ _ _ => (eg_name (i := 3) rfl sc_fresh_runs.nd)) (fun _ _ _ _ _ x237 => (ets_one (et_not (et_chain2 ci_le ci_le (ex_var 2 cp_int fun _ => rfl) (ex_var 3 cp_int fun _ => rfl) (ex_var 4 cp_int fun _ => rfl))))) (fun _ _ _ _ _ x237 => (ex_var 3 cp_int fun _ => rfl)) inferInstance inferInstance (fun v_unread236 => (bx_end (v_runs235, v_unread236) fun _ => (.eq (.eq (.un (.eq (.un (.eq (.eq .nil))))))))) (fun _ => rfl)))))) (fun l228 => (bx_nf (fun s => [.is (sh (rList rInt)) u.1, .is (sh (rList (rPair rInt rInt))) u.2, .un, .un, .un, .is (rList (sh (rList rInt))) l228.1, .is (sh (rList rInt)) l228.2]) (fun _ => rfl) (bx_ret (ex_lst (r := (sh (rList rInt))) (el_star (eo_own (U := Unit) (a := ()) 5 fun _ => rfl) cp_sh (fun _ _ => (.v rfl)) (el_cons (ex_var 6 cp_sh fun _ => rfl) el_nil))) (wio hio fun _ => (.un (.un (.eq (.eq (.eq (.un (.un .nil))))))))))) inferInstance inferInstance))) inferInstance inferInstance (fun _ => rfl) (fun _ => rfl)))⟩
theorem sc_way : FnScope ["tape", "asks", "row", "asked", "first", "last", "stops"] ["tape", "asks", "row"] (defScope (Hd.tp 24)) := ⟨rfl, rfl, rfl, by decide +kernel, rfl, by decide +kernel, by decide +kernel⟩
theorem ok_way  (t_cls : TapeCls K) (t_length : Prp K (tapeC K) "length") (t_ix : Mth K "__getitem__") (h_ix : PySem.W.fnIn K (He.ma K (tapeC K) "__getitem__") = true) {d_Tape_DgetitemD : FuncData} (c_Tape_DgetitemD : FnOk P w K mg base (L2.CX P w) 1 (He.ma K (tapeC K) "__getitem__") d_Tape_DgetitemD ["self", "index"] (SpP K 2 (fun u : ((Int × List (Int × Int)) × Int) => [.is (sh rTape) u.1, .is rInt u.2]) (rPair rInt rInt) m_Tape_DgetitemD)) (b_Tape_DgetitemD : Binds K d_Tape_DgetitemD ["self", "index"] []) {d_Tape_length : FuncData} (c_Tape_length : FnOk P w K mg base (L2.CX P w) 1 (pgA K (tapeC K) "length") d_Tape_length ["self"] (SpP K 1 (fun u : (Int × List (Int × Int)) => [.is (sh rTape) u]) rInt m_Tape_length)) (b_Tape_length : Binds K d_Tape_length ["self"] []) {d_asked_files : FuncData} (c_asked_files : FnOk P w K mg base (L2.CX P w) 1 (ga K "asked_files") d_asked_files ["asks"] (SpP K 1 (fun u : (List Int) => [.is (sh (rList rInt)) u]) (rList rInt) m_asked_files)) (g_asked_files : mg "asked_files" = some (.ref (ga K "asked_files"))) (k_asked_files : PySem.W.keepIn K (.ref (ga K "asked_files")) = true) (b_asked_files : Binds K d_asked_files ["asks"] []) {d_check_asks : FuncData} (c_check_asks : FnOk P w K mg base (L2.CX P w) 3 (ga K "check_asks") d_check_asks ["tape", "asks"] (SpP K 2 (fun u : ((Int × List (Int × Int)) × (List Int)) => [.is (sh rTape) u.1, .is (sh (rList rInt)) u.2]) rNon m_check_asks)) (g_check_asks : mg "check_asks" = some (.ref (ga K "check_asks"))) (k_check_asks : PySem.W.keepIn K (.ref (ga K "check_asks")) = true) (b_check_asks : Binds K d_check_asks ["tape", "asks"] []) {d_check_row : FuncData} (c_check_row : FnOk P w K mg base (L2.CX P w) 3 (ga K "check_row") d_check_row ["asks", "row"] (SpP K 2 (fun u : ((List Int) × (List (Int × Int))) => [.is (sh (rList rInt)) u.1, .is (sh (rList (rPair rInt rInt))) u.2]) rNon m_check_row)) (g_check_row : mg "check_row" = some (.ref (ga K "check_row"))) (k_check_row : PySem.W.keepIn K (.ref (ga K "check_row")) = true) (b_check_row : Binds K d_check_row ["asks", "row"] []) {d_fresh_runs : FuncData} (c_fresh_runs : FnOk P w K mg base (L2.CX P w) 2 (ga K "fresh_runs") d_fresh_runs ["asks", "row"] (SpP K 2 (fun u : ((List Int) × (List (Int × Int))) => [.is (sh (rList rInt)) u.1, .is (sh (rList (rPair rInt rInt))) u.2]) (rList (sh (rList rInt))) m_fresh_runs)) (g_fresh_runs : mg "fresh_runs" = some (.ref (ga K "fresh_runs"))) (k_fresh_runs : PySem.W.keepIn K (.ref (ga K "fresh_runs")) = true) (b_fresh_runs : Binds K d_fresh_runs ["asks", "row"] []) (FD : FunD K "way" "way" (defArgs (Hd.tp 24)) (defBody (Hd.tp 24)) (defScope (Hd.tp 24)) [] [] (ga K "way") fd) : FnOk P w K mg base (L2.CX P w) 4 (ga K "way") fd ["tape", "asks", "row"] (SpP K 3 (fun u : ((Int × List (Int × Int)) × (List Int) × (List (Int × Int))) => [.is (sh rTape) u.1, .is (sh (rList rInt)) u.2.1, .is (sh (rList (rPair rInt rInt))) u.2.2]) (rList rInt) m_way) :=
  fn_pure (k := 3) FD sc_way o_way (fun _ => rfl) fun u cdv A outer s H E hr F hio hW => ⟨_, (bx_nf (fun s => [.is (sh rTape) u.1, .is (sh (rList rInt)) u.2.1, .is (sh (rList (rPair rInt rInt))) u.2.2, .un, .un, .un, .un]) (fun _ => rfl) (bx_expr (ex_call (E := E) (fun q252 => (q252.1, q252.2.1)) c_check_asks (hr.mono (by decide)) rfl g_check_asks k_check_asks b_check_asks (by exact passes_call (takes_of rfl rfl rfl rfl) fun _ _ _ _ h => h) (ea_cons (eo_t (ex_var 0 cp_sh fun _ => rfl)) (ea_cons (eo_t (ex_var 1 cp_sh fun _ => rfl)) ea_nil)) (fun _ => rfl) (.inl ⟨clo_non, fun _ _ => (.cp cp_sh .t (.cp cp_sh .t .nil))⟩) (hWE hW) (wio hio fun _ => (.un (.un (.un (.eq (.eq (.eq (.eq .nil))))))))) (bx_nf (fun s => [.is (sh rTape) u.1, .is (sh (rList rInt)) u.2.1, .is (sh (rList (rPair rInt rInt))) u.2.2, .un, .un, .un, .un]) (fun _ => rfl) (bx_expr (ex_call (E := E) (fun q257 => (q257.1, q257.2.1)) c_check_row (hr.mono (by decide)) rfl g_check_row k_check_row b_check_row (by exact passes_call (takes_of rfl rfl rfl rfl) fun _ _ _ _ h => h) (ea_cons (eo_t (ex_var 1 cp_sh fun _ => rfl)) (ea_cons (eo_t (ex_var 2 cp_sh fun _ => rfl)) ea_nil)) (fun _ => rfl) (.inl ⟨clo_non, fun _ _ => (.cp cp_sh .t (.cp cp_sh .t .nil))⟩) (hWE hW) (wio hio fun _ => (.un (.un (.un (.eq (.eq (.eq (.eq .nil))))))))) (bx_nf (fun s => [.is (sh rTape) u.1, .is (sh (rList rInt)) u.2.1, .is (sh (rList (rPair rInt rInt))) u.2.2, .un, .un, .un, .un]) (fun _ => rfl) (bx_asg 3 sc_way.nd (ex_freeze (ex_call (E := E) (fun q261 => q261.1) c_asked_files (hr.mono (by decide)) rfl g_asked_files k_asked_files b_asked_files (by exact passes_call (takes_of rfl rfl rfl rfl) fun _ _ _ _ h => h) (ea_cons (eo_t (ex_var 1 cp_sh fun _ => rfl)) ea_nil) (fun _ => rfl) (.inl ⟨(clo_list clo_int), fun _ _ => (.cp cp_sh .t .nil)⟩) (hWE hW) (wio hio fun _ => (.un (.un (.un (.eq (.eq (.eq (.eq .nil)))))))))) (fun v_asked258 => (bx_nf (fun s => [.is (sh rTape) u.1, .is (sh (rList rInt)) u.2.1, .is (sh (rList (rPair rInt rInt))) u.2.2, .is (sh (rList rInt)) v_asked258, .un, .un, .un]) (fun _ => rfl) (bx_ifr (GE_ := fun e _ => e.elim) (et_not (et_truL (eo_t (ex_var 3 cp_sh fun _ => rfl)) fun _ _ => .ts)) (bx_nf (fun s => [.is (sh rTape) u.1, .is (sh (rList rInt)) u.2.1, .is (sh (rList (rPair rInt rInt))) u.2.2, .is (sh (rList rInt)) v_asked258, .un, .un, .un]) (fun _ => rfl) (bx_ret (ex_lst (r := rInt) (el_cons (ex_prop t_cls t_length c_Tape_length b_Tape_length (hr.mono (by decide)) (eo_t (ex_var 0 cp_sh fun _ => rfl)) fun _ _ => .t) el_nil)) (wio hio fun _ => (.un (.un (.un (.un (.eq (.eq (.eq .nil)))))))))) (bx_nf (fun s => [.is (sh rTape) u.1, .is (sh (rList rInt)) u.2.1, .is (sh (rList (rPair rInt rInt))) u.2.2, .is (sh (rList rInt)) v_asked258, .un, .un, .un]) (fun _ => rfl) (bx_asg 6 sc_way.nd (ex_lst (r := rInt) el_nil) (fun v_stops270 => (bx_nf (fun s => [.is (sh rTape) u.1, .is (sh (rList rInt)) u.2.1, .is (sh (rList (rPair rInt rInt))) u.2.2, .is (sh (rList rInt)) v_asked258, .un, .un, .is (rList rInt) v_stops270]) (fun _ => rfl) (bx_for (Gt := fun (l272 : (List Int)) s (x273 : (Int × Int)) => [.is (sh rTape) u.1, .is (sh (rList rInt)) u.2.1, .is (sh (rList (rPair rInt rInt))) u.2.2, .is (sh (rList rInt)) v_asked258, .is rInt x273.1, .is rInt x273.2, .is (rList rInt) l272]) (passes_of rfl) rfl (fun (l272 : (List Int)) s => [.is (sh rTape) u.1, .is (sh (rList rInt)) u.2.1, .is (sh (rList (rPair rInt rInt))) u.2.2, .is (sh (rList rInt)) v_asked258, .un, .un, .is (rList rInt) l272]) v_stops270 (ei_sh (ex_var 2 cp_sh fun _ => rfl) (cp_pair cp_int cp_int)) (fun _ => (.eq (.eq (.eq (.eq (.eq (.eq (.eq .nil)))))))) (fun _ _ => trivial) (fun l272 _ => (eg_pair rfl (eg_name (i := 4) rfl sc_way.nd) (fun _ => (eg_name (i := 5) rfl sc_way.nd)) inferInstance)) (fun l272 x273 => (bx_nf (fun s => [.is (sh rTape) u.1, .is (sh (rList rInt)) u.2.1, .is (sh (rList (rPair rInt rInt))) u.2.2, .is (sh (rList rInt)) v_asked258, .is rInt x273.1, .is rInt x273.2, .is (rList rInt) l272]) (fun _ => rfl) (bx_augL 6 cp_int sc_way.nd (ex_lst (r := rInt) (el_cons (ex_plc (eo_t (ex_tix t_ix h_ix c_Tape_DgetitemD b_Tape_DgetitemD (hr.mono (by decide)) (eo_t (ex_var 0 cp_sh fun _ => rfl)) (ex_var 4 cp_int fun _ => rfl) fun _ _ => .t)) plc2_0 cp_int fun _ _ => .t) (el_cons (ex_plc (eo_t (ex_tix t_ix h_ix c_Tape_DgetitemD b_Tape_DgetitemD (hr.mono (by decide)) (eo_t (ex_var 0 cp_sh fun _ => rfl)) (ex_var 5 cp_int fun _ => rfl) fun _ _ => .t)) plc2_1 cp_int fun _ _ => .t) el_nil))) (fun _ => rfl) (fun _ => rfl) fun v_stops274 => (bx_end v_stops274 fun _ => (.eq (.eq (.eq (.eq (.un (.un (.eq .nil))))))))))) (fun l272 => (bx_nf (fun s => [.is (sh rTape) u.1, .is (sh (rList rInt)) u.2.1, .is (sh (rList (rPair rInt rInt))) u.2.2, .is (sh (rList rInt)) v_asked258, .un, .un, .is (rList rInt) l272]) (fun _ => rfl) (bx_ret (ex_lst (r := rInt) (el_star (eo_own (U := Unit) (a := ()) 6 fun _ => rfl) cp_int (fun _ _ => (.v rfl)) (el_cons (ex_plc (eo_t (ex_tix t_ix h_ix c_Tape_DgetitemD b_Tape_DgetitemD (hr.mono (by decide)) (eo_t (ex_var 0 cp_sh fun _ => rfl)) (ex_ix (eo_t (ex_var 3 cp_sh fun _ => rfl)) ex_int cp_int fun _ _ => .ts) fun _ _ => .t)) plc2_0 cp_int fun _ _ => .t) (el_cons (ex_plc (eo_t (ex_tix t_ix h_ix c_Tape_DgetitemD b_Tape_DgetitemD (hr.mono (by decide)) (eo_t (ex_var 0 cp_sh fun _ => rfl)) (ex_ix (eo_t (ex_ix (eo_t (ex_call (E := E) (fun q298 => (q298.1, q298.2.1)) c_fresh_runs (hr.mono (by decide)) rfl g_fresh_runs k_fresh_runs b_fresh_runs (by exact passes_call (takes_of rfl rfl rfl rfl) fun _ _ _ _ h => h) (ea_cons (eo_t (ex_var 1 cp_sh fun _ => rfl)) (ea_cons (eo_t (ex_var 2 cp_sh fun _ => rfl)) ea_nil)) (fun _ => rfl) (.inr fun _ _ => (.cp cp_sh (.tc cp_sh) (.cp cp_sh (.tc cp_sh) .nil))) (hWE hW) (wio hio fun _ => (.un (.un (.un (.un (.eq (.eq (.un .nil)))))))))) (ex_neg ex_int) cp_sh fun _ _ => .t)) (ex_neg ex_int) cp_int fun _ _ => .ts) fun _ _ => .t)) plc2_1 cp_int fun _ _ => .t) el_nil)))) (wio hio fun _ => (.un (.un (.un (.un (.eq (.eq (.un .nil))))))))))) inferInstance inferInstance))) inferInstance (fun _ => rfl)))))) inferInstance (fun _ => rfl)))))))⟩
theorem sc_waits : FnScope ["tape", "asks", "row", "count", "found", "index", "place", "runs", "steps", "stop", "stops", "turns"] ["tape", "asks", "row"] (defScope (Hd.tp 25)) := ⟨rfl, rfl, rfl, by decide +kernel, rfl, by decide +kernel, by decide +kernel⟩
theorem bk_waits_0 : BlkOk ["tape", "asks", "row", "count", "found", "index", "place", "runs", "steps", "stop", "stops", "turns"] (defScope (Hd.tp 25)) { kind := .function, names := [(".0", .local), ("count", .local)], isGenerator := false, isCoroutine := false, more := [] } [("count", 3)] := blkOk_by (by decide +kernel)
theorem ok_waits (f_abs : mg "abs" = none) (f_enumerate : mg "enumerate" = none) (t_cls : TapeCls K) (t_length : Prp K (tapeC K) "length") (t_ix : Mth K "__getitem__") (h_ix : PySem.W.fnIn K (He.ma K (tapeC K) "__getitem__") = true) {d_Tape_DgetitemD : FuncData} (c_Tape_DgetitemD : FnOk P w K mg base (L2.CX P w) 1 (He.ma K (tapeC K) "__getitem__") d_Tape_DgetitemD ["self", "index"] (SpP K 2 (fun u : ((Int × List (Int × Int)) × Int) => [.is (sh rTape) u.1, .is rInt u.2]) (rPair rInt rInt) m_Tape_DgetitemD)) (b_Tape_DgetitemD : Binds K d_Tape_DgetitemD ["self", "index"] []) {d_Tape_length : FuncData} (c_Tape_length : FnOk P w K mg base (L2.CX P w) 1 (pgA K (tapeC K) "length") d_Tape_length ["self"] (SpP K 1 (fun u : (Int × List (Int × Int)) => [.is (sh rTape) u]) rInt m_Tape_length)) (b_Tape_length : Binds K d_Tape_length ["self"] []) {d_fresh_runs : FuncData} (c_fresh_runs : FnOk P w K mg base (L2.CX P w) 2 (ga K "fresh_runs") d_fresh_runs ["asks", "row"] (SpP K 2 (fun u : ((List Int) × (List (Int × Int))) => [.is (sh (rList rInt)) u.1, .is (sh (rList (rPair rInt rInt))) u.2]) (rList (sh (rList rInt))) m_fresh_runs)) (g_fresh_runs : mg "fresh_runs" = some (.ref (ga K "fresh_runs"))) (k_fresh_runs : PySem.W.keepIn K (.ref (ga K "fresh_runs")) = true) (b_fresh_runs : Binds K d_fresh_runs ["asks", "row"] []) {d_way : FuncData} (c_way : FnOk P w K mg base (L2.CX P w) 4 (ga K "way") d_way ["tape", "asks", "row"] (SpP K 3 (fun u : ((Int × List (Int × Int)) × (List Int) × (List (Int × Int))) => [.is (sh rTape) u.1, .is (sh (rList rInt)) u.2.1, .is (sh (rList (rPair rInt rInt))) u.2.2]) (rList rInt) m_way)) (g_way : mg "way" = some (.ref (ga K "way"))) (k_way : PySem.W.keepIn K (.ref (ga K "way")) = true) (b_way : Binds K d_way ["tape", "asks", "row"] []) (FD : FunD K "waits" "waits" (defArgs (Hd.tp 25)) (defBody (Hd.tp 25)) (defScope (Hd.tp 25)) [] [] (ga K "waits") fd) : FnOk P w K mg base (L2.CX P w) 5 (ga K "waits") fd ["tape", "asks", "row"] (SpP K 3 (fun u : ((Int × List (Int × Int)) × (List Int) × (List (Int × Int))) => [.is (sh rTape) u.1, .is (sh (rList rInt)) u.2.1, .is (sh (rList (rPair rInt rInt))) u.2.2]) (rList (rOpt (rPair rInt rInt))) m_waits) :=
  fn_pure (k := 4) FD sc_waits o_waits (fun _ => rfl) fun u cdv A outer s H E hr F hio hW => ⟨_, (bx_nf (fun s => [.is (sh rTape) u.1, .is (sh (rList rInt)) u.2.1, .is (sh (rList (rPair rInt rInt))) u.2.2, .un, .un, .un, .un, .un, .un, .un, .un, .un]) (fun _ => rfl) (bx_asg 10 sc_waits.nd (ex_freeze (ex_call (E := E) (fun q329 => (q329.1, q329.2.1, q329.2.2.1)) c_way (hr.mono (by decide)) rfl g_way k_way b_way (by exact passes_call (takes_of rfl rfl rfl rfl) fun _ _ _ _ h => h) (ea_cons (eo_t (ex_var 0 cp_sh fun _ => rfl)) (ea_cons (eo_t (ex_var 1 cp_sh fun _ => rfl)) (ea_cons (eo_t (ex_var 2 cp_sh fun _ => rfl)) ea_nil))) (fun _ => rfl) (.inl ⟨(clo_list clo_int), fun _ _ => (.cp cp_sh .t (.cp cp_sh .t (.cp cp_sh .t .nil)))⟩) (hWE hW) (wio hio fun _ => (.un (.un (.un (.eq (.eq (.eq (.eq (.eq (.eq (.eq (.eq (.eq .nil))))))))))))))) (fun v_stops322 => (bx_nf (fun s => [.is (sh rTape) u.1, .is (sh (rList rInt)) u.2.1, .is (sh (rList (rPair rInt rInt))) u.2.2, .un, .un, .un, .un, .un, .un, .un, .is (sh (rList rInt)) v_stops322, .un]) (fun _ => rfl) (bx_lc (i := 4) (Gt := fun s (x331 : Int) => [.is (sh rTape) u.1, .is (sh (rList rInt)) u.2.1, .is (sh (rList (rPair rInt rInt))) u.2.2, .is rInt x331, .un, .un, .un, .un, .un, .un, .is (sh (rList rInt)) v_stops322, .un]) s rfl sc_waits.nd (ei_sh (ex_var 1 cp_sh fun _ => rfl) cp_int) (fun _ => trivial) bk_waits_0 (fun _ => (.cons rfl .nil)) (by exact fun _ h => h) (fun _ _ => (.eq (.eq (.eq (.un (.eq (.eq (.eq (.eq (.eq (.eq (.eq (.eq .nil))))))))))))) (fun _ _ _ _ _ _ => (eg_name (i := 3) rfl sc_waits.nd)) (fun _ _ _ _ _ x331 => ets_nil) (fun _ _ _ _ _ x331 => ex_noneO) inferInstance inferInstance (fun v_found330 => (bx_nf (fun s => [.is (sh rTape) u.1, .is (sh (rList rInt)) u.2.1, .is (sh (rList (rPair rInt rInt))) u.2.2, .un, .is (rList (rOpt (rPair rInt rInt))) v_found330, .un, .un, .un, .un, .un, .is (sh (rList rInt)) v_stops322, .un]) (fun _ => rfl) (bx_par 8 6 sc_waits.nd rfl (by decide) ex_int (ex_prop t_cls t_length c_Tape_length b_Tape_length (hr.mono (by decide)) (eo_t (ex_var 0 cp_sh fun _ => rfl)) fun _ _ => .t) (fun v_steps333 v_place334 => (bx_nf (fun s => [.is (sh rTape) u.1, .is (sh (rList rInt)) u.2.1, .is (sh (rList (rPair rInt rInt))) u.2.2, .un, .is (rList (rOpt (rPair rInt rInt))) v_found330, .un, .is rInt v_place334, .un, .is rInt v_steps333, .un, .is (sh (rList rInt)) v_stops322, .un]) (fun _ => rfl) (bx_asg 7 sc_waits.nd (ex_freeze (ex_call (E := E) (fun q340 => (q340.1, q340.2.1)) c_fresh_runs (hr.mono (by decide)) rfl g_fresh_runs k_fresh_runs b_fresh_runs (by exact passes_call (takes_of rfl rfl rfl rfl) fun _ _ _ _ h => h) (ea_cons (eo_t (ex_var 1 cp_sh fun _ => rfl)) (ea_cons (eo_t (ex_var 2 cp_sh fun _ => rfl)) ea_nil)) (fun _ => rfl) (.inr fun _ _ => (.cp cp_sh (.tc cp_sh) (.cp cp_sh (.tc cp_sh) .nil))) (hWE hW) (wio hio fun _ => (.un (.un (.un (.eq (.un (.eq (.un (.eq (.un (.eq (.un (.eq .nil))))))))))))))) (fun v_runs335 => (bx_nf (fun s => [.is (sh rTape) u.1, .is (sh (rList rInt)) u.2.1, .is (sh (rList (rPair rInt rInt))) u.2.2, .un, .is (rList (rOpt (rPair rInt rInt))) v_found330, .un, .is rInt v_place334, .is (sh (rList (sh (rList rInt)))) v_runs335, .is rInt v_steps333, .un, .is (sh (rList rInt)) v_stops322, .un]) (fun _ => rfl) (bx_for (Gt := fun (l341 : ((List (Option (Int × Int))) × Int × Int)) s (x343 : (Int × Int)) => [.is (sh rTape) u.1, .is (sh (rList rInt)) u.2.1, .is (sh (rList (rPair rInt rInt))) u.2.2, .un, .is (rList (rOpt (rPair rInt rInt))) l341.1, .un, .is rInt l341.2.1, .is (sh (rList (sh (rList rInt)))) v_runs335, .is rInt l341.2.2, .is rInt x343.2, .is (sh (rList rInt)) v_stops322, .is rInt x343.1]) (passes_of rfl) rfl (fun (l341 : ((List (Option (Int × Int))) × Int × Int)) s => [.is (sh rTape) u.1, .is (sh (rList rInt)) u.2.1, .is (sh (rList (rPair rInt rInt))) u.2.2, .un, .is (rList (rOpt (rPair rInt rInt))) l341.1, .un, .is rInt l341.2.1, .is (sh (rList (sh (rList rInt)))) v_runs335, .is rInt l341.2.2, .un, .is (sh (rList rInt)) v_stops322, .un]) (v_found330, v_place334, v_steps333) (ei_enum (ex_var 10 cp_sh fun _ => rfl) cp_int rfl f_enumerate) (fun _ => (.eq (.eq (.eq (.eq (.eq (.eq (.eq (.eq (.eq (.eq (.eq (.eq .nil))))))))))))) (fun _ _ => trivial) (fun l341 _ => (eg_pair rfl (eg_name (i := 11) rfl sc_waits.nd) (fun _ => (eg_name (i := 9) rfl sc_waits.nd)) inferInstance)) (fun l341 x343 => (bx_nf (fun s => [.is (sh rTape) u.1, .is (sh (rList rInt)) u.2.1, .is (sh (rList (rPair rInt rInt))) u.2.2, .un, .is (rList (rOpt (rPair rInt rInt))) l341.1, .un, .is rInt l341.2.1, .is (sh (rList (sh (rList rInt)))) v_runs335, .is rInt l341.2.2, .is rInt x343.2, .is (sh (rList rInt)) v_stops322, .is rInt x343.1]) (fun _ => rfl) (bx_if (GJ := fun (n379 : (List (Option (Int × Int)))) s => [.is (sh rTape) u.1, .is (sh (rList rInt)) u.2.1, .is (sh (rList (rPair rInt rInt))) u.2.2, .un, .is (rList (rOpt (rPair rInt rInt))) n379, .un, .is rInt l341.2.1, .is (sh (rList (sh (rList rInt)))) v_runs335, .is rInt l341.2.2, .is rInt x343.2, .is (sh (rList rInt)) v_stops322, .is rInt x343.1]) (et_cmp op_eq vo_eqI (fun _ _ => stl_ret _) (ex_bin op_modN vo_mod stl_mod (ex_var 11 cp_int fun _ => rfl) ex_int) ex_int rfl) (bx_nf (fun s => [.is (sh rTape) u.1, .is (sh (rList rInt)) u.2.1, .is (sh (rList (rPair rInt rInt))) u.2.2, .un, .is (rList (rOpt (rPair rInt rInt))) l341.1, .un, .is rInt l341.2.1, .is (sh (rList (sh (rList rInt)))) v_runs335, .is rInt l341.2.2, .is rInt x343.2, .is (sh (rList rInt)) v_stops322, .is rInt x343.1]) (fun _ => rfl) (bx_for (Gt := fun (l380 : (List (Option (Int × Int)))) s (x385 : Int) => [.is (sh rTape) u.1, .is (sh (rList rInt)) u.2.1, .is (sh (rList (rPair rInt rInt))) u.2.2, .un, .is (rList (rOpt (rPair rInt rInt))) l380, .is rInt x385, .is rInt l341.2.1, .is (sh (rList (sh (rList rInt)))) v_runs335, .is rInt l341.2.2, .is rInt x343.2, .is (sh (rList rInt)) v_stops322, .is rInt x343.1]) (passes_of rfl) rfl (fun (l380 : (List (Option (Int × Int)))) s => [.is (sh rTape) u.1, .is (sh (rList rInt)) u.2.1, .is (sh (rList (rPair rInt rInt))) u.2.2, .un, .is (rList (rOpt (rPair rInt rInt))) l380, .un, .is rInt l341.2.1, .is (sh (rList (sh (rList rInt)))) v_runs335, .is rInt l341.2.2, .is rInt x343.2, .is (sh (rList rInt)) v_stops322, .is rInt x343.1]) l341.1 (ei_sh (ex_ix (eo_t (ex_var 7 cp_sh fun _ => rfl)) (ex_bin op_fdivN vo_div stl_div (ex_var 11 cp_int fun _ => rfl) ex_int) cp_sh fun _ _ => .ts) cp_int) (fun _ => (.eq (.eq (.eq (.eq (.eq (.eq (.eq (.eq (.eq (.eq (.eq (.eq .nil))))))))))))) (fun _ _ => trivial) (fun l380 _ => (eg_name (i := 5) rfl sc_waits.nd)) (fun l380 x385 => (bx_nf (fun s => [.is (sh rTape) u.1, .is (sh (rList rInt)) u.2.1, .is (sh (rList (rPair rInt rInt))) u.2.2, .un, .is (rList (rOpt (rPair rInt rInt))) l380, .is rInt x385, .is rInt l341.2.1, .is (sh (rList (sh (rList rInt)))) v_runs335, .is rInt l341.2.2, .is rInt x343.2, .is (sh (rList rInt)) v_stops322, .is rInt x343.1]) (fun _ => rfl) (bx_setS 4 (cp_opt (cp_pair cp_int cp_int)) (ex_some (ex_tup2 (ex_bin op_sub (vo_I0 fun i j => i - j) (fun _ _ => stl_ret _) (ex_bin op_add (vo_I0 fun i j => i + j) (fun _ _ => stl_ret _) (ex_var 8 cp_int fun _ => rfl) (ex_plc (eo_t (ex_tix t_ix h_ix c_Tape_DgetitemD b_Tape_DgetitemD (hr.mono (by decide)) (eo_t (ex_var 0 cp_sh fun _ => rfl)) (ex_var 5 cp_int fun _ => rfl) fun _ _ => .t)) plc2_1 cp_int fun _ _ => .t)) (ex_var 6 cp_int fun _ => rfl)) (ex_var 11 cp_int fun _ => rfl))) (ex_var 5 cp_int fun _ => rfl) (fun _ => rfl) (fun _ => rfl) fun v_found407 => (bx_end v_found407 fun _ => (.eq (.eq (.eq (.eq (.eq (.un (.eq (.eq (.eq (.eq (.eq (.eq .nil)))))))))))))))) (fun l380 => (bx_end l380 fun _ => (.eq (.eq (.eq (.eq (.eq (.eq (.eq (.eq (.eq (.eq (.eq (.eq .nil)))))))))))))) inferInstance inferInstance)) (bx_end l341.1 fun _ => (.eq (.eq (.eq (.eq (.eq (.eq (.eq (.eq (.eq (.eq (.eq (.eq .nil))))))))))))) (fun n379 => (bx_nf (fun s => [.is (sh rTape) u.1, .is (sh (rList rInt)) u.2.1, .is (sh (rList (rPair rInt rInt))) u.2.2, .un, .is (rList (rOpt (rPair rInt rInt))) n379, .un, .is rInt l341.2.1, .is (sh (rList (sh (rList rInt)))) v_runs335, .is rInt l341.2.2, .is rInt x343.2, .is (sh (rList rInt)) v_stops322, .is rInt x343.1]) (fun _ => rfl) (bx_augI 8 ipi_add sc_waits.nd (ex_abs (ex_bin op_sub (vo_I0 fun i j => i - j) (fun _ _ => stl_ret _) (ex_var 9 cp_int fun _ => rfl) (ex_var 6 cp_int fun _ => rfl)) rfl f_abs) (fun _ => rfl) (fun v_steps408 => (bx_nf (fun s => [.is (sh rTape) u.1, .is (sh (rList rInt)) u.2.1, .is (sh (rList (rPair rInt rInt))) u.2.2, .un, .is (rList (rOpt (rPair rInt rInt))) n379, .un, .is rInt l341.2.1, .is (sh (rList (sh (rList rInt)))) v_runs335, .is rInt v_steps408, .is rInt x343.2, .is (sh (rList rInt)) v_stops322, .is rInt x343.1]) (fun _ => rfl) (bx_asg 6 sc_waits.nd (ex_var 9 cp_int fun _ => rfl) (fun v_place414 => (bx_end (n379, v_place414, v_steps408) fun _ => (.eq (.eq (.eq (.eq (.eq (.eq (.eq (.eq (.eq (.un (.eq (.un .nil)))))))))))))) inferInstance (fun _ => rfl)))) fun _ => rfl))) inferInstance))) (fun l341 => (bx_nf (fun s => [.is (sh rTape) u.1, .is (sh (rList rInt)) u.2.1, .is (sh (rList (rPair rInt rInt))) u.2.2, .un, .is (rList (rOpt (rPair rInt rInt))) l341.1, .un, .is rInt l341.2.1, .is (sh (rList (sh (rList rInt)))) v_runs335, .is rInt l341.2.2, .un, .is (sh (rList rInt)) v_stops322, .un]) (fun _ => rfl) (bx_ret (ex_mv 4 fun _ => rfl) (wio hio fun _ => (.un (.un (.un (.eq (.eq (.eq (.un (.un (.un (.eq (.un (.eq .nil)))))))))))))))) inferInstance inferInstance))) inferInstance (fun _ => rfl)))) inferInstance inferInstance (fun _ => rfl) (fun _ => rfl)))) (fun _ => rfl)))) inferInstance (fun _ => rfl)))⟩
theorem sc_total : FnScope ["tape", "asks", "row", "count", "steps", "turns", "wait"] ["tape", "asks", "row"] (defScope (Hd.tp 26)) := ⟨rfl, rfl, rfl, by decide +kernel, rfl, by decide +kernel, by decide +kernel⟩
theorem ok_total (f_zip : mg "zip" = none) {d_waits : FuncData} (c_waits : FnOk P w K mg base (L2.CX P w) 5 (ga K "waits") d_waits ["tape", "asks", "row"] (SpP K 3 (fun u : ((Int × List (Int × Int)) × (List Int) × (List (Int × Int))) => [.is (sh rTape) u.1, .is (sh (rList rInt)) u.2.1, .is (sh (rList (rPair rInt rInt))) u.2.2]) (rList (rOpt (rPair rInt rInt))) m_waits)) (g_waits : mg "waits" = some (.ref (ga K "waits"))) (k_waits : PySem.W.keepIn K (.ref (ga K "waits")) = true) (b_waits : Binds K d_waits ["tape", "asks", "row"] []) (FD : FunD K "total" "total" (defArgs (Hd.tp 26)) (defBody (Hd.tp 26)) (defScope (Hd.tp 26)) [] [] (ga K "total") fd) : FnOk P w K mg base (L2.CX P w) 6 (ga K "total") fd ["tape", "asks", "row"] (SpP K 3 (fun u : ((Int × List (Int × Int)) × (List Int) × (List (Int × Int))) => [.is (sh rTape) u.1, .is (sh (rList rInt)) u.2.1, .is (sh (rList (rPair rInt rInt))) u.2.2]) (rPair rInt rInt) m_total) :=
  fn_pure (k := 5) FD sc_total o_total (fun _ => rfl) fun u cdv A outer s H E hr F hio hW => ⟨_, (bx_nf (fun s => [.is (sh rTape) u.1, .is (sh (rList rInt)) u.2.1, .is (sh (rList (rPair rInt rInt))) u.2.2, .un, .un, .un, .un]) (fun _ => rfl) (bx_asg2 4 5 cp_int sc_total.nd (by decide) ex_int (fun v_steps416 => (bx_nf (fun s => [.is (sh rTape) u.1, .is (sh (rList rInt)) u.2.1, .is (sh (rList (rPair rInt rInt))) u.2.2, .un, .is rInt v_steps416, .is rInt v_steps416, .un]) (fun _ => rfl) (bx_for (Gt := fun (l417 : (Int × Int)) s (x427 : (Int × (Option (Int × Int)))) => [.is (sh rTape) u.1, .is (sh (rList rInt)) u.2.1, .is (sh (rList (rPair rInt rInt))) u.2.2, .is rInt x427.1, .is rInt l417.1, .is rInt l417.2, .is (rOpt (rPair rInt rInt)) x427.2]) (passes_of rfl) rfl (fun (l417 : (Int × Int)) s => [.is (sh rTape) u.1, .is (sh (rList rInt)) u.2.1, .is (sh (rList (rPair rInt rInt))) u.2.2, .un, .is rInt l417.1, .is rInt l417.2, .un]) (v_steps416, v_steps416) (ei_zipC (ex_var 1 cp_sh fun _ => rfl) (ex_freeze (ex_call (E := E) (fun q424 => (q424.1, q424.2.1, q424.2.2.1)) c_waits (hr.mono (by decide)) rfl g_waits k_waits b_waits (by exact passes_call (takes_of rfl rfl rfl rfl) fun _ _ _ _ h => h) (ea_cons (eo_t (ex_var 0 cp_sh fun _ => rfl)) (ea_cons (eo_t (ex_var 1 cp_sh fun _ => rfl)) (ea_cons (eo_t (ex_var 2 cp_sh fun _ => rfl)) ea_nil))) (fun _ => rfl) (.inl ⟨(clo_list (clo_opt (clo_pair clo_int clo_int))), fun _ _ => (.cp cp_sh .t (.cp cp_sh .t (.cp cp_sh .t .nil)))⟩) (hWE hW) (wio hio fun _ => (.un (.un (.un (.eq (.un (.un (.eq .nil)))))))))) cp_int (cp_opt (cp_pair cp_int cp_int)) rfl f_zip) (fun _ => (.eq (.eq (.eq (.eq (.eq (.eq (.eq .nil)))))))) (fun _ _ => trivial) (fun l417 _ => (eg_pair rfl (eg_name (i := 3) rfl sc_total.nd) (fun _ => (eg_name (i := 6) rfl sc_total.nd)) inferInstance)) (fun l417 x427 => (bx_nf (fun s => [.is (sh rTape) u.1, .is (sh (rList rInt)) u.2.1, .is (sh (rList (rPair rInt rInt))) u.2.2, .is rInt x427.1, .is rInt l417.1, .is rInt l417.2, .is (rOpt (rPair rInt rInt)) x427.2]) (fun _ => rfl) (bx_if (GJ := fun (n442 : (Int × Int)) s => [.is (sh rTape) u.1, .is (sh (rList rInt)) u.2.1, .is (sh (rList (rPair rInt rInt))) u.2.2, .is rInt x427.1, .is rInt n442.1, .is rInt n442.2, .is (rOpt (rPair rInt rInt)) x427.2]) (et_notN nn_pair (eo_t (ex_var 6 (cp_opt (cp_pair cp_int cp_int)) fun _ => rfl)) fun _ _ => .t) (bx_nf (fun s => [.is (sh rTape) u.1, .is (sh (rList rInt)) u.2.1, .is (sh (rList (rPair rInt rInt))) u.2.2, .is rInt x427.1, .is rInt l417.1, .is rInt l417.2, .is (rOpt (rPair rInt rInt)) x427.2]) (fun _ => rfl) (bx_augI 4 ipi_add sc_total.nd (ex_bin op_mul vo_mul stl_mul (ex_var 3 cp_int fun _ => rfl) (ex_plc (eo_t (ex_unopt (ex_var 6 (cp_opt (cp_pair cp_int cp_int)) fun _ => rfl))) plc2_0 cp_int fun _ _ => .t)) (fun _ => rfl) (fun v_steps443 => (bx_nf (fun s => [.is (sh rTape) u.1, .is (sh (rList rInt)) u.2.1, .is (sh (rList (rPair rInt rInt))) u.2.2, .is rInt x427.1, .is rInt v_steps443, .is rInt l417.2, .is (rOpt (rPair rInt rInt)) x427.2]) (fun _ => rfl) (bx_augI 5 ipi_add sc_total.nd (ex_bin op_mul vo_mul stl_mul (ex_var 3 cp_int fun _ => rfl) (ex_plc (eo_t (ex_unopt (ex_var 6 (cp_opt (cp_pair cp_int cp_int)) fun _ => rfl))) plc2_1 cp_int fun _ _ => .t)) (fun _ => rfl) (fun v_turns449 => (bx_end (v_steps443, v_turns449) fun _ => (.eq (.eq (.eq (.eq (.eq (.eq (.eq .nil))))))))) fun _ => rfl))) fun _ => rfl)) (bx_end (l417.1, l417.2) fun _ => (.eq (.eq (.eq (.eq (.eq (.eq (.eq .nil)))))))) (fun n442 => (bx_end (n442.1, n442.2) fun _ => (.eq (.eq (.eq (.un (.eq (.eq (.un .nil))))))))) inferInstance))) (fun l417 => (bx_nf (fun s => [.is (sh rTape) u.1, .is (sh (rList rInt)) u.2.1, .is (sh (rList (rPair rInt rInt))) u.2.2, .un, .is rInt l417.1, .is rInt l417.2, .un]) (fun _ => rfl) (bx_ret (ex_tup2 (ex_var 4 cp_int fun _ => rfl) (ex_var 5 cp_int fun _ => rfl)) (wio hio fun _ => (.un (.un (.un (.eq (.un (.un (.eq .nil))))))))))) inferInstance inferInstance))) inferInstance (fun _ => rfl) (fun _ => rfl)))⟩
theorem sc_longest : FnScope ["tape", "asks", "row", "cost", "most", "told", "wait"] ["tape", "asks", "row", "cost"] (defScope (Hd.tp 27)) := ⟨rfl, rfl, rfl, by decide +kernel, rfl, by decide +kernel, by decide +kernel⟩
theorem ok_longest  {d_check_cost : FuncData} (c_check_cost : FnOk P w K mg base (L2.CX P w) 4 (ga K "check_cost") d_check_cost ["cost"] (SpP K 1 (fun u : (Int × Int) => [.is (rPair rInt rInt) u]) rNon m_check_cost)) (g_check_cost : mg "check_cost" = some (.ref (ga K "check_cost"))) (k_check_cost : PySem.W.keepIn K (.ref (ga K "check_cost")) = true) (b_check_cost : Binds K d_check_cost ["cost"] []) {d_is_less : FuncData} (c_is_less : FnOk P w K mg base (L2.CX P w) 1 (ga K "is_less") d_is_less ["one", "other"] (SpP K 2 (fun u : ((Int × Int) × (Int × Int)) => [.is (rPair rInt rInt) u.1, .is (rPair rInt rInt) u.2]) rBool m_is_less)) (g_is_less : mg "is_less" = some (.ref (ga K "is_less"))) (k_is_less : PySem.W.keepIn K (.ref (ga K "is_less")) = true) (b_is_less : Binds K d_is_less ["one", "other"] []) {d_waits : FuncData} (c_waits : FnOk P w K mg base (L2.CX P w) 5 (ga K "waits") d_waits ["tape", "asks", "row"] (SpP K 3 (fun u : ((Int × List (Int × Int)) × (List Int) × (List (Int × Int))) => [.is (sh rTape) u.1, .is (sh (rList rInt)) u.2.1, .is (sh (rList (rPair rInt rInt))) u.2.2]) (rList (rOpt (rPair rInt rInt))) m_waits)) (g_waits : mg "waits" = some (.ref (ga K "waits"))) (k_waits : PySem.W.keepIn K (.ref (ga K "waits")) = true) (b_waits : Binds K d_waits ["tape", "asks", "row"] []) {d_worth : FuncData} (c_worth : FnOk P w K mg base (L2.CX P w) 2 (ga K "worth") d_worth ["form", "cost"] (SpP K 2 (fun u : ((Int × Int) × (Int × Int)) => [.is (rPair rInt rInt) u.1, .is (rPair rInt rInt) u.2]) (rPair rInt rInt) m_worth)) (g_worth : mg "worth" = some (.ref (ga K "worth"))) (k_worth : PySem.W.keepIn K (.ref (ga K "worth")) = true) (b_worth : Binds K d_worth ["form", "cost"] []) (FD : FunD K "longest" "longest" (defArgs (Hd.tp 27)) (defBody (Hd.tp 27)) (defScope (Hd.tp 27)) [] [] (ga K "longest") fd) : FnOk P w K mg base (L2.CX P w) 6 (ga K "longest") fd ["tape", "asks", "row", "cost"] (SpP K 4 (fun u : ((Int × List (Int × Int)) × (List Int) × (List (Int × Int)) × (Int × Int)) => [.is (sh rTape) u.1, .is (sh (rList rInt)) u.2.1, .is (sh (rList (rPair rInt rInt))) u.2.2.1, .is (rPair rInt rInt) u.2.2.2]) (rPair rInt rInt) m_longest) :=
  fn_pure (k := 5) FD sc_longest o_longest (fun _ => rfl) fun u cdv A outer s H E hr F hio hW => ⟨_, (bx_nf (fun s => [.is (sh rTape) u.1, .is (sh (rList rInt)) u.2.1, .is (sh (rList (rPair rInt rInt))) u.2.2.1, .is (rPair rInt rInt) u.2.2.2, .un, .un, .un]) (fun _ => rfl) (bx_asg 5 sc_longest.nd (ex_freeze (ex_call (E := E) (fun q465 => (q465.1, q465.2.1, q465.2.2.1)) c_waits (hr.mono (by decide)) rfl g_waits k_waits b_waits (by exact passes_call (takes_of rfl rfl rfl rfl) fun _ _ _ _ h => h) (ea_cons (eo_t (ex_var 0 cp_sh fun _ => rfl)) (ea_cons (eo_t (ex_var 1 cp_sh fun _ => rfl)) (ea_cons (eo_t (ex_var 2 cp_sh fun _ => rfl)) ea_nil))) (fun _ => rfl) (.inl ⟨(clo_list (clo_opt (clo_pair clo_int clo_int))), fun _ _ => (.cp cp_sh .t (.cp cp_sh .t (.cp cp_sh .t .nil)))⟩) (hWE hW) (wio hio fun _ => (.un (.un (.un (.un (.eq (.eq (.eq .nil)))))))))) (fun v_told458 => (bx_nf (fun s => [.is (sh rTape) u.1, .is (sh (rList rInt)) u.2.1, .is (sh (rList (rPair rInt rInt))) u.2.2.1, .is (rPair rInt rInt) u.2.2.2, .un, .is (sh (rList (rOpt (rPair rInt rInt)))) v_told458, .un]) (fun _ => rfl) (bx_expr (ex_call (E := E) (fun q468 => q468.1) c_check_cost (hr.mono (by decide)) rfl g_check_cost k_check_cost b_check_cost (by exact passes_call (takes_of rfl rfl rfl rfl) fun _ _ _ _ h => h) (ea_cons (eo_t (ex_var 3 (cp_pair cp_int cp_int) fun _ => rfl)) ea_nil) (fun _ => rfl) (.inl ⟨clo_non, fun _ _ => (.cp (cp_pair cp_int cp_int) .t .nil)⟩) (hWE hW) (wio hio fun _ => (.un (.un (.un (.un (.eq (.un (.eq .nil))))))))) (bx_nf (fun s => [.is (sh rTape) u.1, .is (sh (rList rInt)) u.2.1, .is (sh (rList (rPair rInt rInt))) u.2.2.1, .is (rPair rInt rInt) u.2.2.2, .un, .is (sh (rList (rOpt (rPair rInt rInt)))) v_told458, .un]) (fun _ => rfl) (bx_asg 4 sc_longest.nd (ex_tup2 ex_int ex_int) (fun v_most469 => (bx_nf (fun s => [.is (sh rTape) u.1, .is (sh (rList rInt)) u.2.1, .is (sh (rList (rPair rInt rInt))) u.2.2.1, .is (rPair rInt rInt) u.2.2.2, .is (rPair rInt rInt) v_most469, .is (sh (rList (rOpt (rPair rInt rInt)))) v_told458, .un]) (fun _ => rfl) (bx_for (Gt := fun (l472 : (Int × Int)) s (x473 : (Option (Int × Int))) => [.is (sh rTape) u.1, .is (sh (rList rInt)) u.2.1, .is (sh (rList (rPair rInt rInt))) u.2.2.1, .is (rPair rInt rInt) u.2.2.2, .is (rPair rInt rInt) l472, .is (sh (rList (rOpt (rPair rInt rInt)))) v_told458, .is (rOpt (rPair rInt rInt)) x473]) (passes_of rfl) rfl (fun (l472 : (Int × Int)) s => [.is (sh rTape) u.1, .is (sh (rList rInt)) u.2.1, .is (sh (rList (rPair rInt rInt))) u.2.2.1, .is (rPair rInt rInt) u.2.2.2, .is (rPair rInt rInt) l472, .is (sh (rList (rOpt (rPair rInt rInt)))) v_told458, .un]) v_most469 (ei_sh (ex_var 5 cp_sh fun _ => rfl) (cp_opt (cp_pair cp_int cp_int))) (fun _ => (.eq (.eq (.eq (.eq (.eq (.eq (.eq .nil)))))))) (fun _ _ => trivial) (fun l472 _ => (eg_name (i := 6) rfl sc_longest.nd)) (fun l472 x473 => (bx_nf (fun s => [.is (sh rTape) u.1, .is (sh (rList rInt)) u.2.1, .is (sh (rList (rPair rInt rInt))) u.2.2.1, .is (rPair rInt rInt) u.2.2.2, .is (rPair rInt rInt) l472, .is (sh (rList (rOpt (rPair rInt rInt)))) v_told458, .is (rOpt (rPair rInt rInt)) x473]) (fun _ => rfl) (bx_if (GJ := fun (n507 : (Int × Int)) s => [.is (sh rTape) u.1, .is (sh (rList rInt)) u.2.1, .is (sh (rList (rPair rInt rInt))) u.2.2.1, .is (rPair rInt rInt) u.2.2.2, .is (rPair rInt rInt) n507, .is (sh (rList (rOpt (rPair rInt rInt)))) v_told458, .is (rOpt (rPair rInt rInt)) x473]) (et_w (ew_and (et_notN nn_pair (eo_t (ex_var 6 (cp_opt (cp_pair cp_int cp_int)) fun _ => rfl)) fun _ _ => .t) (ew_and1 (et_val (ex_call (E := E) (fun q497 => (q497.1, q497.2.1)) c_is_less (hr.mono (by decide)) rfl g_is_less k_is_less b_is_less (by exact passes_call (takes_of rfl rfl rfl rfl) fun _ _ _ _ h => h) (ea_cons (eo_t (ex_var 4 (cp_pair cp_int cp_int) fun _ => rfl)) (ea_cons (eo_t (ex_call (E := E) (fun q492 => (q492.1, q492.2.1)) c_worth (hr.mono (by decide)) rfl g_worth k_worth b_worth (by exact passes_call (takes_of rfl rfl rfl rfl) fun _ _ _ _ h => h) (ea_cons (eo_t (ex_unopt (ex_var 6 (cp_opt (cp_pair cp_int cp_int)) fun _ => rfl))) (ea_cons (eo_t (ex_var 3 (cp_pair cp_int cp_int) fun _ => rfl)) ea_nil)) (fun _ => rfl) (.inl ⟨(clo_pair clo_int clo_int), fun _ _ => (.cp (cp_pair cp_int cp_int) .t (.cp (cp_pair cp_int cp_int) .t .nil))⟩) (hWE hW) (wio hio fun _ => (.un (.un (.un (.un (.un (.un (.un .nil)))))))))) ea_nil)) (fun _ => rfl) (.inl ⟨clo_bool, fun _ _ => (.cp (cp_pair cp_int cp_int) .t (.cp (cp_pair cp_int cp_int) .t .nil))⟩) (hWE hW) (wio hio fun _ => (.un (.un (.un (.un (.un (.un (.un .nil))))))))))))) (bx_nf (fun s => [.is (sh rTape) u.1, .is (sh (rList rInt)) u.2.1, .is (sh (rList (rPair rInt rInt))) u.2.2.1, .is (rPair rInt rInt) u.2.2.2, .is (rPair rInt rInt) l472, .is (sh (rList (rOpt (rPair rInt rInt)))) v_told458, .is (rOpt (rPair rInt rInt)) x473]) (fun _ => rfl) (bx_asg 4 sc_longest.nd (ex_call (E := E) (fun q514 => (q514.1, q514.2.1)) c_worth (hr.mono (by decide)) rfl g_worth k_worth b_worth (by exact passes_call (takes_of rfl rfl rfl rfl) fun _ _ _ _ h => h) (ea_cons (eo_t (ex_unopt (ex_var 6 (cp_opt (cp_pair cp_int cp_int)) fun _ => rfl))) (ea_cons (eo_t (ex_var 3 (cp_pair cp_int cp_int) fun _ => rfl)) ea_nil)) (fun _ => rfl) (.inl ⟨(clo_pair clo_int clo_int), fun _ _ => (.cp (cp_pair cp_int cp_int) .t (.cp (cp_pair cp_int cp_int) .t .nil))⟩) (hWE hW) (wio hio fun _ => (.un (.un (.un (.un (.un (.un (.un .nil))))))))) (fun v_most508 => (bx_end v_most508 fun _ => (.eq (.eq (.eq (.eq (.eq (.eq (.eq .nil))))))))) inferInstance (fun _ => rfl))) (bx_end l472 fun _ => (.eq (.eq (.eq (.eq (.eq (.eq (.eq .nil)))))))) (fun n507 => (bx_end n507 fun _ => (.eq (.eq (.eq (.eq (.eq (.eq (.un .nil))))))))) inferInstance))) (fun l472 => (bx_nf (fun s => [.is (sh rTape) u.1, .is (sh (rList rInt)) u.2.1, .is (sh (rList (rPair rInt rInt))) u.2.2.1, .is (rPair rInt rInt) u.2.2.2, .is (rPair rInt rInt) l472, .is (sh (rList (rOpt (rPair rInt rInt)))) v_told458, .un]) (fun _ => rfl) (bx_ret (ex_var 4 (cp_pair cp_int cp_int) fun _ => rfl) (wio hio fun _ => (.un (.un (.un (.un (.un (.un (.eq .nil))))))))))) inferInstance inferInstance))) inferInstance (fun _ => rfl)))))) inferInstance (fun _ => rfl)))⟩
theorem sc_trimmed : FnScope ["tape", "asks", "row", "run"] ["tape", "asks", "row"] (defScope (Hd.tp 28)) := ⟨rfl, rfl, rfl, by decide +kernel, rfl, by decide +kernel, by decide +kernel⟩
theorem bk_trimmed_0 : BlkOk ["tape", "asks", "row", "run"] (defScope (Hd.tp 28)) { kind := .function, names := [(".0", .local), ("run", .local)], isGenerator := false, isCoroutine := false, more := [] } [("run", 3)] := blkOk_by (by decide +kernel)
theorem ok_trimmed (f_len : mg "len" = none) {d_check_asks : FuncData} (c_check_asks : FnOk P w K mg base (L2.CX P w) 3 (ga K "check_asks") d_check_asks ["tape", "asks"] (SpP K 2 (fun u : ((Int × List (Int × Int)) × (List Int)) => [.is (sh rTape) u.1, .is (sh (rList rInt)) u.2]) rNon m_check_asks)) (g_check_asks : mg "check_asks" = some (.ref (ga K "check_asks"))) (k_check_asks : PySem.W.keepIn K (.ref (ga K "check_asks")) = true) (b_check_asks : Binds K d_check_asks ["tape", "asks"] []) {d_check_row : FuncData} (c_check_row : FnOk P w K mg base (L2.CX P w) 3 (ga K "check_row") d_check_row ["asks", "row"] (SpP K 2 (fun u : ((List Int) × (List (Int × Int))) => [.is (sh (rList rInt)) u.1, .is (sh (rList (rPair rInt rInt))) u.2]) rNon m_check_row)) (g_check_row : mg "check_row" = some (.ref (ga K "check_row"))) (k_check_row : PySem.W.keepIn K (.ref (ga K "check_row")) = true) (b_check_row : Binds K d_check_row ["asks", "row"] []) {d_fresh_runs : FuncData} (c_fresh_runs : FnOk P w K mg base (L2.CX P w) 2 (ga K "fresh_runs") d_fresh_runs ["asks", "row"] (SpP K 2 (fun u : ((List Int) × (List (Int × Int))) => [.is (sh (rList rInt)) u.1, .is (sh (rList (rPair rInt rInt))) u.2]) (rList (sh (rList rInt))) m_fresh_runs)) (g_fresh_runs : mg "fresh_runs" = some (.ref (ga K "fresh_runs"))) (k_fresh_runs : PySem.W.keepIn K (.ref (ga K "fresh_runs")) = true) (b_fresh_runs : Binds K d_fresh_runs ["asks", "row"] []) (FD : FunD K "trimmed" "trimmed" (defArgs (Hd.tp 28)) (defBody (Hd.tp 28)) (defScope (Hd.tp 28)) [] [] (ga K "trimmed") fd) : FnOk P w K mg base (L2.CX P w) 4 (ga K "trimmed") fd ["tape", "asks", "row"] (SpP K 3 (fun u : ((Int × List (Int × Int)) × (List Int) × (List (Int × Int))) => [.is (sh rTape) u.1, .is (sh (rList rInt)) u.2.1, .is (sh (rList (rPair rInt rInt))) u.2.2]) (rList (rPair rInt rInt)) m_trimmed) :=
  fn_pure (k := 3) FD sc_trimmed o_trimmed (fun _ => rfl) fun u cdv A outer s H E hr F hio hW => ⟨_, (bx_nf (fun s => [.is (sh rTape) u.1, .is (sh (rList rInt)) u.2.1, .is (sh (rList (rPair rInt rInt))) u.2.2, .un]) (fun _ => rfl) (bx_expr (ex_call (E := E) (fun q520 => (q520.1, q520.2.1)) c_check_asks (hr.mono (by decide)) rfl g_check_asks k_check_asks b_check_asks (by exact passes_call (takes_of rfl rfl rfl rfl) fun _ _ _ _ h => h) (ea_cons (eo_t (ex_var 0 cp_sh fun _ => rfl)) (ea_cons (eo_t (ex_var 1 cp_sh fun _ => rfl)) ea_nil)) (fun _ => rfl) (.inl ⟨clo_non, fun _ _ => (.cp cp_sh .t (.cp cp_sh .t .nil))⟩) (hWE hW) (wio hio fun _ => (.un (.un (.un (.eq .nil)))))) (bx_nf (fun s => [.is (sh rTape) u.1, .is (sh (rList rInt)) u.2.1, .is (sh (rList (rPair rInt rInt))) u.2.2, .un]) (fun _ => rfl) (bx_expr (ex_call (E := E) (fun q525 => (q525.1, q525.2.1)) c_check_row (hr.mono (by decide)) rfl g_check_row k_check_row b_check_row (by exact passes_call (takes_of rfl rfl rfl rfl) fun _ _ _ _ h => h) (ea_cons (eo_t (ex_var 1 cp_sh fun _ => rfl)) (ea_cons (eo_t (ex_var 2 cp_sh fun _ => rfl)) ea_nil)) (fun _ => rfl) (.inl ⟨clo_non, fun _ _ => (.cp cp_sh .t (.cp cp_sh .t .nil))⟩) (hWE hW) (wio hio fun _ => (.un (.un (.un (.eq .nil)))))) (bx_nf (fun s => [.is (sh rTape) u.1, .is (sh (rList rInt)) u.2.1, .is (sh (rList (rPair rInt rInt))) u.2.2, .un]) (fun _ => rfl) (bx_ret (ex_lcU (Gt := fun s (x536 : (List Int)) => [.is (sh rTape) u.1, .is (sh (rList rInt)) u.2.1, .is (sh (rList (rPair rInt rInt))) u.2.2, .is (sh (rList rInt)) x536]) s rfl sc_trimmed.nd (ei_sh (ex_freeze (ex_slice (eo_t (ex_call (E := E) (fun q530 => (q530.1, q530.2.1)) c_fresh_runs (hr.mono (by decide)) rfl g_fresh_runs k_fresh_runs b_fresh_runs (by exact passes_call (takes_of rfl rfl rfl rfl) fun _ _ _ _ h => h) (ea_cons (eo_t (ex_var 1 cp_sh fun _ => rfl)) (ea_cons (eo_t (ex_var 2 cp_sh fun _ => rfl)) ea_nil)) (fun _ => rfl) (.inr fun _ _ => (.cp cp_sh (.tc cp_sh) (.cp cp_sh (.tc cp_sh) .nil))) (hWE hW) (wio hio fun _ => (.un (.un (.un (.eq .nil))))))) ep_none (ep_some (ex_len (eo_t (ex_var 2 cp_sh fun _ => rfl)) (fun _ _ => .ts) rfl f_len)) cp_sh fun _ _ => .t)) cp_sh) (fun _ => trivial) bk_trimmed_0 (fun _ => (.cons rfl .nil)) (by exact fun _ h => h) (fun _ _ => (.eq (.eq (.eq (.un .nil))))) (fun _ _ _ _ _ _ => (eg_name (i := 3) rfl sc_trimmed.nd)) (fun _ _ _ _ _ x536 => ets_nil) (fun _ _ _ _ _ x536 => (ex_tup2 (ex_ix (eo_t (ex_var 3 cp_sh fun _ => rfl)) ex_int cp_int fun _ _ => .ts) (ex_ix (eo_t (ex_var 3 cp_sh fun _ => rfl)) (ex_neg ex_int) cp_int fun _ _ => .ts))) inferInstance inferInstance) (wio hio fun _ => (.un (.un (.un (.eq .nil)))))))))))⟩
theorem sc_reading_order : FnScope ["tape", "asks", "row", "index", "run"] ["tape", "asks", "row"] (defScope (Hd.tp 29)) := ⟨rfl, rfl, rfl, by decide +kernel, rfl, by decide +kernel, by decide +kernel⟩
theorem bk_reading_order_0 : BlkOk ["tape", "asks", "row", "index", "run"] (defScope (Hd.tp 29)) { kind := .function, names := [(".0", .local), ("run", .local), ("index", .local)], isGenerator := false, isCoroutine := false, more := [] } [("run", 4), ("index", 3)] := blkOk_by (by decide +kernel)
theorem ok_reading_order  {d_check_asks : FuncData} (c_check_asks : FnOk P w K mg base (L2.CX P w) 3 (ga K "check_asks") d_check_asks ["tape", "asks"] (SpP K 2 (fun u : ((Int × List (Int × Int)) × (List Int)) => [.is (sh rTape) u.1, .is (sh (rList rInt)) u.2]) rNon m_check_asks)) (g_check_asks : mg "check_asks" = some (.ref (ga K "check_asks"))) (k_check_asks : PySem.W.keepIn K (.ref (ga K "check_asks")) = true) (b_check_asks : Binds K d_check_asks ["tape", "asks"] []) {d_check_row : FuncData} (c_check_row : FnOk P w K mg base (L2.CX P w) 3 (ga K "check_row") d_check_row ["asks", "row"] (SpP K 2 (fun u : ((List Int) × (List (Int × Int))) => [.is (sh (rList rInt)) u.1, .is (sh (rList (rPair rInt rInt))) u.2]) rNon m_check_row)) (g_check_row : mg "check_row" = some (.ref (ga K "check_row"))) (k_check_row : PySem.W.keepIn K (.ref (ga K "check_row")) = true) (b_check_row : Binds K d_check_row ["asks", "row"] []) {d_fresh_runs : FuncData} (c_fresh_runs : FnOk P w K mg base (L2.CX P w) 2 (ga K "fresh_runs") d_fresh_runs ["asks", "row"] (SpP K 2 (fun u : ((List Int) × (List (Int × Int))) => [.is (sh (rList rInt)) u.1, .is (sh (rList (rPair rInt rInt))) u.2]) (rList (sh (rList rInt))) m_fresh_runs)) (g_fresh_runs : mg "fresh_runs" = some (.ref (ga K "fresh_runs"))) (k_fresh_runs : PySem.W.keepIn K (.ref (ga K "fresh_runs")) = true) (b_fresh_runs : Binds K d_fresh_runs ["asks", "row"] []) (FD : FunD K "reading_order" "reading_order" (defArgs (Hd.tp 29)) (defBody (Hd.tp 29)) (defScope (Hd.tp 29)) [] [] (ga K "reading_order") fd) : FnOk P w K mg base (L2.CX P w) 4 (ga K "reading_order") fd ["tape", "asks", "row"] (SpP K 3 (fun u : ((Int × List (Int × Int)) × (List Int) × (List (Int × Int))) => [.is (sh rTape) u.1, .is (sh (rList rInt)) u.2.1, .is (sh (rList (rPair rInt rInt))) u.2.2]) (rList rInt) m_reading_order) :=
  fn_pure (k := 3) FD sc_reading_order o_reading_order (fun _ => rfl) fun u cdv A outer s H E hr F hio hW => ⟨_, (bx_nf (fun s => [.is (sh rTape) u.1, .is (sh (rList rInt)) u.2.1, .is (sh (rList (rPair rInt rInt))) u.2.2, .un, .un]) (fun _ => rfl) (bx_expr (ex_call (E := E) (fun q549 => (q549.1, q549.2.1)) c_check_asks (hr.mono (by decide)) rfl g_check_asks k_check_asks b_check_asks (by exact passes_call (takes_of rfl rfl rfl rfl) fun _ _ _ _ h => h) (ea_cons (eo_t (ex_var 0 cp_sh fun _ => rfl)) (ea_cons (eo_t (ex_var 1 cp_sh fun _ => rfl)) ea_nil)) (fun _ => rfl) (.inl ⟨clo_non, fun _ _ => (.cp cp_sh .t (.cp cp_sh .t .nil))⟩) (hWE hW) (wio hio fun _ => (.un (.un (.un (.eq (.eq .nil))))))) (bx_nf (fun s => [.is (sh rTape) u.1, .is (sh (rList rInt)) u.2.1, .is (sh (rList (rPair rInt rInt))) u.2.2, .un, .un]) (fun _ => rfl) (bx_expr (ex_call (E := E) (fun q554 => (q554.1, q554.2.1)) c_check_row (hr.mono (by decide)) rfl g_check_row k_check_row b_check_row (by exact passes_call (takes_of rfl rfl rfl rfl) fun _ _ _ _ h => h) (ea_cons (eo_t (ex_var 1 cp_sh fun _ => rfl)) (ea_cons (eo_t (ex_var 2 cp_sh fun _ => rfl)) ea_nil)) (fun _ => rfl) (.inl ⟨clo_non, fun _ _ => (.cp cp_sh .t (.cp cp_sh .t .nil))⟩) (hWE hW) (wio hio fun _ => (.un (.un (.un (.eq (.eq .nil))))))) (bx_nf (fun s => [.is (sh rTape) u.1, .is (sh (rList rInt)) u.2.1, .is (sh (rList (rPair rInt rInt))) u.2.2, .un, .un]) (fun _ => rfl) (bx_ret (ex_lc2 (vs1 := [3]) (Gt := fun s (x560 : (List Int)) => [.is (sh rTape) u.1, .is (sh (rList rInt)) u.2.1, .is (sh (rList (rPair rInt rInt))) u.2.2, .un, .is (sh (rList rInt)) x560]) (Gu := fun s (x560 : (List Int)) (y561 : Int) => [.is (sh rTape) u.1, .is (sh (rList rInt)) u.2.1, .is (sh (rList (rPair rInt rInt))) u.2.2, .is rInt y561, .is (sh (rList rInt)) x560]) s rfl sc_reading_order.nd (ei_sh (ex_freeze (ex_call (E := E) (fun q559 => (q559.1, q559.2.1)) c_fresh_runs (hr.mono (by decide)) rfl g_fresh_runs k_fresh_runs b_fresh_runs (by exact passes_call (takes_of rfl rfl rfl rfl) fun _ _ _ _ h => h) (ea_cons (eo_t (ex_var 1 cp_sh fun _ => rfl)) (ea_cons (eo_t (ex_var 2 cp_sh fun _ => rfl)) ea_nil)) (fun _ => rfl) (.inr fun _ _ => (.cp cp_sh (.tc cp_sh) (.cp cp_sh (.tc cp_sh) .nil))) (hWE hW) (wio hio fun _ => (.un (.un (.un (.eq (.eq .nil)))))))) cp_sh) (fun _ => trivial) bk_reading_order_0 (fun _ => (.cons rfl (.cons rfl .nil))) (by exact fun _ h => List.mem_append_left [3] h) (by exact fun _ h => h) (by exact fun _ h => List.mem_append_right [4] h) (fun _ x560 => (.eq (.eq (.eq (.eq (.un .nil)))))) (fun _ _ _ _ _ _ => (eg_name (i := 4) rfl sc_reading_order.nd)) (fun _ _ _ _ _ x560 => ets_nil) (fun _ _ _ _ _ x560 => (ei_sh (ex_var 4 cp_sh fun _ => rfl) cp_int)) (fun _ _ => trivial) (fun _ x560 => (.cons rfl .nil)) (fun _ x560 y561 => (.eq (.eq (.eq (.un (.eq .nil)))))) (fun _ _ _ _ _ _ x560 => (eg_name (i := 3) rfl sc_reading_order.nd)) (fun _ _ _ _ _ x560 y561 => ets_nil) (fun _ _ _ _ _ x560 y561 => (ex_var 3 cp_int fun _ => rfl)) inferInstance inferInstance inferInstance) (wio hio fun _ => (.un (.un (.un (.eq (.eq .nil))))))))))))⟩
theorem sc__law_td_sack : FnScope ["_law_script", "_law_rank", "_law_cell"] ["_law_script", "_law_rank"] (defScope (Hd.tp 33)) := ⟨rfl, rfl, rfl, by decide +kernel, rfl, by decide +kernel, by decide +kernel⟩
theorem ok__law_td_sack (f_abs : mg "abs" = none) (f_int : mg "int" = none) (f_len : mg "len" = none) (f_max : mg "max" = none) (FD : FunD K "_law_td_sack" "_law_td_sack" (defArgs (Hd.tp 33)) (defBody (Hd.tp 33)) (defScope (Hd.tp 33)) [] [] (ga K "_law_td_sack") fd) : FnOk P w K mg base (L2.CX P w) 1 (ga K "_law_td_sack") fd ["_law_script", "_law_rank"] (SpP K 2 (fun u : ((List Int) × Int) => [.is rScr u.1, .is rInt u.2]) (rList rInt) m__law_td_sack) :=
  fn_pure (k := 0) FD sc__law_td_sack o__law_td_sack (fun _ => rfl) fun u cdv A outer s H E hr F hio hW => ⟨_, (bx_nf (fun s => [.is rScr u.1, .is rInt u.2, .un]) (fun _ => rfl) (bx_asg 2 sc__law_td_sack.nd (ex_if (et_cmp op_lt (vo_B0 fun i j => decide (i < j)) (fun _ _ => stl_ret _) (ex_var 1 cp_int fun _ => rfl) (ex_lenScr (eo_t (ex_var 0 cp_scr fun _ => rfl)) (fun _ _ => .t) rfl f_len) rfl) (ex_ixScr (eo_t (ex_var 0 cp_scr fun _ => rfl)) (ex_var 1 cp_int fun _ => rfl) fun _ _ => .t) ex_int) (fun v_law_cell563 => (bx_nf (fun s => [.is rScr u.1, .is rInt u.2, .is rInt v_law_cell563]) (fun _ => rfl) (bx_ret (ex_lst (r := rInt) (el_cons (ex_max2 ex_int (ex_bin op_sub (vo_I0 fun i j => i - j) (fun _ _ => stl_ret _) (ex_abs (ex_var 2 cp_int fun _ => rfl) rfl f_abs) (ex_bin op_powV vo_pow stl_pow ex_int ex_int)) rfl f_max) (el_cons (ex_bin op_modN vo_mod stl_mod (ex_intI (ex_bin op_add (vo_I0 fun i j => i + j) (fun _ _ => stl_ret _) (ex_bin op_add (vo_I0 fun i j => i + j) (fun _ _ => stl_ret _) (ex_bin op_mul vo_mul stl_mul (ex_var 2 cp_int fun _ => rfl) ex_int) (ex_bin op_mul vo_mul stl_mul (ex_var 1 cp_int fun _ => rfl) ex_int)) ex_int) rfl f_int) (ex_bin op_add (vo_I0 fun i j => i + j) (fun _ _ => stl_ret _) (ex_bin op_powV vo_pow stl_pow ex_int ex_int) ex_int)) (el_cons ex_int el_nil)))) (wio hio fun _ => (.un (.un (.un .nil))))))) inferInstance (fun _ => rfl)))⟩
theorem sc__law_td_pick : FnScope ["_law_sack", "_law_many", "_law_drawn", "_law_stirred"] ["_law_sack", "_law_many"] (defScope (Hd.tp 34)) := ⟨rfl, rfl, rfl, by decide +kernel, rfl, by decide +kernel, by decide +kernel⟩
theorem ok__law_td_pick (f_int : mg "int" = none) (FD : FunD K "_law_td_pick" "_law_td_pick" (defArgs (Hd.tp 34)) (defBody (Hd.tp 34)) (defScope (Hd.tp 34)) [] [] (ga K "_law_td_pick") fd) : FnOk P w K mg base (L2.CX P w) 1 (ga K "_law_td_pick") fd ["_law_sack", "_law_many"] (SpI K 2 (rList rInt) (fun u : Int => [.is rInt u]) rInt m__law_td_pick) :=
  fn_io (k := 0) FD sc__law_td_pick o__law_td_pick (fun _ => rfl) fun u v0 cdv A outer s H E hr F hio hW => ⟨_, (bx_nf (fun s => [.pn v0 (rList rInt) s, .is rInt u, .un, .un]) (fun _ => rfl) (bx_ifr (GE_ := fun e _ => e.elim) (et_cmp op_gt (vo_B0 fun i j => decide (j < i)) (fun _ _ => stl_ret _) (ex_stix 0 ex_int cp_int (fun _ => rfl) (fun _ => rfl)) ex_int rfl) (bx_nf (fun s => [.pn v0 (rList rInt) s, .is rInt u, .un, .un]) (fun _ => rfl) (bx_asg 2 sc__law_td_pick.nd (ex_bin op_modN vo_mod stl_mod (ex_intI (ex_stix 0 ex_int cp_int (fun _ => rfl) (fun _ => rfl)) rfl f_int) (ex_var 1 cp_int fun _ => rfl)) (fun v_law_drawn640 => (bx_nf (fun s => [.pn v0 (rList rInt) s, .is rInt u, .is rInt v_law_drawn640, .un]) (fun _ => rfl) (bx_stset 0 cp_int (ex_bin op_fdivW vo_divW stl_divW (ex_stix 0 ex_int cp_int (fun _ => rfl) (fun _ => rfl)) (ex_var 1 cp_int fun _ => rfl)) ex_int (fun _ => rfl) (fun _ => rfl) (fun _ _ => rfl) (bx_nf (fun s => [.pn v0 (rList rInt) s, .is rInt u, .is rInt v_law_drawn640, .un]) (fun _ => rfl) (bx_ret (ex_var 2 cp_int fun _ => rfl) (wios hio fun _ => (.eq (.un (.un (.eq .nil)))))))))) inferInstance (fun _ => rfl))) (bx_nf (fun s => [.pn v0 (rList rInt) s, .is rInt u, .un, .un]) (fun _ => rfl) (bx_stset 0 cp_int (ex_bin op_add (vo_I0 fun i j => i + j) (fun _ _ => stl_ret _) (ex_stix 0 ex_int cp_int (fun _ => rfl) (fun _ => rfl)) ex_int) ex_int (fun _ => rfl) (fun _ => rfl) (fun _ _ => rfl) (bx_nf (fun s => [.pn v0 (rList rInt) s, .is rInt u, .un, .un]) (fun _ => rfl) (bx_asg 3 sc__law_td_pick.nd (ex_bin op_modN vo_mod stl_mod (ex_bin op_powV vo_pow stl_pow (ex_intI (ex_bin op_add (vo_I0 fun i j => i + j) (fun _ _ => stl_ret _) (ex_stix 0 ex_int cp_int (fun _ => rfl) (fun _ => rfl)) (ex_bin op_mulW vo_mulW stl_mulW ex_int (ex_stix 0 ex_int cp_int (fun _ => rfl) (fun _ => rfl)))) rfl f_int) ex_int) (ex_bin op_add (vo_I0 fun i j => i + j) (fun _ _ => stl_ret _) (ex_bin op_powV vo_pow stl_pow ex_int ex_int) ex_int)) (fun v_law_stirred662 => (bx_nf (fun s => [.pn v0 (rList rInt) s, .is rInt u, .un, .is rInt v_law_stirred662]) (fun _ => rfl) (bx_asg 3 sc__law_td_pick.nd (ex_bin op_modN vo_mod stl_mod (ex_bin op_powV vo_pow stl_pow (ex_intI (ex_bin op_add (vo_I0 fun i j => i + j) (fun _ _ => stl_ret _) (ex_var 3 cp_int fun _ => rfl) (ex_bin op_mulW vo_mulW stl_mulW ex_int (ex_stix 0 ex_int cp_int (fun _ => rfl) (fun _ => rfl)))) rfl f_int) ex_int) (ex_bin op_add (vo_I0 fun i j => i + j) (fun _ _ => stl_ret _) (ex_bin op_powV vo_pow stl_pow ex_int ex_int) ex_int)) (fun v_law_stirred711 => (bx_nf (fun s => [.pn v0 (rList rInt) s, .is rInt u, .un, .is rInt v_law_stirred711]) (fun _ => rfl) (bx_ret (ex_bin op_modN vo_mod stl_mod (ex_intI (ex_bin op_fdivW vo_divW stl_divW (ex_var 3 cp_int fun _ => rfl) ex_int) rfl f_int) (ex_var 1 cp_int fun _ => rfl)) (wios hio fun _ => (.eq (.un (.eq (.un .nil)))))))) inferInstance (fun _ => rfl)))) inferInstance (fun _ => rfl)))))))⟩
theorem sc__law_td_ratio : FnScope ["_law_above", "_law_below", "_law_one", "_law_other", "_law_sign", "_law_turn"] ["_law_above", "_law_below"] (defScope (Hd.tp 35)) := ⟨rfl, rfl, rfl, by decide +kernel, rfl, by decide +kernel, by decide +kernel⟩
theorem ok__law_td_ratio (f_abs : mg "abs" = none) (f_int : mg "int" = none) (f_range : mg "range" = none) (FD : FunD K "_law_td_ratio" "_law_td_ratio" (defArgs (Hd.tp 35)) (defBody (Hd.tp 35)) (defScope (Hd.tp 35)) [] [] (ga K "_law_td_ratio") fd) : FnOk P w K mg base (L2.CX P w) 1 (ga K "_law_td_ratio") fd ["_law_above", "_law_below"] (SpP K 2 (fun u : (Int × Int) => [.is rInt u.1, .is rInt u.2]) (rPair rInt rInt) m__law_td_ratio) :=
  fn_pure (k := 0) FD sc__law_td_ratio o__law_td_ratio (fun _ => rfl) fun u cdv A outer s H E hr F hio hW => ⟨_, (bx_nf (fun s => [.is rInt u.1, .is rInt u.2, .un, .un, .un, .un]) (fun _ => rfl) (bx_par 2 3 sc__law_td_ratio.nd rfl (by decide) (ex_abs (ex_var 0 cp_int fun _ => rfl) rfl f_abs) (ex_abs (ex_var 1 cp_int fun _ => rfl) rfl f_abs) (fun v_law_one767 v_law_other768 => (bx_nf (fun s => [.is rInt u.1, .is rInt u.2, .is rInt v_law_one767, .is rInt v_law_other768, .un, .un]) (fun _ => rfl) (bx_for (Gt := fun (l769 : (Int × Int)) s (x772 : Int) => [.is rInt u.1, .is rInt u.2, .is rInt l769.1, .is rInt l769.2, .un, .is rInt x772]) (passes_of rfl) rfl (fun (l769 : (Int × Int)) s => [.is rInt u.1, .is rInt u.2, .is rInt l769.1, .is rInt l769.2, .un, .un]) (v_law_one767, v_law_other768) (ei_rng1 ex_int rfl f_range) (fun _ => (.eq (.eq (.eq (.eq (.eq (.eq .nil))))))) (fun _ _ => trivial) (fun l769 _ => (eg_name (i := 5) rfl sc__law_td_ratio.nd)) (fun l769 x772 => (bx_nf (fun s => [.is rInt u.1, .is rInt u.2, .is rInt l769.1, .is rInt l769.2, .un, .is rInt x772]) (fun _ => rfl) (bx_ifr (GE_ := fun e _ => e.elim) (et_cmp op_eq vo_eqI (fun _ _ => stl_ret _) (ex_var 3 cp_int fun _ => rfl) ex_int rfl) (bx_nf (fun s => [.is rInt u.1, .is rInt u.2, .is rInt l769.1, .is rInt l769.2, .un, .is rInt x772]) (fun _ => rfl) (bx_brk (l769.1, l769.2) fun _ => (.eq (.eq (.eq (.eq (.eq (.un .nil)))))))) (bx_nf (fun s => [.is rInt u.1, .is rInt u.2, .is rInt l769.1, .is rInt l769.2, .un, .is rInt x772]) (fun _ => rfl) (bx_par 2 3 sc__law_td_ratio.nd rfl (by decide) (ex_var 3 cp_int fun _ => rfl) (ex_bin op_modN vo_mod stl_mod (ex_intI (ex_var 2 cp_int fun _ => rfl) rfl f_int) (ex_intI (ex_var 3 cp_int fun _ => rfl) rfl f_int)) (fun v_law_one784 v_law_other785 => (bx_end (v_law_one784, v_law_other785) fun _ => (.eq (.eq (.eq (.eq (.eq (.un .nil)))))))) inferInstance inferInstance (fun _ => rfl) (fun _ => rfl)))))) (fun l769 => (bx_nf (fun s => [.is rInt u.1, .is rInt u.2, .is rInt l769.1, .is rInt l769.2, .un, .un]) (fun _ => rfl) (bx_asg 4 sc__law_td_ratio.nd (ex_if (et_cmp op_gt (vo_B0 fun i j => decide (j < i)) (fun _ _ => stl_ret _) (ex_var 1 cp_int fun _ => rfl) ex_int rfl) ex_int (ex_neg ex_int)) (fun v_law_sign786 => (bx_nf (fun s => [.is rInt u.1, .is rInt u.2, .is rInt l769.1, .is rInt l769.2, .is rInt v_law_sign786, .un]) (fun _ => rfl) (bx_ret (ex_tup2 (ex_bin op_fdivN vo_div stl_div (ex_bin op_mul vo_mul stl_mul (ex_var 4 cp_int fun _ => rfl) (ex_var 0 cp_int fun _ => rfl)) (ex_var 2 cp_int fun _ => rfl)) (ex_bin op_fdivN vo_div stl_div (ex_bin op_mul vo_mul stl_mul (ex_var 4 cp_int fun _ => rfl) (ex_var 1 cp_int fun _ => rfl)) (ex_var 2 cp_int fun _ => rfl))) (wio hio fun _ => (.un (.un (.un (.un (.un (.eq .nil)))))))))) inferInstance (fun _ => rfl)))) inferInstance inferInstance))) inferInstance inferInstance (fun _ => rfl) (fun _ => rfl)))⟩
theorem sc__law_td_comes : FnScope ["_law_form", "_law_price"] ["_law_form", "_law_price"] (defScope (Hd.tp 36)) := ⟨rfl, rfl, rfl, by decide +kernel, rfl, by decide +kernel, by decide +kernel⟩
theorem ok__law_td_comes  {d__law_td_ratio : FuncData} (c__law_td_ratio : FnOk P w K mg base (L2.CX P w) 1 (ga K "_law_td_ratio") d__law_td_ratio ["_law_above", "_law_below"] (SpP K 2 (fun u : (Int × Int) => [.is rInt u.1, .is rInt u.2]) (rPair rInt rInt) m__law_td_ratio)) (g__law_td_ratio : mg "_law_td_ratio" = some (.ref (ga K "_law_td_ratio"))) (k__law_td_ratio : PySem.W.keepIn K (.ref (ga K "_law_td_ratio")) = true) (b__law_td_ratio : Binds K d__law_td_ratio ["_law_above", "_law_below"] []) (FD : FunD K "_law_td_comes" "_law_td_comes" (defArgs (Hd.tp 36)) (defBody (Hd.tp 36)) (defScope (Hd.tp 36)) [] [] (ga K "_law_td_comes") fd) : FnOk P w K mg base (L2.CX P w) 2 (ga K "_law_td_comes") fd ["_law_form", "_law_price"] (SpP K 2 (fun u : ((Int × Int) × (Int × Int)) => [.is (rPair rInt rInt) u.1, .is (rPair rInt rInt) u.2]) (rPair rInt rInt) m__law_td_comes) :=
  fn_pure (k := 1) FD sc__law_td_comes o__law_td_comes (fun _ => rfl) fun u cdv A outer s H E hr F hio hW => ⟨_, (bx_nf (fun s => [.is (rPair rInt rInt) u.1, .is (rPair rInt rInt) u.2]) (fun _ => rfl) (bx_ret (ex_call (E := E) (fun q828 => (q828.1, q828.2.1)) c__law_td_ratio (hr.mono (by decide)) rfl g__law_td_ratio k__law_td_ratio b__law_td_ratio (by exact passes_call (takes_of rfl rfl rfl rfl) fun _ _ _ _ h => h) (ea_cons (eo_t (ex_bin op_add (vo_I0 fun i j => i + j) (fun _ _ => stl_ret _) (ex_bin op_mul vo_mul stl_mul (ex_plc (eo_t (ex_var 0 (cp_pair cp_int cp_int) fun _ => rfl)) plc2_0 cp_int fun _ _ => .t) (ex_plc (eo_t (ex_var 1 (cp_pair cp_int cp_int) fun _ => rfl)) plc2_1 cp_int fun _ _ => .t)) (ex_bin op_mul vo_mul stl_mul (ex_plc (eo_t (ex_var 0 (cp_pair cp_int cp_int) fun _ => rfl)) plc2_1 cp_int fun _ _ => .t) (ex_plc (eo_t (ex_var 1 (cp_pair cp_int cp_int) fun _ => rfl)) plc2_0 cp_int fun _ _ => .t)))) (ea_cons (eo_t (ex_plc (eo_t (ex_var 1 (cp_pair cp_int cp_int) fun _ => rfl)) plc2_1 cp_int fun _ _ => .t)) ea_nil)) (fun _ => rfl) (.inl ⟨(clo_pair clo_int clo_int), fun _ _ => (.cp cp_int .t (.cp cp_int .t .nil))⟩) (hWE hW) (wio hio fun _ => (.un (.un .nil)))) (wio hio fun _ => (.un (.un .nil)))))⟩
theorem sc__law_td_price : FnScope ["_law_sack", "_law_above"] ["_law_sack"] (defScope (Hd.tp 37)) := ⟨rfl, rfl, rfl, by decide +kernel, rfl, by decide +kernel, by decide +kernel⟩
theorem ok__law_td_price  {d__law_td_pick : FuncData} (c__law_td_pick : FnOk P w K mg base (L2.CX P w) 1 (ga K "_law_td_pick") d__law_td_pick ["_law_sack", "_law_many"] (SpI K 2 (rList rInt) (fun u : Int => [.is rInt u]) rInt m__law_td_pick)) (g__law_td_pick : mg "_law_td_pick" = some (.ref (ga K "_law_td_pick"))) (k__law_td_pick : PySem.W.keepIn K (.ref (ga K "_law_td_pick")) = true) (b__law_td_pick : Binds K d__law_td_pick ["_law_sack", "_law_many"] []) {d__law_td_ratio : FuncData} (c__law_td_ratio : FnOk P w K mg base (L2.CX P w) 1 (ga K "_law_td_ratio") d__law_td_ratio ["_law_above", "_law_below"] (SpP K 2 (fun u : (Int × Int) => [.is rInt u.1, .is rInt u.2]) (rPair rInt rInt) m__law_td_ratio)) (g__law_td_ratio : mg "_law_td_ratio" = some (.ref (ga K "_law_td_ratio"))) (k__law_td_ratio : PySem.W.keepIn K (.ref (ga K "_law_td_ratio")) = true) (b__law_td_ratio : Binds K d__law_td_ratio ["_law_above", "_law_below"] []) (FD : FunD K "_law_td_price" "_law_td_price" (defArgs (Hd.tp 37)) (defBody (Hd.tp 37)) (defScope (Hd.tp 37)) [] [] (ga K "_law_td_price") fd) : FnOk P w K mg base (L2.CX P w) 2 (ga K "_law_td_price") fd ["_law_sack"] (SpI K 1 (rList rInt) (fun u : Unit => []) (rPair rInt rInt) m__law_td_price) :=
  fn_io (k := 1) FD sc__law_td_price o__law_td_price (fun _ => rfl) fun u v0 cdv A outer s H E hr F hio hW => ⟨_, (bx_nf (fun s => [.pn v0 (rList rInt) s, .un]) (fun _ => rfl) (bx_asg 1 sc__law_td_price.nd (ex_callIo (E := E) 0 (fun q846 => q846.2.1) c__law_td_pick (hr.mono (by decide)) rfl g__law_td_pick k__law_td_pick b__law_td_pick (by exact passes_call (takes_of rfl rfl rfl rfl) fun _ _ _ _ h => h) (clo_list clo_int) (ea_cons (eo_pn (U := Unit) (a := ()) 0 fun _ => rfl) (ea_cons (eo_t (ex_ix (eo_t (ex_lst (r := rInt) (el_cons ex_int (el_cons ex_int (el_cons ex_int el_nil))))) (ex_callIo (E := E) 0 (fun q841 => q841.2.1) c__law_td_pick (hr.mono (by decide)) rfl g__law_td_pick k__law_td_pick b__law_td_pick (by exact passes_call (takes_of rfl rfl rfl rfl) fun _ _ _ _ h => h) (clo_list clo_int) (ea_cons (eo_pn (U := Unit) (a := ()) 0 fun _ => rfl) (ea_cons (eo_t ex_int) ea_nil)) (fun _ => rfl) (fun _ => rfl) (fun _ _ => rfl) (fun _ _ => (.cp cp_int (.tc cp_int) .nil)) (hWE hW) (wios hio fun _ => (.eq (.eq .nil)))) cp_int fun _ _ => .t)) ea_nil)) (fun _ => rfl) (fun _ => rfl) (fun _ _ => rfl) (fun _ _ => (.cp cp_int (.tc cp_int) .nil)) (hWE hW) (wios hio fun _ => (.eq (.eq .nil)))) (fun v_law_above830 => (bx_nf (fun s => [.pn v0 (rList rInt) s, .is rInt v_law_above830]) (fun _ => rfl) (bx_ret (ex_call (E := E) (fun q871 => (q871.1, q871.2.1)) c__law_td_ratio (hr.mono (by decide)) rfl g__law_td_ratio k__law_td_ratio b__law_td_ratio (by exact passes_call (takes_of rfl rfl rfl rfl) fun _ _ _ _ h => h) (ea_cons (eo_t (ex_var 1 cp_int fun _ => rfl)) (ea_cons (eo_t (ex_bin op_add (vo_I0 fun i j => i + j) (fun _ _ => stl_ret _) ex_int (ex_callIo (E := E) 0 (fun q863 => q863.2.1) c__law_td_pick (hr.mono (by decide)) rfl g__law_td_pick k__law_td_pick b__law_td_pick (by exact passes_call (takes_of rfl rfl rfl rfl) fun _ _ _ _ h => h) (clo_list clo_int) (ea_cons (eo_pn (U := Unit) (a := ()) 0 fun _ => rfl) (ea_cons (eo_t (ex_ix (eo_t (ex_lst (r := rInt) (el_cons ex_int (el_cons ex_int (el_cons ex_int el_nil))))) (ex_callIo (E := E) 0 (fun q858 => q858.2.1) c__law_td_pick (hr.mono (by decide)) rfl g__law_td_pick k__law_td_pick b__law_td_pick (by exact passes_call (takes_of rfl rfl rfl rfl) fun _ _ _ _ h => h) (clo_list clo_int) (ea_cons (eo_pn (U := Unit) (a := ()) 0 fun _ => rfl) (ea_cons (eo_t ex_int) ea_nil)) (fun _ => rfl) (fun _ => rfl) (fun _ _ => rfl) (fun _ _ => (.cp cp_int (.tc cp_int) .nil)) (hWE hW) (wios hio fun _ => (.eq (.un .nil)))) cp_int fun _ _ => .t)) ea_nil)) (fun _ => rfl) (fun _ => rfl) (fun _ _ => rfl) (fun _ _ => (.cp cp_int (.tc cp_int) .nil)) (hWE hW) (wios hio fun _ => (.eq (.un .nil)))))) ea_nil)) (fun _ => rfl) (.inl ⟨(clo_pair clo_int clo_int), fun _ _ => (.cp cp_int .t (.cp cp_int .t .nil))⟩) (hWE hW) (wios hio fun _ => (.eq (.un .nil)))) (wios hio fun _ => (.eq (.un .nil)))))) inferInstance (fun _ => rfl)))⟩
theorem sc__law_td_kind_row : FnScope ["_law_mode", "_law_many", "_law_number"] ["_law_mode", "_law_many"] (defScope (Hd.tp 38)) := ⟨rfl, rfl, rfl, by decide +kernel, rfl, by decide +kernel, by decide +kernel⟩
theorem bk__law_td_kind_row_0 : BlkOk ["_law_mode", "_law_many", "_law_number"] (defScope (Hd.tp 38)) { kind := .function, names := [(".0", .local), ("_law_number", .local)], isGenerator := false, isCoroutine := false, more := [] } [("_law_number", 2)] := blkOk_by (by decide +kernel)
theorem bk__law_td_kind_row_1 : BlkOk ["_law_mode", "_law_many", "_law_number"] (defScope (Hd.tp 38)) { kind := .function, names := [(".0", .local), ("_law_number", .local), ("_law_many", .free)], isGenerator := false, isCoroutine := false, more := [] } [("_law_number", 2)] := blkOk_by (by decide +kernel)
theorem ok__law_td_kind_row (f_range : mg "range" = none) (FD : FunD K "_law_td_kind_row" "_law_td_kind_row" (defArgs (Hd.tp 38)) (defBody (Hd.tp 38)) (defScope (Hd.tp 38)) [] [] (ga K "_law_td_kind_row") fd) : FnOk P w K mg base (L2.CX P w) 1 (ga K "_law_td_kind_row") fd ["_law_mode", "_law_many"] (SpP K 2 (fun u : (Int × Int) => [.is rInt u.1, .is rInt u.2]) (rList (rPair rInt rInt)) m__law_td_kind_row) :=
  fn_pure (k := 0) FD sc__law_td_kind_row o__law_td_kind_row (fun _ => rfl) fun u cdv A outer s H E hr F hio hW => ⟨_, (bx_nf (fun s => [.is rInt u.1, .is rInt u.2, .un]) (fun _ => rfl) (bx_ifr (GE_ := fun e _ => e.elim) (et_cmp op_eq vo_eqI (fun _ _ => stl_ret _) (ex_var 0 cp_int fun _ => rfl) ex_int rfl) (bx_nf (fun s => [.is rInt u.1, .is rInt u.2, .un]) (fun _ => rfl) (bx_ret (ex_lst (r := (rPair rInt rInt)) el_nil) (wio hio fun _ => (.un (.un (.eq .nil)))))) (bx_nf (fun s => [.is rInt u.1, .is rInt u.2, .un]) (fun _ => rfl) (bx_ifr (GE_ := fun e _ => e.elim) (et_cmp op_eq vo_eqI (fun _ _ => stl_ret _) (ex_var 0 cp_int fun _ => rfl) ex_int rfl) (bx_nf (fun s => [.is rInt u.1, .is rInt u.2, .un]) (fun _ => rfl) (bx_ret (ex_lcU (Gt := fun s (x885 : Int) => [.is rInt u.1, .is rInt u.2, .is rInt x885]) s rfl sc__law_td_kind_row.nd (ei_rng3 (ex_bin op_sub (vo_I0 fun i j => i - j) (fun _ _ => stl_ret _) (ex_var 1 cp_int fun _ => rfl) ex_int) ex_int rfl f_range) (fun _ => trivial) bk__law_td_kind_row_0 (fun _ => (.cons rfl .nil)) (by exact fun _ h => h) (fun _ _ => (.eq (.eq (.un .nil)))) (fun _ _ _ _ _ _ => (eg_name (i := 2) rfl sc__law_td_kind_row.nd)) (fun _ _ _ _ _ x885 => ets_nil) (fun _ _ _ _ _ x885 => (ex_tup2 (ex_var 2 cp_int fun _ => rfl) (ex_var 2 cp_int fun _ => rfl))) inferInstance inferInstance) (wio hio fun _ => (.un (.un (.eq .nil)))))) (bx_nf (fun s => [.is rInt u.1, .is rInt u.2, .un]) (fun _ => rfl) (bx_ifr (GE_ := fun e _ => e.elim) (et_cmp op_eq vo_eqI (fun _ _ => stl_ret _) (ex_var 0 cp_int fun _ => rfl) ex_int rfl) (bx_nf (fun s => [.is rInt u.1, .is rInt u.2, .un]) (fun _ => rfl) (bx_ret (ex_if (et_cmp op_gt (vo_B0 fun i j => decide (j < i)) (fun _ _ => stl_ret _) (ex_var 1 cp_int fun _ => rfl) ex_int rfl) (ex_lst (r := (rPair rInt rInt)) (el_cons (ex_tup2 ex_int (ex_bin op_sub (vo_I0 fun i j => i - j) (fun _ _ => stl_ret _) (ex_var 1 cp_int fun _ => rfl) ex_int)) el_nil)) (ex_lst (r := (rPair rInt rInt)) el_nil)) (wio hio fun _ => (.un (.un (.eq .nil)))))) (bx_nf (fun s => [.is rInt u.1, .is rInt u.2, .un]) (fun _ => rfl) (bx_ret (ex_lcU (Gt := fun s (x908 : Int) => [.is rInt u.1, .is rInt u.2, .is rInt x908]) s rfl sc__law_td_kind_row.nd (ei_rng3 (ex_bin op_sub (vo_I0 fun i j => i - j) (fun _ _ => stl_ret _) (ex_var 1 cp_int fun _ => rfl) ex_int) ex_int rfl f_range) (fun _ => trivial) bk__law_td_kind_row_1 (fun _ => (.cons rfl .nil)) (by exact fun _ h => h) (fun _ _ => (.eq (.eq (.un .nil)))) (fun _ _ _ _ _ _ => (eg_name (i := 2) rfl sc__law_td_kind_row.nd)) (fun _ _ _ _ _ x908 => ets_nil) (fun _ _ _ _ _ x908 => (ex_tup2 (ex_var 2 cp_int fun _ => rfl) (ex_bin op_sub (vo_I0 fun i j => i - j) (fun _ _ => stl_ret _) (ex_var 1 cp_int fun _ => rfl) ex_int))) inferInstance inferInstance) (wio hio fun _ => (.un (.un (.eq .nil))))))))))))⟩
theorem sc__law_td_kind_wait : FnScope ["_law_mode", "_law_many", "_law_size", "_law_apart", "_law_front", "_law_behind", "_law_number", "_law_ahead", "_law_reach", "_law_steps"] ["_law_mode", "_law_many", "_law_size", "_law_apart", "_law_front", "_law_behind", "_law_number"] (defScope (Hd.tp 39)) := ⟨rfl, rfl, rfl, by decide +kernel, rfl, by decide +kernel, by decide +kernel⟩
theorem ok__law_td_kind_wait  (FD : FunD K "_law_td_kind_wait" "_law_td_kind_wait" (defArgs (Hd.tp 39)) (defBody (Hd.tp 39)) (defScope (Hd.tp 39)) [] [] (ga K "_law_td_kind_wait") fd) : FnOk P w K mg base (L2.CX P w) 1 (ga K "_law_td_kind_wait") fd ["_law_mode", "_law_many", "_law_size", "_law_apart", "_law_front", "_law_behind", "_law_number"] (SpP K 7 (fun u : (Int × Int × Int × Int × Int × Int × Int) => [.is rInt u.1, .is rInt u.2.1, .is rInt u.2.2.1, .is rInt u.2.2.2.1, .is rInt u.2.2.2.2.1, .is rInt u.2.2.2.2.2.1, .is rInt u.2.2.2.2.2.2]) (rPair rInt rInt) m__law_td_kind_wait) :=
  fn_pure (k := 0) FD sc__law_td_kind_wait o__law_td_kind_wait (fun _ => rfl) fun u cdv A outer s H E hr F hio hW => ⟨_, (bx_nf (fun s => [.is rInt u.1, .is rInt u.2.1, .is rInt u.2.2.1, .is rInt u.2.2.2.1, .is rInt u.2.2.2.2.1, .is rInt u.2.2.2.2.2.1, .is rInt u.2.2.2.2.2.2, .un, .un, .un]) (fun _ => rfl) (bx_par 8 7 sc__law_td_kind_wait.nd rfl (by decide) (ex_bin op_add (vo_I0 fun i j => i + j) (fun _ _ => stl_ret _) (ex_bin op_mul vo_mul stl_mul (ex_bin op_sub (vo_I0 fun i j => i - j) (fun _ _ => stl_ret _) (ex_var 1 cp_int fun _ => rfl) ex_int) (ex_var 3 cp_int fun _ => rfl)) (ex_var 2 cp_int fun _ => rfl)) (ex_bin op_sub (vo_I0 fun i j => i - j) (fun _ _ => stl_ret _) (ex_bin op_sub (vo_I0 fun i j => i - j) (fun _ _ => stl_ret _) (ex_var 1 cp_int fun _ => rfl) ex_int) (ex_var 6 cp_int fun _ => rfl)) (fun v_law_reach934 v_law_ahead935 => (bx_nf (fun s => [.is rInt u.1, .is rInt u.2.1, .is rInt u.2.2.1, .is rInt u.2.2.2.1, .is rInt u.2.2.2.2.1, .is rInt u.2.2.2.2.2.1, .is rInt u.2.2.2.2.2.2, .is rInt v_law_ahead935, .is rInt v_law_reach934, .un]) (fun _ => rfl) (bx_ifr (GE_ := fun e _ => e.elim) (et_w (ew_or (et_cmp op_eq vo_eqI (fun _ _ => stl_ret _) (ex_var 0 cp_int fun _ => rfl) ex_int rfl) (ew_or1 (et_cmp op_eq vo_eqI (fun _ _ => stl_ret _) (ex_var 1 cp_int fun _ => rfl) ex_int rfl)))) (bx_nf (fun s => [.is rInt u.1, .is rInt u.2.1, .is rInt u.2.2.1, .is rInt u.2.2.2.1, .is rInt u.2.2.2.2.1, .is rInt u.2.2.2.2.2.1, .is rInt u.2.2.2.2.2.2, .is rInt v_law_ahead935, .is rInt v_law_reach934, .un]) (fun _ => rfl) (bx_ret (ex_tup2 (ex_bin op_add (vo_I0 fun i j => i + j) (fun _ _ => stl_ret _) (ex_bin op_add (vo_I0 fun i j => i + j) (fun _ _ => stl_ret _) (ex_bin op_add (vo_I0 fun i j => i + j) (fun _ _ => stl_ret _) (ex_var 8 cp_int fun _ => rfl) (ex_var 5 cp_int fun _ => rfl)) (ex_bin op_mul vo_mul stl_mul (ex_var 6 cp_int fun _ => rfl) (ex_var 3 cp_int fun _ => rfl))) (ex_var 2 cp_int fun _ => rfl)) ex_int) (wio hio fun _ => (.un (.un (.un (.un (.un (.un (.un (.un (.un (.eq .nil))))))))))))) (bx_nf (fun s => [.is rInt u.1, .is rInt u.2.1, .is rInt u.2.2.1, .is rInt u.2.2.2.1, .is rInt u.2.2.2.2.1, .is rInt u.2.2.2.2.2.1, .is rInt u.2.2.2.2.2.2, .is rInt v_law_ahead935, .is rInt v_law_reach934, .un]) (fun _ => rfl) (bx_ifr (GE_ := fun e _ => e.elim) (et_cmp op_eq vo_eqI (fun _ _ => stl_ret _) (ex_var 0 cp_int fun _ => rfl) ex_int rfl) (bx_nf (fun s => [.is rInt u.1, .is rInt u.2.1, .is rInt u.2.2.1, .is rInt u.2.2.2.1, .is rInt u.2.2.2.2.1, .is rInt u.2.2.2.2.2.1, .is rInt u.2.2.2.2.2.2, .is rInt v_law_ahead935, .is rInt v_law_reach934, .un]) (fun _ => rfl) (bx_ret (ex_tup2 (ex_bin op_add (vo_I0 fun i j => i + j) (fun _ _ => stl_ret _) (ex_bin op_add (vo_I0 fun i j => i + j) (fun _ _ => stl_ret _) (ex_var 5 cp_int fun _ => rfl) (ex_bin op_mul vo_mul stl_mul ex_int (ex_var 2 cp_int fun _ => rfl))) (ex_bin op_mul vo_mul stl_mul (ex_var 7 cp_int fun _ => rfl) (ex_bin op_add (vo_I0 fun i j => i + j) (fun _ _ => stl_ret _) (ex_bin op_mul vo_mul stl_mul ex_int (ex_var 2 cp_int fun _ => rfl)) (ex_var 3 cp_int fun _ => rfl)))) (ex_bin op_add (vo_I0 fun i j => i + j) (fun _ _ => stl_ret _) (ex_bin op_mul vo_mul stl_mul ex_int (ex_var 7 cp_int fun _ => rfl)) ex_int)) (wio hio fun _ => (.un (.un (.un (.un (.un (.un (.un (.un (.un (.eq .nil))))))))))))) (bx_nf (fun s => [.is rInt u.1, .is rInt u.2.1, .is rInt u.2.2.1, .is rInt u.2.2.2.1, .is rInt u.2.2.2.2.1, .is rInt u.2.2.2.2.2.1, .is rInt u.2.2.2.2.2.2, .is rInt v_law_ahead935, .is rInt v_law_reach934, .un]) (fun _ => rfl) (bx_ifr (GE_ := fun e _ => e.elim) (et_cmp op_eq vo_eqI (fun _ _ => stl_ret _) (ex_var 0 cp_int fun _ => rfl) ex_int rfl) (bx_nf (fun s => [.is rInt u.1, .is rInt u.2.1, .is rInt u.2.2.1, .is rInt u.2.2.2.1, .is rInt u.2.2.2.2.1, .is rInt u.2.2.2.2.2.1, .is rInt u.2.2.2.2.2.2, .is rInt v_law_ahead935, .is rInt v_law_reach934, .un]) (fun _ => rfl) (bx_ifr (GE_ := fun e _ => e.elim) (et_cmp op_eq vo_eqI (fun _ _ => stl_ret _) (ex_var 6 cp_int fun _ => rfl) ex_int rfl) (bx_nf (fun s => [.is rInt u.1, .is rInt u.2.1, .is rInt u.2.2.1, .is rInt u.2.2.2.1, .is rInt u.2.2.2.2.1, .is rInt u.2.2.2.2.2.1, .is rInt u.2.2.2.2.2.2, .is rInt v_law_ahead935, .is rInt v_law_reach934, .un]) (fun _ => rfl) (bx_ret (ex_tup2 (ex_bin op_add (vo_I0 fun i j => i + j) (fun _ _ => stl_ret _) (ex_bin op_sub (vo_I0 fun i j => i - j) (fun _ _ => stl_ret _) (ex_bin op_add (vo_I0 fun i j => i + j) (fun _ _ => stl_ret _) (ex_var 5 cp_int fun _ => rfl) (ex_bin op_mul vo_mul stl_mul ex_int (ex_var 8 cp_int fun _ => rfl))) (ex_bin op_mul vo_mul stl_mul ex_int (ex_var 3 cp_int fun _ => rfl))) (ex_var 2 cp_int fun _ => rfl)) ex_int) (wio hio fun _ => (.un (.un (.un (.un (.un (.un (.un (.un (.un (.eq .nil))))))))))))) (bx_nf (fun s => [.is rInt u.1, .is rInt u.2.1, .is rInt u.2.2.1, .is rInt u.2.2.2.1, .is rInt u.2.2.2.2.1, .is rInt u.2.2.2.2.2.1, .is rInt u.2.2.2.2.2.2, .is rInt v_law_ahead935, .is rInt v_law_reach934, .un]) (fun _ => rfl) (bx_ret (ex_tup2 (ex_bin op_add (vo_I0 fun i j => i + j) (fun _ _ => stl_ret _) (ex_bin op_add (vo_I0 fun i j => i + j) (fun _ _ => stl_ret _) (ex_bin op_sub (vo_I0 fun i j => i - j) (fun _ _ => stl_ret _) (ex_bin op_add (vo_I0 fun i j => i + j) (fun _ _ => stl_ret _) (ex_var 5 cp_int fun _ => rfl) (ex_var 8 cp_int fun _ => rfl)) (ex_var 3 cp_int fun _ => rfl)) (ex_bin op_mul vo_mul stl_mul (ex_bin op_sub (vo_I0 fun i j => i - j) (fun _ _ => stl_ret _) (ex_var 6 cp_int fun _ => rfl) ex_int) (ex_var 3 cp_int fun _ => rfl))) (ex_var 2 cp_int fun _ => rfl)) ex_int) (wio hio fun _ => (.un (.un (.un (.un (.un (.un (.un (.un (.un (.eq .nil))))))))))))))) (bx_nf (fun s => [.is rInt u.1, .is rInt u.2.1, .is rInt u.2.2.1, .is rInt u.2.2.2.1, .is rInt u.2.2.2.2.1, .is rInt u.2.2.2.2.2.1, .is rInt u.2.2.2.2.2.2, .is rInt v_law_ahead935, .is rInt v_law_reach934, .un]) (fun _ => rfl) (bx_asg 9 sc__law_td_kind_wait.nd (ex_bin op_add (vo_I0 fun i j => i + j) (fun _ _ => stl_ret _) (ex_bin op_add (vo_I0 fun i j => i + j) (fun _ _ => stl_ret _) (ex_bin op_add (vo_I0 fun i j => i + j) (fun _ _ => stl_ret _) (ex_var 5 cp_int fun _ => rfl) (ex_bin op_mul vo_mul stl_mul ex_int (ex_var 2 cp_int fun _ => rfl))) (ex_bin op_mul vo_mul stl_mul (ex_bin op_mul vo_mul stl_mul ex_int (ex_var 2 cp_int fun _ => rfl)) (ex_var 7 cp_int fun _ => rfl))) (ex_bin op_mul vo_mul stl_mul (ex_bin op_mul vo_mul stl_mul (ex_var 3 cp_int fun _ => rfl) (ex_var 7 cp_int fun _ => rfl)) (ex_var 7 cp_int fun _ => rfl))) (fun v_law_steps1073 => (bx_nf (fun s => [.is rInt u.1, .is rInt u.2.1, .is rInt u.2.2.1, .is rInt u.2.2.2.1, .is rInt u.2.2.2.2.1, .is rInt u.2.2.2.2.2.1, .is rInt u.2.2.2.2.2.2, .is rInt v_law_ahead935, .is rInt v_law_reach934, .is rInt v_law_steps1073]) (fun _ => rfl) (bx_ret (ex_tup2 (ex_var 9 cp_int fun _ => rfl) (ex_bin op_add (vo_I0 fun i j => i + j) (fun _ _ => stl_ret _) (ex_bin op_mul vo_mul stl_mul ex_int (ex_var 7 cp_int fun _ => rfl)) ex_int)) (wio hio fun _ => (.un (.un (.un (.un (.un (.un (.un (.un (.un (.un .nil)))))))))))))) inferInstance (fun _ => rfl)))))))))) inferInstance inferInstance (fun _ => rfl) (fun _ => rfl)))⟩
theorem sc__law_td_right : FnScope ["_law_sack", "_law_apart", "_law_begin", "_law_begins", "_law_behind", "_law_bends", "_law_count", "_law_counts", "_law_front", "_law_gap", "_law_last", "_law_made", "_law_many", "_law_mode", "_law_number", "_law_order", "_law_owed", "_law_price", "_law_size", "_law_stops", "_law_told", "_law_wait"] ["_law_sack"] (defScope (Hd.tp 40)) := ⟨rfl, rfl, rfl, by decide +kernel, rfl, by decide +kernel, by decide +kernel⟩
theorem bk__law_td_right_0 : BlkOk ["_law_sack", "_law_apart", "_law_begin", "_law_begins", "_law_behind", "_law_bends", "_law_count", "_law_counts", "_law_front", "_law_gap", "_law_last", "_law_made", "_law_many", "_law_mode", "_law_number", "_law_order", "_law_owed", "_law_price", "_law_size", "_law_stops", "_law_told", "_law_wait"] (defScope (Hd.tp 40)) { kind := .function, names := [(".0", .local), ("_law_number", .local), ("_law_apart", .free), ("_law_front", .free)], isGenerator := false, isCoroutine := false, more := [] } [("_law_number", 14)] := blkOk_by (by decide +kernel)
theorem bk__law_td_right_1 : BlkOk ["_law_sack", "_law_apart", "_law_begin", "_law_begins", "_law_behind", "_law_bends", "_law_count", "_law_counts", "_law_front", "_law_gap", "_law_last", "_law_made", "_law_many", "_law_mode", "_law_number", "_law_order", "_law_owed", "_law_price", "_law_size", "_law_stops", "_law_told", "_law_wait"] (defScope (Hd.tp 40)) { kind := .function, names := [(".0", .local), ("_law_begin", .local), ("_law_size", .free)], isGenerator := false, isCoroutine := false, more := [] } [("_law_begin", 2)] := blkOk_by (by decide +kernel)
theorem bk__law_td_right_2 : BlkOk ["_law_sack", "_law_apart", "_law_begin", "_law_begins", "_law_behind", "_law_bends", "_law_count", "_law_counts", "_law_front", "_law_gap", "_law_last", "_law_made", "_law_many", "_law_mode", "_law_number", "_law_order", "_law_owed", "_law_price", "_law_size", "_law_stops", "_law_told", "_law_wait"] (defScope (Hd.tp 40)) { kind := .function, names := [(".0", .local), ("_law_begin", .local), ("_law_count", .free)], isGenerator := false, isCoroutine := false, more := [] } [("_law_begin", 2)] := blkOk_by (by decide +kernel)
theorem bk__law_td_right_3 : BlkOk ["_law_sack", "_law_apart", "_law_begin", "_law_begins", "_law_behind", "_law_bends", "_law_count", "_law_counts", "_law_front", "_law_gap", "_law_last", "_law_made", "_law_many", "_law_mode", "_law_number", "_law_order", "_law_owed", "_law_price", "_law_size", "_law_stops", "_law_told", "_law_wait"] (defScope (Hd.tp 40)) { kind := .function, names := [(".0", .local), ("_law_number", .local), ("_law_td_kind_wait", .globalImplicit), ("_law_apart", .free), ("_law_behind", .free), ("_law_front", .free), ("_law_many", .free), ("_law_mode", .free), ("_law_size", .free)], isGenerator := false, isCoroutine := false, more := [] } [("_law_number", 14)] := blkOk_by (by decide +kernel)
theorem bk__law_td_right_4 : BlkOk ["_law_sack", "_law_apart", "_law_begin", "_law_begins", "_law_behind", "_law_bends", "_law_count", "_law_counts", "_law_front", "_law_gap", "_law_last", "_law_made", "_law_many", "_law_mode", "_law_number", "_law_order", "_law_owed", "_law_price", "_law_size", "_law_stops", "_law_told", "_law_wait"] (defScope (Hd.tp 40)) { kind := .function, names := [(".0", .local), ("_law_wait", .local)], isGenerator := false, isCoroutine := false, more := [] } [("_law_wait", 21)] := blkOk_by (by decide +kernel)
theorem bk__law_td_right_5 : BlkOk ["_law_sack", "_law_apart", "_law_begin", "_law_begins", "_law_behind", "_law_bends", "_law_count", "_law_counts", "_law_front", "_law_gap", "_law_last", "_law_made", "_law_many", "_law_mode", "_law_number", "_law_order", "_law_owed", "_law_price", "_law_size", "_law_stops", "_law_told", "_law_wait"] (defScope (Hd.tp 40)) { kind := .function, names := [(".0", .local), ("_law_wait", .local)], isGenerator := false, isCoroutine := false, more := [] } [("_law_wait", 21)] := blkOk_by (by decide +kernel)
theorem ok__law_td_right (f_len : mg "len" = none) (f_list : mg "list" = none) (f_range : mg "range" = none) (f_repr : mg "repr" = none) (f_sum : mg "sum" = none) (t_mk : Mk K (tapeC K) (He.ma K (tapeC K) "__init__")) (g_Tape : mg "Tape" = some (.ref (tapeC K))) {d_Tape_DinitD : FuncData} (c_Tape_DinitD : FnOk P w K mg base (L2.CX P w) 1 (He.ma K (tapeC K) "__init__") d_Tape_DinitD ["self", "length", "files"] (SpI K 3 rSelf (fun u : (Int × (List (Int × Int))) => [.is rInt u.1, .is (sh (rList (rPair rInt rInt))) u.2]) rNon m_Tape_DinitD)) (b_Tape_DinitD : Binds K d_Tape_DinitD ["self", "length", "files"] []) {d__law_td_comes : FuncData} (c__law_td_comes : FnOk P w K mg base (L2.CX P w) 2 (ga K "_law_td_comes") d__law_td_comes ["_law_form", "_law_price"] (SpP K 2 (fun u : ((Int × Int) × (Int × Int)) => [.is (rPair rInt rInt) u.1, .is (rPair rInt rInt) u.2]) (rPair rInt rInt) m__law_td_comes)) (g__law_td_comes : mg "_law_td_comes" = some (.ref (ga K "_law_td_comes"))) (k__law_td_comes : PySem.W.keepIn K (.ref (ga K "_law_td_comes")) = true) (b__law_td_comes : Binds K d__law_td_comes ["_law_form", "_law_price"] []) {d__law_td_kind_row : FuncData} (c__law_td_kind_row : FnOk P w K mg base (L2.CX P w) 1 (ga K "_law_td_kind_row") d__law_td_kind_row ["_law_mode", "_law_many"] (SpP K 2 (fun u : (Int × Int) => [.is rInt u.1, .is rInt u.2]) (rList (rPair rInt rInt)) m__law_td_kind_row)) (g__law_td_kind_row : mg "_law_td_kind_row" = some (.ref (ga K "_law_td_kind_row"))) (k__law_td_kind_row : PySem.W.keepIn K (.ref (ga K "_law_td_kind_row")) = true) (b__law_td_kind_row : Binds K d__law_td_kind_row ["_law_mode", "_law_many"] []) {d__law_td_kind_wait : FuncData} (c__law_td_kind_wait : FnOk P w K mg base (L2.CX P w) 1 (ga K "_law_td_kind_wait") d__law_td_kind_wait ["_law_mode", "_law_many", "_law_size", "_law_apart", "_law_front", "_law_behind", "_law_number"] (SpP K 7 (fun u : (Int × Int × Int × Int × Int × Int × Int) => [.is rInt u.1, .is rInt u.2.1, .is rInt u.2.2.1, .is rInt u.2.2.2.1, .is rInt u.2.2.2.2.1, .is rInt u.2.2.2.2.2.1, .is rInt u.2.2.2.2.2.2]) (rPair rInt rInt) m__law_td_kind_wait)) (g__law_td_kind_wait : mg "_law_td_kind_wait" = some (.ref (ga K "_law_td_kind_wait"))) (k__law_td_kind_wait : PySem.W.keepIn K (.ref (ga K "_law_td_kind_wait")) = true) (b__law_td_kind_wait : Binds K d__law_td_kind_wait ["_law_mode", "_law_many", "_law_size", "_law_apart", "_law_front", "_law_behind", "_law_number"] []) {d__law_td_pick : FuncData} (c__law_td_pick : FnOk P w K mg base (L2.CX P w) 1 (ga K "_law_td_pick") d__law_td_pick ["_law_sack", "_law_many"] (SpI K 2 (rList rInt) (fun u : Int => [.is rInt u]) rInt m__law_td_pick)) (g__law_td_pick : mg "_law_td_pick" = some (.ref (ga K "_law_td_pick"))) (k__law_td_pick : PySem.W.keepIn K (.ref (ga K "_law_td_pick")) = true) (b__law_td_pick : Binds K d__law_td_pick ["_law_sack", "_law_many"] []) {d__law_td_price : FuncData} (c__law_td_price : FnOk P w K mg base (L2.CX P w) 2 (ga K "_law_td_price") d__law_td_price ["_law_sack"] (SpI K 1 (rList rInt) (fun u : Unit => []) (rPair rInt rInt) m__law_td_price)) (g__law_td_price : mg "_law_td_price" = some (.ref (ga K "_law_td_price"))) (k__law_td_price : PySem.W.keepIn K (.ref (ga K "_law_td_price")) = true) (b__law_td_price : Binds K d__law_td_price ["_law_sack"] []) {d_longest : FuncData} (c_longest : FnOk P w K mg base (L2.CX P w) 6 (ga K "longest") d_longest ["tape", "asks", "row", "cost"] (SpP K 4 (fun u : ((Int × List (Int × Int)) × (List Int) × (List (Int × Int)) × (Int × Int)) => [.is (sh rTape) u.1, .is (sh (rList rInt)) u.2.1, .is (sh (rList (rPair rInt rInt))) u.2.2.1, .is (rPair rInt rInt) u.2.2.2]) (rPair rInt rInt) m_longest)) (g_longest : mg "longest" = some (.ref (ga K "longest"))) (k_longest : PySem.W.keepIn K (.ref (ga K "longest")) = true) (b_longest : Binds K d_longest ["tape", "asks", "row", "cost"] []) {d_reading_order : FuncData} (c_reading_order : FnOk P w K mg base (L2.CX P w) 4 (ga K "reading_order") d_reading_order ["tape", "asks", "row"] (SpP K 3 (fun u : ((Int × List (Int × Int)) × (List Int) × (List (Int × Int))) => [.is (sh rTape) u.1, .is (sh (rList rInt)) u.2.1, .is (sh (rList (rPair rInt rInt))) u.2.2]) (rList rInt) m_reading_order)) (g_reading_order : mg "reading_order" = some (.ref (ga K "reading_order"))) (k_reading_order : PySem.W.keepIn K (.ref (ga K "reading_order")) = true) (b_reading_order : Binds K d_reading_order ["tape", "asks", "row"] []) {d_total : FuncData} (c_total : FnOk P w K mg base (L2.CX P w) 6 (ga K "total") d_total ["tape", "asks", "row"] (SpP K 3 (fun u : ((Int × List (Int × Int)) × (List Int) × (List (Int × Int))) => [.is (sh rTape) u.1, .is (sh (rList rInt)) u.2.1, .is (sh (rList (rPair rInt rInt))) u.2.2]) (rPair rInt rInt) m_total)) (g_total : mg "total" = some (.ref (ga K "total"))) (k_total : PySem.W.keepIn K (.ref (ga K "total")) = true) (b_total : Binds K d_total ["tape", "asks", "row"] []) {d_trimmed : FuncData} (c_trimmed : FnOk P w K mg base (L2.CX P w) 4 (ga K "trimmed") d_trimmed ["tape", "asks", "row"] (SpP K 3 (fun u : ((Int × List (Int × Int)) × (List Int) × (List (Int × Int))) => [.is (sh rTape) u.1, .is (sh (rList rInt)) u.2.1, .is (sh (rList (rPair rInt rInt))) u.2.2]) (rList (rPair rInt rInt)) m_trimmed)) (g_trimmed : mg "trimmed" = some (.ref (ga K "trimmed"))) (k_trimmed : PySem.W.keepIn K (.ref (ga K "trimmed")) = true) (b_trimmed : Binds K d_trimmed ["tape", "asks", "row"] []) {d_waits : FuncData} (c_waits : FnOk P w K mg base (L2.CX P w) 5 (ga K "waits") d_waits ["tape", "asks", "row"] (SpP K 3 (fun u : ((Int × List (Int × Int)) × (List Int) × (List (Int × Int))) => [.is (sh rTape) u.1, .is (sh (rList rInt)) u.2.1, .is (sh (rList (rPair rInt rInt))) u.2.2]) (rList (rOpt (rPair rInt rInt))) m_waits)) (g_waits : mg "waits" = some (.ref (ga K "waits"))) (k_waits : PySem.W.keepIn K (.ref (ga K "waits")) = true) (b_waits : Binds K d_waits ["tape", "asks", "row"] []) {d_way : FuncData} (c_way : FnOk P w K mg base (L2.CX P w) 4 (ga K "way") d_way ["tape", "asks", "row"] (SpP K 3 (fun u : ((Int × List (Int × Int)) × (List Int) × (List (Int × Int))) => [.is (sh rTape) u.1, .is (sh (rList rInt)) u.2.1, .is (sh (rList (rPair rInt rInt))) u.2.2]) (rList rInt) m_way)) (g_way : mg "way" = some (.ref (ga K "way"))) (k_way : PySem.W.keepIn K (.ref (ga K "way")) = true) (b_way : Binds K d_way ["tape", "asks", "row"] []) (FD : FunD K "_law_td_right" "_law_td_right" (defArgs (Hd.tp 40)) (defBody (Hd.tp 40)) (defScope (Hd.tp 40)) [] [] (ga K "_law_td_right") fd) : FnG P w K mg base 7 (ga K "_law_td_right") fd ["_law_sack"] (SpI K 1 (rList rInt) (fun u : Unit => []) rBool m__law_td_right) :=
  fnG_io (k := 6) FD sc__law_td_right o__law_td_right (fun _ => rfl) fun u v0 cdv A outer s H E hr hgd F hio hW => ⟨_, (bx_nf (fun s => [.pn v0 (rList rInt) s, .un, .un, .un, .un, .un, .un, .un, .un, .un, .un, .un, .un, .un, .un, .un, .un, .un, .un, .un, .un, .un]) (fun _ => rfl) (bx_tgt (Gt := fun s (w1142 : (Int × Int × Int)) => [.pn v0 (rList rInt) s, .un, .un, .un, .un, .un, .un, .un, .un, .is rInt w1142.2.2, .un, .un, .is rInt w1142.1, .un, .un, .un, .un, .un, .is rInt w1142.2.1, .un, .un, .un]) (ex_tup3 (ex_bin op_add (vo_I0 fun i j => i + j) (fun _ _ => stl_ret _) ex_int (ex_callIo (E := E) 0 (fun q1125 => q1125.2.1) c__law_td_pick (hr.mono (by decide)) rfl g__law_td_pick k__law_td_pick b__law_td_pick (by exact passes_call (takes_of rfl rfl rfl rfl) fun _ _ _ _ h => h) (clo_list clo_int) (ea_cons (eo_pn (U := Unit) (a := ()) 0 fun _ => rfl) (ea_cons (eo_t ex_int) ea_nil)) (fun _ => rfl) (fun _ => rfl) (fun _ _ => rfl) (fun _ _ => (.cp cp_int (.tc cp_int) .nil)) (hWE hW) (wios hio fun _ => (.eq (.eq (.eq (.eq (.eq (.eq (.eq (.eq (.eq (.eq (.eq (.eq (.eq (.eq (.eq (.eq (.eq (.eq (.eq (.eq (.eq (.eq .nil))))))))))))))))))))))))) (ex_bin op_add (vo_I0 fun i j => i + j) (fun _ _ => stl_ret _) ex_int (ex_callIo (E := E) 0 (fun q1131 => q1131.2.1) c__law_td_pick (hr.mono (by decide)) rfl g__law_td_pick k__law_td_pick b__law_td_pick (by exact passes_call (takes_of rfl rfl rfl rfl) fun _ _ _ _ h => h) (clo_list clo_int) (ea_cons (eo_pn (U := Unit) (a := ()) 0 fun _ => rfl) (ea_cons (eo_t ex_int) ea_nil)) (fun _ => rfl) (fun _ => rfl) (fun _ _ => rfl) (fun _ _ => (.cp cp_int (.tc cp_int) .nil)) (hWE hW) (wios hio fun _ => (.eq (.eq (.eq (.eq (.eq (.eq (.eq (.eq (.eq (.eq (.eq (.eq (.eq (.eq (.eq (.eq (.eq (.eq (.eq (.eq (.eq (.eq .nil))))))))))))))))))))))))) (ex_callIo (E := E) 0 (fun q1137 => q1137.2.1) c__law_td_pick (hr.mono (by decide)) rfl g__law_td_pick k__law_td_pick b__law_td_pick (by exact passes_call (takes_of rfl rfl rfl rfl) fun _ _ _ _ h => h) (clo_list clo_int) (ea_cons (eo_pn (U := Unit) (a := ()) 0 fun _ => rfl) (ea_cons (eo_t ex_int) ea_nil)) (fun _ => rfl) (fun _ => rfl) (fun _ _ => rfl) (fun _ _ => (.cp cp_int (.tc cp_int) .nil)) (hWE hW) (wios hio fun _ => (.eq (.eq (.eq (.eq (.eq (.eq (.eq (.eq (.eq (.eq (.eq (.eq (.eq (.eq (.eq (.eq (.eq (.eq (.eq (.eq (.eq (.eq .nil))))))))))))))))))))))))) (fun _ => (eg_tup3 rfl (eg_name (i := 12) rfl sc__law_td_right.nd) (fun _ => (eg_name (i := 18) rfl sc__law_td_right.nd)) (fun _ _ => (eg_name (i := 9) rfl sc__law_td_right.nd)) inferInstance inferInstance)) (fun w1142 => (bx_nf (fun s => [.pn v0 (rList rInt) s, .un, .un, .un, .un, .un, .un, .un, .un, .is rInt w1142.2.2, .un, .un, .is rInt w1142.1, .un, .un, .un, .un, .un, .is rInt w1142.2.1, .un, .un, .un]) (fun _ => rfl) (bx_asg 9 sc__law_td_right.nd (ex_ix (eo_t (ex_lst (r := rInt) (el_cons ex_int (el_cons (ex_var 9 cp_int fun _ => rfl) el_nil)))) (ex_callIo (E := E) 0 (fun q1152 => q1152.2.1) c__law_td_pick (hr.mono (by decide)) rfl g__law_td_pick k__law_td_pick b__law_td_pick (by exact passes_call (takes_of rfl rfl rfl rfl) fun _ _ _ _ h => h) (clo_list clo_int) (ea_cons (eo_pn (U := Unit) (a := ()) 0 fun _ => rfl) (ea_cons (eo_t ex_int) ea_nil)) (fun _ => rfl) (fun _ => rfl) (fun _ _ => rfl) (fun _ _ => (.cp cp_int (.tc cp_int) .nil)) (hWE hW) (wios hio fun _ => (.eq (.eq (.eq (.eq (.eq (.eq (.eq (.eq (.eq (.un (.eq (.eq (.un (.eq (.eq (.eq (.eq (.eq (.un (.eq (.eq (.eq .nil)))))))))))))))))))))))) cp_int fun _ _ => .t) (fun v_law_gap1143 => (bx_nf (fun s => [.pn v0 (rList rInt) s, .un, .un, .un, .un, .un, .un, .un, .un, .is rInt v_law_gap1143, .un, .un, .is rInt w1142.1, .un, .un, .un, .un, .un, .is rInt w1142.2.1, .un, .un, .un]) (fun _ => rfl) (bx_tgt (Gt := fun s (w1172 : (Int × Int × Int)) => [.pn v0 (rList rInt) s, .un, .un, .un, .is rInt w1172.2.1, .un, .is rInt w1172.2.2, .un, .is rInt w1172.1, .is rInt v_law_gap1143, .un, .un, .is rInt w1142.1, .un, .un, .un, .un, .un, .is rInt w1142.2.1, .un, .un, .un]) (ex_tup3 (ex_callIo (E := E) 0 (fun q1157 => q1157.2.1) c__law_td_pick (hr.mono (by decide)) rfl g__law_td_pick k__law_td_pick b__law_td_pick (by exact passes_call (takes_of rfl rfl rfl rfl) fun _ _ _ _ h => h) (clo_list clo_int) (ea_cons (eo_pn (U := Unit) (a := ()) 0 fun _ => rfl) (ea_cons (eo_t ex_int) ea_nil)) (fun _ => rfl) (fun _ => rfl) (fun _ _ => rfl) (fun _ _ => (.cp cp_int (.tc cp_int) .nil)) (hWE hW) (wios hio fun _ => (.eq (.eq (.eq (.eq (.eq (.eq (.eq (.eq (.eq (.un (.eq (.eq (.un (.eq (.eq (.eq (.eq (.eq (.un (.eq (.eq (.eq .nil)))))))))))))))))))))))) (ex_callIo (E := E) 0 (fun q1161 => q1161.2.1) c__law_td_pick (hr.mono (by decide)) rfl g__law_td_pick k__law_td_pick b__law_td_pick (by exact passes_call (takes_of rfl rfl rfl rfl) fun _ _ _ _ h => h) (clo_list clo_int) (ea_cons (eo_pn (U := Unit) (a := ()) 0 fun _ => rfl) (ea_cons (eo_t ex_int) ea_nil)) (fun _ => rfl) (fun _ => rfl) (fun _ _ => rfl) (fun _ _ => (.cp cp_int (.tc cp_int) .nil)) (hWE hW) (wios hio fun _ => (.eq (.eq (.eq (.eq (.eq (.eq (.eq (.eq (.eq (.un (.eq (.eq (.un (.eq (.eq (.eq (.eq (.eq (.un (.eq (.eq (.eq .nil)))))))))))))))))))))))) (ex_bin op_add (vo_I0 fun i j => i + j) (fun _ _ => stl_ret _) ex_int (ex_callIo (E := E) 0 (fun q1165 => q1165.2.1) c__law_td_pick (hr.mono (by decide)) rfl g__law_td_pick k__law_td_pick b__law_td_pick (by exact passes_call (takes_of rfl rfl rfl rfl) fun _ _ _ _ h => h) (clo_list clo_int) (ea_cons (eo_pn (U := Unit) (a := ()) 0 fun _ => rfl) (ea_cons (eo_t ex_int) ea_nil)) (fun _ => rfl) (fun _ => rfl) (fun _ _ => rfl) (fun _ _ => (.cp cp_int (.tc cp_int) .nil)) (hWE hW) (wios hio fun _ => (.eq (.eq (.eq (.eq (.eq (.eq (.eq (.eq (.eq (.un (.eq (.eq (.un (.eq (.eq (.eq (.eq (.eq (.un (.eq (.eq (.eq .nil)))))))))))))))))))))))))) (fun _ => (eg_tup3 rfl (eg_name (i := 8) rfl sc__law_td_right.nd) (fun _ => (eg_name (i := 4) rfl sc__law_td_right.nd)) (fun _ _ => (eg_name (i := 6) rfl sc__law_td_right.nd)) inferInstance inferInstance)) (fun w1172 => (bx_nf (fun s => [.pn v0 (rList rInt) s, .un, .un, .un, .is rInt w1172.2.1, .un, .is rInt w1172.2.2, .un, .is rInt w1172.1, .is rInt v_law_gap1143, .un, .un, .is rInt w1142.1, .un, .un, .un, .un, .un, .is rInt w1142.2.1, .un, .un, .un]) (fun _ => rfl) (bx_tgt (Gt := fun s (w1184 : (Int × Int × (Int × Int))) => [.pn v0 (rList rInt) s, .is rInt w1184.1, .un, .un, .is rInt w1172.2.1, .un, .is rInt w1172.2.2, .un, .is rInt w1172.1, .is rInt v_law_gap1143, .un, .un, .is rInt w1142.1, .is rInt w1184.2.1, .un, .un, .un, .is (rPair rInt rInt) w1184.2.2, .is rInt w1142.2.1, .un, .un, .un]) (ex_tup3 (ex_bin op_add (vo_I0 fun i j => i + j) (fun _ _ => stl_ret _) (ex_var 18 cp_int fun _ => rfl) (ex_var 9 cp_int fun _ => rfl)) (ex_callIo (E := E) 0 (fun q1177 => q1177.2.1) c__law_td_pick (hr.mono (by decide)) rfl g__law_td_pick k__law_td_pick b__law_td_pick (by exact passes_call (takes_of rfl rfl rfl rfl) fun _ _ _ _ h => h) (clo_list clo_int) (ea_cons (eo_pn (U := Unit) (a := ()) 0 fun _ => rfl) (ea_cons (eo_t ex_int) ea_nil)) (fun _ => rfl) (fun _ => rfl) (fun _ _ => rfl) (fun _ _ => (.cp cp_int (.tc cp_int) .nil)) (hWE hW) (wios hio fun _ => (.eq (.eq (.eq (.eq (.un (.eq (.un (.eq (.un (.un (.eq (.eq (.un (.eq (.eq (.eq (.eq (.eq (.un (.eq (.eq (.eq .nil)))))))))))))))))))))))) (ex_callIo (E := E) 0 (fun q1179 => ()) c__law_td_price (hr.mono (by decide)) rfl g__law_td_price k__law_td_price b__law_td_price (by exact passes_call (takes_of rfl rfl rfl rfl) fun _ _ _ _ h => h) (clo_list clo_int) (ea_cons (eo_pn (U := Unit) (a := ()) 0 fun _ => rfl) ea_nil) (fun _ => rfl) (fun _ => rfl) (fun _ _ => rfl) (fun _ _ => .nil) (hWE hW) (wios hio fun _ => (.eq (.eq (.eq (.eq (.un (.eq (.un (.eq (.un (.un (.eq (.eq (.un (.eq (.eq (.eq (.eq (.eq (.un (.eq (.eq (.eq .nil))))))))))))))))))))))))) (fun _ => (eg_tup3 rfl (eg_name (i := 1) rfl sc__law_td_right.nd) (fun _ => (eg_name (i := 13) rfl sc__law_td_right.nd)) (fun _ _ => (eg_name (i := 17) rfl sc__law_td_right.nd)) inferInstance inferInstance)) (fun w1184 => (bx_nf (fun s => [.pn v0 (rList rInt) s, .is rInt w1184.1, .un, .un, .is rInt w1172.2.1, .un, .is rInt w1172.2.2, .un, .is rInt w1172.1, .is rInt v_law_gap1143, .un, .un, .is rInt w1142.1, .is rInt w1184.2.1, .un, .un, .un, .is (rPair rInt rInt) w1184.2.2, .is rInt w1142.2.1, .un, .un, .un]) (fun _ => rfl) (bx_lcS (i := 3) (Gt := fun s (x1188 : Int) => [.pn v0 (rList rInt) s, .is rInt w1184.1, .un, .un, .is rInt w1172.2.1, .un, .is rInt w1172.2.2, .un, .is rInt w1172.1, .is rInt v_law_gap1143, .un, .un, .is rInt w1142.1, .is rInt w1184.2.1, .is rInt x1188, .un, .un, .is (rPair rInt rInt) w1184.2.2, .is rInt w1142.2.1, .un, .un, .un]) s rfl sc__law_td_right.nd (ei_rng1 (ex_var 12 cp_int fun _ => rfl) rfl f_range) (fun _ => trivial) bk__law_td_right_0 (fun _ => (.cons rfl .nil)) (by exact fun _ h => h) (fun _ _ => (.eq (.eq (.eq (.eq (.eq (.eq (.eq (.eq (.eq (.eq (.eq (.eq (.eq (.eq (.un (.eq (.eq (.eq (.eq (.eq (.eq (.eq .nil))))))))))))))))))))))) (fun _ _ _ _ _ _ => (eg_name (i := 14) rfl sc__law_td_right.nd)) (fun _ _ _ _ _ x1188 => ets_nil) (fun _ _ _ _ _ x1188 => (ex_bin op_add (vo_I0 fun i j => i + j) (fun _ _ => stl_ret _) (ex_var 8 cp_int fun _ => rfl) (ex_bin op_mul vo_mul stl_mul (ex_var 14 cp_int fun _ => rfl) (ex_var 1 cp_int fun _ => rfl)))) inferInstance inferInstance (fun v_law_begins1185 => (bx_nf (fun s => [.pn v0 (rList rInt) s, .is rInt w1184.1, .un, .is (sh (rList rInt)) v_law_begins1185, .is rInt w1172.2.1, .un, .is rInt w1172.2.2, .un, .is rInt w1172.1, .is rInt v_law_gap1143, .un, .un, .is rInt w1142.1, .is rInt w1184.2.1, .un, .un, .un, .is (rPair rInt rInt) w1184.2.2, .is rInt w1142.2.1, .un, .un, .un]) (fun _ => rfl) (bx_asg 11 sc__law_td_right.nd (ex_make (E := E) (fun q1221 => (q1221.1, q1221.2.1)) t_mk c_Tape_DinitD (hr.mono (by decide)) rfl g_Tape b_Tape_DinitD (by exact passes_call (takes_of rfl rfl rfl rfl) fun _ _ _ _ h => h) (ea_cons (eo_t (ex_bin op_add (vo_I0 fun i j => i + j) (fun _ _ => stl_ret _) (ex_bin op_add (vo_I0 fun i j => i + j) (fun _ _ => stl_ret _) (ex_ix (eo_t (ex_var 3 cp_sh fun _ => rfl)) (ex_neg ex_int) cp_int fun _ _ => .ts) (ex_var 18 cp_int fun _ => rfl)) (ex_var 4 cp_int fun _ => rfl))) (ea_cons (eo_t (ex_freeze (ex_lcU (Gt := fun s (x1212 : Int) => [.pn v0 (rList rInt) s, .is rInt w1184.1, .is rInt x1212, .is (sh (rList rInt)) v_law_begins1185, .is rInt w1172.2.1, .un, .is rInt w1172.2.2, .un, .is rInt w1172.1, .is rInt v_law_gap1143, .un, .un, .is rInt w1142.1, .is rInt w1184.2.1, .un, .un, .un, .is (rPair rInt rInt) w1184.2.2, .is rInt w1142.2.1, .un, .un, .un]) s rfl sc__law_td_right.nd (ei_sh (ex_var 3 cp_sh fun _ => rfl) cp_int) (fun _ => trivial) bk__law_td_right_1 (fun _ => (.cons rfl .nil)) (by exact fun _ h => h) (fun _ _ => (.eq (.eq (.un (.eq (.eq (.eq (.eq (.eq (.eq (.eq (.eq (.eq (.eq (.eq (.eq (.eq (.eq (.eq (.eq (.eq (.eq (.eq .nil))))))))))))))))))))))) (fun _ _ _ _ _ _ => (eg_name (i := 2) rfl sc__law_td_right.nd)) (fun _ _ _ _ _ x1212 => ets_nil) (fun _ _ _ _ _ x1212 => (ex_tup2 (ex_var 2 cp_int fun _ => rfl) (ex_bin op_add (vo_I0 fun i j => i + j) (fun _ _ => stl_ret _) (ex_var 2 cp_int fun _ => rfl) (ex_var 18 cp_int fun _ => rfl)))) inferInstance inferInstance))) ea_nil)) (fun _ => rfl) (fun _ _ => (.cp cp_int (.tc cp_int) (.cp cp_sh (.tc cp_sh) .nil))) (hWE hW) (wios hio fun _ => (.eq (.un (.eq (.un (.un (.eq (.un (.eq (.un (.un (.eq (.eq (.un (.un (.eq (.eq (.eq (.un (.un (.eq (.eq (.eq .nil)))))))))))))))))))))))) (fun v_law_made1193 => (bx_nf (fun s => [.pn v0 (rList rInt) s, .is rInt w1184.1, .un, .is (sh (rList rInt)) v_law_begins1185, .is rInt w1172.2.1, .un, .is rInt w1172.2.2, .un, .is rInt w1172.1, .is rInt v_law_gap1143, .un, .is (sh rTape) v_law_made1193, .is rInt w1142.1, .is rInt w1184.2.1, .un, .un, .un, .is (rPair rInt rInt) w1184.2.2, .is rInt w1142.2.1, .un, .un, .un]) (fun _ => rfl) (bx_par 7 5 sc__law_td_right.nd rfl (by decide) (ex_freeze (ex_lcU (Gt := fun s (x1223 : Int) => [.pn v0 (rList rInt) s, .is rInt w1184.1, .is rInt x1223, .is (sh (rList rInt)) v_law_begins1185, .is rInt w1172.2.1, .un, .is rInt w1172.2.2, .un, .is rInt w1172.1, .is rInt v_law_gap1143, .un, .is (sh rTape) v_law_made1193, .is rInt w1142.1, .is rInt w1184.2.1, .un, .un, .un, .is (rPair rInt rInt) w1184.2.2, .is rInt w1142.2.1, .un, .un, .un]) s rfl sc__law_td_right.nd (ei_sh (ex_var 3 cp_sh fun _ => rfl) cp_int) (fun _ => trivial) bk__law_td_right_2 (fun _ => (.cons rfl .nil)) (by exact fun _ h => h) (fun _ _ => (.eq (.eq (.un (.eq (.eq (.eq (.eq (.eq (.eq (.eq (.eq (.eq (.eq (.eq (.eq (.eq (.eq (.eq (.eq (.eq (.eq (.eq .nil))))))))))))))))))))))) (fun _ _ _ _ _ _ => (eg_name (i := 2) rfl sc__law_td_right.nd)) (fun _ _ _ _ _ x1223 => ets_nil) (fun _ _ _ _ _ x1223 => (ex_var 6 cp_int fun _ => rfl)) inferInstance inferInstance)) (ex_freeze (ex_call (E := E) (fun q1228 => (q1228.1, q1228.2.1)) c__law_td_kind_row (hr.mono (by decide)) rfl g__law_td_kind_row k__law_td_kind_row b__law_td_kind_row (by exact passes_call (takes_of rfl rfl rfl rfl) fun _ _ _ _ h => h) (ea_cons (eo_t (ex_var 13 cp_int fun _ => rfl)) (ea_cons (eo_t (ex_var 12 cp_int fun _ => rfl)) ea_nil)) (fun _ => rfl) (.inl ⟨(clo_list (clo_pair clo_int clo_int)), fun _ _ => (.cp cp_int .t (.cp cp_int .t .nil))⟩) (hWE hW) (wios hio fun _ => (.eq (.un (.eq (.un (.un (.eq (.un (.eq (.un (.un (.eq (.un (.un (.un (.eq (.eq (.eq (.un (.un (.eq (.eq (.eq .nil))))))))))))))))))))))))) (fun v_law_counts1229 v_law_bends1230 => (bx_nf (fun s => [.pn v0 (rList rInt) s, .is rInt w1184.1, .un, .is (sh (rList rInt)) v_law_begins1185, .is rInt w1172.2.1, .is (sh (rList (rPair rInt rInt))) v_law_bends1230, .is rInt w1172.2.2, .is (sh (rList rInt)) v_law_counts1229, .is rInt w1172.1, .is rInt v_law_gap1143, .un, .is (sh rTape) v_law_made1193, .is rInt w1142.1, .is rInt w1184.2.1, .un, .un, .un, .is (rPair rInt rInt) w1184.2.2, .is rInt w1142.2.1, .un, .un, .un]) (fun _ => rfl) (bx_lcS (i := 20) (Gt := fun s (x1234 : Int) => [.pn v0 (rList rInt) s, .is rInt w1184.1, .un, .is (sh (rList rInt)) v_law_begins1185, .is rInt w1172.2.1, .is (sh (rList (rPair rInt rInt))) v_law_bends1230, .is rInt w1172.2.2, .is (sh (rList rInt)) v_law_counts1229, .is rInt w1172.1, .is rInt v_law_gap1143, .un, .is (sh rTape) v_law_made1193, .is rInt w1142.1, .is rInt w1184.2.1, .is rInt x1234, .un, .un, .is (rPair rInt rInt) w1184.2.2, .is rInt w1142.2.1, .un, .un, .un]) s rfl sc__law_td_right.nd (ei_rng1 (ex_var 12 cp_int fun _ => rfl) rfl f_range) (fun _ => trivial) bk__law_td_right_3 (fun _ => (.cons rfl .nil)) (by exact fun _ h => h) (fun _ _ => (.eq (.eq (.eq (.eq (.eq (.eq (.eq (.eq (.eq (.eq (.eq (.eq (.eq (.eq (.un (.eq (.eq (.eq (.eq (.eq (.eq (.eq .nil))))))))))))))))))))))) (fun _ _ _ _ _ _ => (eg_name (i := 14) rfl sc__law_td_right.nd)) (fun _ _ _ _ _ x1234 => ets_nil) (fun _ _ _ _ _ x1234 => (ex_call (E := fun _ _ _ => False) (fun q1249 => (q1249.1, q1249.2.1, q1249.2.2.1, q1249.2.2.2.1, q1249.2.2.2.2.1, q1249.2.2.2.2.2.1, q1249.2.2.2.2.2.2.1)) c__law_td_kind_wait (hr.mono (by decide)) rfl g__law_td_kind_wait k__law_td_kind_wait b__law_td_kind_wait (by exact passes_nx rfl) (ea_cons (eo_t (ex_var 13 cp_int fun _ => rfl)) (ea_cons (eo_t (ex_var 12 cp_int fun _ => rfl)) (ea_cons (eo_t (ex_var 18 cp_int fun _ => rfl)) (ea_cons (eo_t (ex_var 1 cp_int fun _ => rfl)) (ea_cons (eo_t (ex_var 8 cp_int fun _ => rfl)) (ea_cons (eo_t (ex_var 4 cp_int fun _ => rfl)) (ea_cons (eo_t (ex_var 14 cp_int fun _ => rfl)) ea_nil))))))) (fun _ => rfl) (.inl ⟨(clo_pair clo_int clo_int), fun _ _ => (.cp cp_int .t (.cp cp_int .t (.cp cp_int .t (.cp cp_int .t (.cp cp_int .t (.cp cp_int .t (.cp cp_int .t .nil)))))))⟩) (fun _ _ _ _ h => h.elim) (wios hio fun _ => (.eq (.un (.eq (.un (.un (.un (.un (.un (.un (.un (.eq (.un (.un (.un (.un (.eq (.eq (.un (.un (.eq (.eq (.eq .nil))))))))))))))))))))))))) inferInstance inferInstance (fun v_law_told1231 => (bx_nf (fun s => [.pn v0 (rList rInt) s, .is rInt w1184.1, .un, .is (sh (rList rInt)) v_law_begins1185, .is rInt w1172.2.1, .is (sh (rList (rPair rInt rInt))) v_law_bends1230, .is rInt w1172.2.2, .is (sh (rList rInt)) v_law_counts1229, .is rInt w1172.1, .is rInt v_law_gap1143, .un, .is (sh rTape) v_law_made1193, .is rInt w1142.1, .is rInt w1184.2.1, .un, .un, .un, .is (rPair rInt rInt) w1184.2.2, .is rInt w1142.2.1, .un, .is (sh (rList (rPair rInt rInt))) v_law_told1231, .un]) (fun _ => rfl) (bx_asg 14 sc__law_td_right.nd (ex_callIo (E := E) 0 (fun q1253 => q1253.2.1) c__law_td_pick (hr.mono (by decide)) rfl g__law_td_pick k__law_td_pick b__law_td_pick (by exact passes_call (takes_of rfl rfl rfl rfl) fun _ _ _ _ h => h) (clo_list clo_int) (ea_cons (eo_pn (U := Unit) (a := ()) 0 fun _ => rfl) (ea_cons (eo_t (ex_var 12 cp_int fun _ => rfl)) ea_nil)) (fun _ => rfl) (fun _ => rfl) (fun _ _ => rfl) (fun _ _ => (.cp cp_int (.tc cp_int) .nil)) (hWE hW) (wios hio fun _ => (.eq (.un (.eq (.un (.un (.un (.un (.un (.un (.un (.eq (.un (.un (.un (.eq (.eq (.eq (.un (.un (.eq (.un (.eq .nil)))))))))))))))))))))))) (fun v_law_number1250 => (bx_nf (fun s => [.pn v0 (rList rInt) s, .is rInt w1184.1, .un, .is (sh (rList rInt)) v_law_begins1185, .is rInt w1172.2.1, .is (sh (rList (rPair rInt rInt))) v_law_bends1230, .is rInt w1172.2.2, .is (sh (rList rInt)) v_law_counts1229, .is rInt w1172.1, .is rInt v_law_gap1143, .un, .is (sh rTape) v_law_made1193, .is rInt w1142.1, .is rInt w1184.2.1, .is rInt v_law_number1250, .un, .un, .is (rPair rInt rInt) w1184.2.2, .is rInt w1142.2.1, .un, .is (sh (rList (rPair rInt rInt))) v_law_told1231, .un]) (fun _ => rfl) (bx_ifr (GE_ := fun e _ => e.elim) (et_cmp op_ne vo_neS (fun _ _ => stl_ret _) (ex_repr hgd hr.units (eo_t (ex_ix (eo_t (ex_call (E := E) (fun q1276 => (q1276.1, q1276.2.1, q1276.2.2.1)) c_waits (hr.mono (by decide)) rfl g_waits k_waits b_waits (by exact passes_call (takes_of rfl rfl rfl rfl) fun _ _ _ _ h => h) (ea_cons (eo_t (ex_var 11 cp_sh fun _ => rfl)) (ea_cons (eo_t (ex_var 7 cp_sh fun _ => rfl)) (ea_cons (eo_t (ex_var 5 cp_sh fun _ => rfl)) ea_nil))) (fun _ => rfl) (.inl ⟨(clo_list (clo_opt (clo_pair clo_int clo_int))), fun _ _ => (.cp cp_sh .t (.cp cp_sh .t (.cp cp_sh .t .nil)))⟩) (hWE hW) (wios hio fun _ => (.eq (.un (.eq (.un (.un (.un (.un (.un (.un (.un (.eq (.un (.un (.un (.un (.eq (.eq (.un (.un (.eq (.un (.eq .nil))))))))))))))))))))))))) (ex_var 14 cp_int fun _ => rfl) (cp_opt (cp_pair cp_int cp_int)) fun _ _ => .t)) (fun _ _ => .mk (en_O (en_P enc_int enc_int)) .t) rfl f_repr) (ex_repr hgd hr.units (eo_t (ex_ix (eo_t (ex_var 20 cp_sh fun _ => rfl)) (ex_var 14 cp_int fun _ => rfl) (cp_pair cp_int cp_int) fun _ _ => .ts)) (fun _ _ => .mk (en_P enc_int enc_int) .t) rfl f_repr) rfl) (bx_nf (fun s => [.pn v0 (rList rInt) s, .is rInt w1184.1, .un, .is (sh (rList rInt)) v_law_begins1185, .is rInt w1172.2.1, .is (sh (rList (rPair rInt rInt))) v_law_bends1230, .is rInt w1172.2.2, .is (sh (rList rInt)) v_law_counts1229, .is rInt w1172.1, .is rInt v_law_gap1143, .un, .is (sh rTape) v_law_made1193, .is rInt w1142.1, .is rInt w1184.2.1, .is rInt v_law_number1250, .un, .un, .is (rPair rInt rInt) w1184.2.2, .is rInt w1142.2.1, .un, .is (sh (rList (rPair rInt rInt))) v_law_told1231, .un]) (fun _ => rfl) (bx_ret ex_bool (wios hio fun _ => (.eq (.un (.eq (.un (.un (.un (.un (.un (.un (.un (.eq (.un (.un (.un (.un (.eq (.eq (.un (.un (.eq (.un (.eq .nil))))))))))))))))))))))))) (bx_nf (fun s => [.pn v0 (rList rInt) s, .is rInt w1184.1, .un, .is (sh (rList rInt)) v_law_begins1185, .is rInt w1172.2.1, .is (sh (rList (rPair rInt rInt))) v_law_bends1230, .is rInt w1172.2.2, .is (sh (rList rInt)) v_law_counts1229, .is rInt w1172.1, .is rInt v_law_gap1143, .un, .is (sh rTape) v_law_made1193, .is rInt w1142.1, .is rInt w1184.2.1, .is rInt v_law_number1250, .un, .un, .is (rPair rInt rInt) w1184.2.2, .is rInt w1142.2.1, .un, .is (sh (rList (rPair rInt rInt))) v_law_told1231, .un]) (fun _ => rfl) (bx_asg 16 sc__law_td_right.nd (ex_tup2 (ex_bin op_mul vo_mul stl_mul (ex_var 6 cp_int fun _ => rfl) (ex_sum (eo_t (ex_lcU (Gt := fun s (x1286 : (Int × Int)) => [.pn v0 (rList rInt) s, .is rInt w1184.1, .un, .is (sh (rList rInt)) v_law_begins1185, .is rInt w1172.2.1, .is (sh (rList (rPair rInt rInt))) v_law_bends1230, .is rInt w1172.2.2, .is (sh (rList rInt)) v_law_counts1229, .is rInt w1172.1, .is rInt v_law_gap1143, .un, .is (sh rTape) v_law_made1193, .is rInt w1142.1, .is rInt w1184.2.1, .is rInt v_law_number1250, .un, .un, .is (rPair rInt rInt) w1184.2.2, .is rInt w1142.2.1, .un, .is (sh (rList (rPair rInt rInt))) v_law_told1231, .is (rPair rInt rInt) x1286]) s rfl sc__law_td_right.nd (ei_sh (ex_var 20 cp_sh fun _ => rfl) (cp_pair cp_int cp_int)) (fun _ => trivial) bk__law_td_right_4 (fun _ => (.cons rfl .nil)) (by exact fun _ h => h) (fun _ _ => (.eq (.eq (.eq (.eq (.eq (.eq (.eq (.eq (.eq (.eq (.eq (.eq (.eq (.eq (.eq (.eq (.eq (.eq (.eq (.eq (.eq (.un .nil))))))))))))))))))))))) (fun _ _ _ _ _ _ => (eg_name (i := 21) rfl sc__law_td_right.nd)) (fun _ _ _ _ _ x1286 => ets_nil) (fun _ _ _ _ _ x1286 => (ex_plc (eo_t (ex_var 21 (cp_pair cp_int cp_int) fun _ => rfl)) plc2_0 cp_int fun _ _ => .t)) inferInstance inferInstance)) (fun _ _ => .t) rfl rfl f_sum)) (ex_bin op_mul vo_mul stl_mul (ex_var 6 cp_int fun _ => rfl) (ex_sum (eo_t (ex_lcU (Gt := fun s (x1291 : (Int × Int)) => [.pn v0 (rList rInt) s, .is rInt w1184.1, .un, .is (sh (rList rInt)) v_law_begins1185, .is rInt w1172.2.1, .is (sh (rList (rPair rInt rInt))) v_law_bends1230, .is rInt w1172.2.2, .is (sh (rList rInt)) v_law_counts1229, .is rInt w1172.1, .is rInt v_law_gap1143, .un, .is (sh rTape) v_law_made1193, .is rInt w1142.1, .is rInt w1184.2.1, .is rInt v_law_number1250, .un, .un, .is (rPair rInt rInt) w1184.2.2, .is rInt w1142.2.1, .un, .is (sh (rList (rPair rInt rInt))) v_law_told1231, .is (rPair rInt rInt) x1291]) s rfl sc__law_td_right.nd (ei_sh (ex_var 20 cp_sh fun _ => rfl) (cp_pair cp_int cp_int)) (fun _ => trivial) bk__law_td_right_5 (fun _ => (.cons rfl .nil)) (by exact fun _ h => h) (fun _ _ => (.eq (.eq (.eq (.eq (.eq (.eq (.eq (.eq (.eq (.eq (.eq (.eq (.eq (.eq (.eq (.eq (.eq (.eq (.eq (.eq (.eq (.un .nil))))))))))))))))))))))) (fun _ _ _ _ _ _ => (eg_name (i := 21) rfl sc__law_td_right.nd)) (fun _ _ _ _ _ x1291 => ets_nil) (fun _ _ _ _ _ x1291 => (ex_plc (eo_t (ex_var 21 (cp_pair cp_int cp_int) fun _ => rfl)) plc2_1 cp_int fun _ _ => .t)) inferInstance inferInstance)) (fun _ _ => .t) rfl rfl f_sum))) (fun v_law_owed1285 => (bx_nf (fun s => [.pn v0 (rList rInt) s, .is rInt w1184.1, .un, .is (sh (rList rInt)) v_law_begins1185, .is rInt w1172.2.1, .is (sh (rList (rPair rInt rInt))) v_law_bends1230, .is rInt w1172.2.2, .is (sh (rList rInt)) v_law_counts1229, .is rInt w1172.1, .is rInt v_law_gap1143, .un, .is (sh rTape) v_law_made1193, .is rInt w1142.1, .is rInt w1184.2.1, .is rInt v_law_number1250, .un, .is (rPair rInt rInt) v_law_owed1285, .is (rPair rInt rInt) w1184.2.2, .is rInt w1142.2.1, .un, .is (sh (rList (rPair rInt rInt))) v_law_told1231, .un]) (fun _ => rfl) (bx_asg 10 sc__law_td_right.nd (ex_if (et_w (ew_or (et_in2 (ex_var 13 cp_int fun _ => rfl) (ex_tup2 ex_int ex_int)) (ew_or1 (et_w (ew_and (et_cmp op_eq vo_eqI (fun _ _ => stl_ret _) (ex_var 13 cp_int fun _ => rfl) ex_int rfl) (ew_and1 (et_cmp op_gt (vo_B0 fun i j => decide (j < i)) (fun _ _ => stl_ret _) (ex_var 12 cp_int fun _ => rfl) ex_int rfl))))))) ex_int (ex_bin op_sub (vo_I0 fun i j => i - j) (fun _ _ => stl_ret _) (ex_var 12 cp_int fun _ => rfl) ex_int)) (fun v_law_last1298 => (bx_nf (fun s => [.pn v0 (rList rInt) s, .is rInt w1184.1, .un, .is (sh (rList rInt)) v_law_begins1185, .is rInt w1172.2.1, .is (sh (rList (rPair rInt rInt))) v_law_bends1230, .is rInt w1172.2.2, .is (sh (rList rInt)) v_law_counts1229, .is rInt w1172.1, .is rInt v_law_gap1143, .is rInt v_law_last1298, .is (sh rTape) v_law_made1193, .is rInt w1142.1, .is rInt w1184.2.1, .is rInt v_law_number1250, .un, .is (rPair rInt rInt) v_law_owed1285, .is (rPair rInt rInt) w1184.2.2, .is rInt w1142.2.1, .un, .is (sh (rList (rPair rInt rInt))) v_law_told1231, .un]) (fun _ => rfl) (bx_ifr (GE_ := fun e _ => e.elim) (et_cmp op_ne vo_neS (fun _ _ => stl_ret _) (ex_repr hgd hr.units (eo_t (ex_call (E := E) (fun q1330 => (q1330.1, q1330.2.1, q1330.2.2.1)) c_total (hr.mono (by decide)) rfl g_total k_total b_total (by exact passes_call (takes_of rfl rfl rfl rfl) fun _ _ _ _ h => h) (ea_cons (eo_t (ex_var 11 cp_sh fun _ => rfl)) (ea_cons (eo_t (ex_var 7 cp_sh fun _ => rfl)) (ea_cons (eo_t (ex_var 5 cp_sh fun _ => rfl)) ea_nil))) (fun _ => rfl) (.inl ⟨(clo_pair clo_int clo_int), fun _ _ => (.cp cp_sh .t (.cp cp_sh .t (.cp cp_sh .t .nil)))⟩) (hWE hW) (wios hio fun _ => (.eq (.un (.eq (.un (.un (.un (.un (.un (.un (.un (.un (.un (.un (.un (.un (.eq (.un (.un (.un (.eq (.un (.eq .nil))))))))))))))))))))))))) (fun _ _ => .mk (en_P enc_int enc_int) .t) rfl f_repr) (ex_repr hgd hr.units (eo_t (ex_var 16 (cp_pair cp_int cp_int) fun _ => rfl)) (fun _ _ => .mk (en_P enc_int enc_int) .t) rfl f_repr) rfl) (bx_nf (fun s => [.pn v0 (rList rInt) s, .is rInt w1184.1, .un, .is (sh (rList rInt)) v_law_begins1185, .is rInt w1172.2.1, .is (sh (rList (rPair rInt rInt))) v_law_bends1230, .is rInt w1172.2.2, .is (sh (rList rInt)) v_law_counts1229, .is rInt w1172.1, .is rInt v_law_gap1143, .is rInt v_law_last1298, .is (sh rTape) v_law_made1193, .is rInt w1142.1, .is rInt w1184.2.1, .is rInt v_law_number1250, .un, .is (rPair rInt rInt) v_law_owed1285, .is (rPair rInt rInt) w1184.2.2, .is rInt w1142.2.1, .un, .is (sh (rList (rPair rInt rInt))) v_law_told1231, .un]) (fun _ => rfl) (bx_ret ex_bool (wios hio fun _ => (.eq (.un (.eq (.un (.un (.un (.un (.un (.un (.un (.un (.un (.un (.un (.un (.eq (.un (.un (.un (.eq (.un (.eq .nil))))))))))))))))))))))))) (bx_nf (fun s => [.pn v0 (rList rInt) s, .is rInt w1184.1, .un, .is (sh (rList rInt)) v_law_begins1185, .is rInt w1172.2.1, .is (sh (rList (rPair rInt rInt))) v_law_bends1230, .is rInt w1172.2.2, .is (sh (rList rInt)) v_law_counts1229, .is rInt w1172.1, .is rInt v_law_gap1143, .is rInt v_law_last1298, .is (sh rTape) v_law_made1193, .is rInt w1142.1, .is rInt w1184.2.1, .is rInt v_law_number1250, .un, .is (rPair rInt rInt) v_law_owed1285, .is (rPair rInt rInt) w1184.2.2, .is rInt w1142.2.1, .un, .is (sh (rList (rPair rInt rInt))) v_law_told1231, .un]) (fun _ => rfl) (bx_ifr (GE_ := fun e _ => e.elim) (et_cmp op_ne vo_neS (fun _ _ => stl_ret _) (ex_repr hgd hr.units (eo_t (ex_call (E := E) (fun q1363 => (q1363.1, q1363.2.1, q1363.2.2.1, q1363.2.2.2.1)) c_longest (hr.mono (by decide)) rfl g_longest k_longest b_longest (by exact passes_call (takes_of rfl rfl rfl rfl) fun _ _ _ _ h => h) (ea_cons (eo_t (ex_var 11 cp_sh fun _ => rfl)) (ea_cons (eo_t (ex_var 7 cp_sh fun _ => rfl)) (ea_cons (eo_t (ex_var 5 cp_sh fun _ => rfl)) (ea_cons (eo_t (ex_var 17 (cp_pair cp_int cp_int) fun _ => rfl)) ea_nil)))) (fun _ => rfl) (.inl ⟨(clo_pair clo_int clo_int), fun _ _ => (.cp cp_sh .t (.cp cp_sh .t (.cp cp_sh .t (.cp (cp_pair cp_int cp_int) .t .nil))))⟩) (hWE hW) (wios hio fun _ => (.eq (.un (.eq (.un (.un (.un (.un (.un (.un (.un (.un (.un (.un (.un (.un (.eq (.un (.un (.un (.eq (.un (.eq .nil))))))))))))))))))))))))) (fun _ _ => .mk (en_P enc_int enc_int) .t) rfl f_repr) (ex_repr hgd hr.units (eo_t (ex_call (E := E) (fun q1371 => (q1371.1, q1371.2.1)) c__law_td_comes (hr.mono (by decide)) rfl g__law_td_comes k__law_td_comes b__law_td_comes (by exact passes_call (takes_of rfl rfl rfl rfl) fun _ _ _ _ h => h) (ea_cons (eo_t (ex_ix (eo_t (ex_var 20 cp_sh fun _ => rfl)) (ex_var 10 cp_int fun _ => rfl) (cp_pair cp_int cp_int) fun _ _ => .ts)) (ea_cons (eo_t (ex_var 17 (cp_pair cp_int cp_int) fun _ => rfl)) ea_nil)) (fun _ => rfl) (.inl ⟨(clo_pair clo_int clo_int), fun _ _ => (.cp (cp_pair cp_int cp_int) .t (.cp (cp_pair cp_int cp_int) .t .nil))⟩) (hWE hW) (wios hio fun _ => (.eq (.un (.eq (.un (.un (.un (.un (.un (.un (.un (.un (.un (.un (.un (.un (.eq (.un (.un (.un (.eq (.un (.eq .nil))))))))))))))))))))))))) (fun _ _ => .mk (en_P enc_int enc_int) .t) rfl f_repr) rfl) (bx_nf (fun s => [.pn v0 (rList rInt) s, .is rInt w1184.1, .un, .is (sh (rList rInt)) v_law_begins1185, .is rInt w1172.2.1, .is (sh (rList (rPair rInt rInt))) v_law_bends1230, .is rInt w1172.2.2, .is (sh (rList rInt)) v_law_counts1229, .is rInt w1172.1, .is rInt v_law_gap1143, .is rInt v_law_last1298, .is (sh rTape) v_law_made1193, .is rInt w1142.1, .is rInt w1184.2.1, .is rInt v_law_number1250, .un, .is (rPair rInt rInt) v_law_owed1285, .is (rPair rInt rInt) w1184.2.2, .is rInt w1142.2.1, .un, .is (sh (rList (rPair rInt rInt))) v_law_told1231, .un]) (fun _ => rfl) (bx_ret ex_bool (wios hio fun _ => (.eq (.un (.eq (.un (.un (.un (.un (.un (.un (.un (.un (.un (.un (.un (.un (.eq (.un (.un (.un (.eq (.un (.eq .nil))))))))))))))))))))))))) (bx_nf (fun s => [.pn v0 (rList rInt) s, .is rInt w1184.1, .un, .is (sh (rList rInt)) v_law_begins1185, .is rInt w1172.2.1, .is (sh (rList (rPair rInt rInt))) v_law_bends1230, .is rInt w1172.2.2, .is (sh (rList rInt)) v_law_counts1229, .is rInt w1172.1, .is rInt v_law_gap1143, .is rInt v_law_last1298, .is (sh rTape) v_law_made1193, .is rInt w1142.1, .is rInt w1184.2.1, .is rInt v_law_number1250, .un, .is (rPair rInt rInt) v_law_owed1285, .is (rPair rInt rInt) w1184.2.2, .is rInt w1142.2.1, .un, .is (sh (rList (rPair rInt rInt))) v_law_told1231, .un]) (fun _ => rfl) (bx_asg 19 sc__law_td_right.nd (ex_freeze (ex_call (E := E) (fun q1382 => (q1382.1, q1382.2.1, q1382.2.2.1)) c_way (hr.mono (by decide)) rfl g_way k_way b_way (by exact passes_call (takes_of rfl rfl rfl rfl) fun _ _ _ _ h => h) (ea_cons (eo_t (ex_var 11 cp_sh fun _ => rfl)) (ea_cons (eo_t (ex_var 7 cp_sh fun _ => rfl)) (ea_cons (eo_t (ex_var 5 cp_sh fun _ => rfl)) ea_nil))) (fun _ => rfl) (.inl ⟨(clo_list clo_int), fun _ _ => (.cp cp_sh .t (.cp cp_sh .t (.cp cp_sh .t .nil)))⟩) (hWE hW) (wios hio fun _ => (.eq (.un (.eq (.un (.un (.un (.un (.un (.un (.un (.un (.un (.un (.un (.un (.eq (.un (.un (.un (.eq (.un (.eq .nil))))))))))))))))))))))))) (fun v_law_stops1375 => (bx_nf (fun s => [.pn v0 (rList rInt) s, .is rInt w1184.1, .un, .is (sh (rList rInt)) v_law_begins1185, .is rInt w1172.2.1, .is (sh (rList (rPair rInt rInt))) v_law_bends1230, .is rInt w1172.2.2, .is (sh (rList rInt)) v_law_counts1229, .is rInt w1172.1, .is rInt v_law_gap1143, .is rInt v_law_last1298, .is (sh rTape) v_law_made1193, .is rInt w1142.1, .is rInt w1184.2.1, .is rInt v_law_number1250, .un, .is (rPair rInt rInt) v_law_owed1285, .is (rPair rInt rInt) w1184.2.2, .is rInt w1142.2.1, .is (sh (rList rInt)) v_law_stops1375, .is (sh (rList (rPair rInt rInt))) v_law_told1231, .un]) (fun _ => rfl) (bx_ifr (GE_ := fun e _ => e.elim) (et_w (ew_or (et_cmp op_ne vo_neI (fun _ _ => stl_ret _) (ex_len (eo_t (ex_var 19 cp_sh fun _ => rfl)) (fun _ _ => .ts) rfl f_len) (ex_bin op_add (vo_I0 fun i j => i + j) (fun _ _ => stl_ret _) (ex_bin op_mul vo_mul stl_mul ex_int (ex_len (eo_t (ex_var 5 cp_sh fun _ => rfl)) (fun _ _ => .ts) rfl f_len)) ex_int) rfl) (ew_or (et_cmp op_ne vo_neI (fun _ _ => stl_ret _) (ex_ix (eo_t (ex_var 19 cp_sh fun _ => rfl)) (ex_neg ex_int) cp_int fun _ _ => .ts) (ex_var 8 cp_int fun _ => rfl) rfl) (ew_or1 (et_cmp op_ne vo_neI (fun _ _ => stl_ret _) (ex_ix (eo_t (ex_var 19 cp_sh fun _ => rfl)) (ex_neg ex_int) cp_int fun _ _ => .ts) (ex_bin op_add (vo_I0 fun i j => i + j) (fun _ _ => stl_ret _) (ex_ix (eo_t (ex_var 3 cp_sh fun _ => rfl)) (ex_var 10 cp_int fun _ => rfl) cp_int fun _ _ => .ts) (ex_var 18 cp_int fun _ => rfl)) rfl))))) (bx_nf (fun s => [.pn v0 (rList rInt) s, .is rInt w1184.1, .un, .is (sh (rList rInt)) v_law_begins1185, .is rInt w1172.2.1, .is (sh (rList (rPair rInt rInt))) v_law_bends1230, .is rInt w1172.2.2, .is (sh (rList rInt)) v_law_counts1229, .is rInt w1172.1, .is rInt v_law_gap1143, .is rInt v_law_last1298, .is (sh rTape) v_law_made1193, .is rInt w1142.1, .is rInt w1184.2.1, .is rInt v_law_number1250, .un, .is (rPair rInt rInt) v_law_owed1285, .is (rPair rInt rInt) w1184.2.2, .is rInt w1142.2.1, .is (sh (rList rInt)) v_law_stops1375, .is (sh (rList (rPair rInt rInt))) v_law_told1231, .un]) (fun _ => rfl) (bx_ret ex_bool (wios hio fun _ => (.eq (.un (.eq (.un (.un (.un (.un (.un (.un (.un (.un (.un (.un (.un (.un (.eq (.un (.un (.un (.un (.un (.eq .nil))))))))))))))))))))))))) (bx_nf (fun s => [.pn v0 (rList rInt) s, .is rInt w1184.1, .un, .is (sh (rList rInt)) v_law_begins1185, .is rInt w1172.2.1, .is (sh (rList (rPair rInt rInt))) v_law_bends1230, .is rInt w1172.2.2, .is (sh (rList rInt)) v_law_counts1229, .is rInt w1172.1, .is rInt v_law_gap1143, .is rInt v_law_last1298, .is (sh rTape) v_law_made1193, .is rInt w1142.1, .is rInt w1184.2.1, .is rInt v_law_number1250, .un, .is (rPair rInt rInt) v_law_owed1285, .is (rPair rInt rInt) w1184.2.2, .is rInt w1142.2.1, .is (sh (rList rInt)) v_law_stops1375, .is (sh (rList (rPair rInt rInt))) v_law_told1231, .un]) (fun _ => rfl) (bx_asg 15 sc__law_td_right.nd (ex_freeze (ex_if (et_in2 (ex_var 13 cp_int fun _ => rfl) (ex_tup2 ex_int ex_int)) (ex_listRg3 (ex_bin op_sub (vo_I0 fun i j => i - j) (fun _ _ => stl_ret _) (ex_var 12 cp_int fun _ => rfl) ex_int) (ex_neg ex_int) rfl rfl f_list rfl f_range) (ex_listRg1 (ex_var 12 cp_int fun _ => rfl) rfl rfl f_list rfl f_range))) (fun v_law_order1435 => (bx_nf (fun s => [.pn v0 (rList rInt) s, .is rInt w1184.1, .un, .is (sh (rList rInt)) v_law_begins1185, .is rInt w1172.2.1, .is (sh (rList (rPair rInt rInt))) v_law_bends1230, .is rInt w1172.2.2, .is (sh (rList rInt)) v_law_counts1229, .is rInt w1172.1, .is rInt v_law_gap1143, .is rInt v_law_last1298, .is (sh rTape) v_law_made1193, .is rInt w1142.1, .is rInt w1184.2.1, .is rInt v_law_number1250, .is (sh (rList rInt)) v_law_order1435, .is (rPair rInt rInt) v_law_owed1285, .is (rPair rInt rInt) w1184.2.2, .is rInt w1142.2.1, .is (sh (rList rInt)) v_law_stops1375, .is (sh (rList (rPair rInt rInt))) v_law_told1231, .un]) (fun _ => rfl) (bx_if (GJ := fun (n1460 : (List Int)) s => [.pn v0 (rList rInt) s, .is rInt w1184.1, .un, .is (sh (rList rInt)) v_law_begins1185, .is rInt w1172.2.1, .is (sh (rList (rPair rInt rInt))) v_law_bends1230, .is rInt w1172.2.2, .is (sh (rList rInt)) v_law_counts1229, .is rInt w1172.1, .is rInt v_law_gap1143, .is rInt v_law_last1298, .is (sh rTape) v_law_made1193, .is rInt w1142.1, .is rInt w1184.2.1, .is rInt v_law_number1250, .is (sh (rList rInt)) n1460, .is (rPair rInt rInt) v_law_owed1285, .is (rPair rInt rInt) w1184.2.2, .is rInt w1142.2.1, .is (sh (rList rInt)) v_law_stops1375, .is (sh (rList (rPair rInt rInt))) v_law_told1231, .un]) (et_cmp op_eq vo_eqI (fun _ _ => stl_ret _) (ex_var 13 cp_int fun _ => rfl) ex_int rfl) (bx_nf (fun s => [.pn v0 (rList rInt) s, .is rInt w1184.1, .un, .is (sh (rList rInt)) v_law_begins1185, .is rInt w1172.2.1, .is (sh (rList (rPair rInt rInt))) v_law_bends1230, .is rInt w1172.2.2, .is (sh (rList rInt)) v_law_counts1229, .is rInt w1172.1, .is rInt v_law_gap1143, .is rInt v_law_last1298, .is (sh rTape) v_law_made1193, .is rInt w1142.1, .is rInt w1184.2.1, .is rInt v_law_number1250, .is (sh (rList rInt)) v_law_order1435, .is (rPair rInt rInt) v_law_owed1285, .is (rPair rInt rInt) w1184.2.2, .is rInt w1142.2.1, .is (sh (rList rInt)) v_law_stops1375, .is (sh (rList (rPair rInt rInt))) v_law_told1231, .un]) (fun _ => rfl) (bx_asg 15 sc__law_td_right.nd (ex_freeze (ex_cat (eo_t (ex_listRg2 ex_int (ex_var 12 cp_int fun _ => rfl) rfl rfl f_list rfl f_range)) (eo_t (ex_lst (r := rInt) (el_cons ex_int el_nil))) cp_int (fun _ _ => .t) (fun _ _ => .t))) (fun v_law_order1461 => (bx_end v_law_order1461 fun _ => (.eq (.eq (.eq (.eq (.eq (.eq (.eq (.eq (.eq (.eq (.eq (.eq (.eq (.eq (.eq (.eq (.eq (.eq (.eq (.eq (.eq (.eq .nil)))))))))))))))))))))))) inferInstance (fun _ => rfl))) (bx_end v_law_order1435 fun _ => (.eq (.eq (.eq (.eq (.eq (.eq (.eq (.eq (.eq (.eq (.eq (.eq (.eq (.eq (.eq (.eq (.eq (.eq (.eq (.eq (.eq (.eq .nil))))))))))))))))))))))) (fun n1460 => (bx_nf (fun s => [.pn v0 (rList rInt) s, .is rInt w1184.1, .un, .is (sh (rList rInt)) v_law_begins1185, .is rInt w1172.2.1, .is (sh (rList (rPair rInt rInt))) v_law_bends1230, .is rInt w1172.2.2, .is (sh (rList rInt)) v_law_counts1229, .is rInt w1172.1, .is rInt v_law_gap1143, .is rInt v_law_last1298, .is (sh rTape) v_law_made1193, .is rInt w1142.1, .is rInt w1184.2.1, .is rInt v_law_number1250, .is (sh (rList rInt)) n1460, .is (rPair rInt rInt) v_law_owed1285, .is (rPair rInt rInt) w1184.2.2, .is rInt w1142.2.1, .is (sh (rList rInt)) v_law_stops1375, .is (sh (rList (rPair rInt rInt))) v_law_told1231, .un]) (fun _ => rfl) (bx_ifr (GE_ := fun e _ => e.elim) (et_neD hr.units (eo_t (ex_call (E := E) (fun q1475 => (q1475.1, q1475.2.1, q1475.2.2.1)) c_trimmed (hr.mono (by decide)) rfl g_trimmed k_trimmed b_trimmed (by exact passes_call (takes_of rfl rfl rfl rfl) fun _ _ _ _ h => h) (ea_cons (eo_t (ex_var 11 cp_sh fun _ => rfl)) (ea_cons (eo_t (ex_var 7 cp_sh fun _ => rfl)) (ea_cons (eo_t (ex_var 5 cp_sh fun _ => rfl)) ea_nil))) (fun _ => rfl) (.inl ⟨(clo_list (clo_pair clo_int clo_int)), fun _ _ => (.cp cp_sh .t (.cp cp_sh .t (.cp cp_sh .t .nil)))⟩) (hWE hW) (wios hio fun _ => (.eq (.un (.eq (.un (.un (.un (.un (.un (.un (.un (.un (.un (.un (.un (.un (.un (.un (.un (.un (.un (.un (.eq .nil))))))))))))))))))))))))) (eo_t (ex_call (E := E) (fun q1491 => (q1491.1, q1491.2.1)) c__law_td_kind_row (hr.mono (by decide)) rfl g__law_td_kind_row k__law_td_kind_row b__law_td_kind_row (by exact passes_call (takes_of rfl rfl rfl rfl) fun _ _ _ _ h => h) (ea_cons (eo_t (ex_ix (eo_t (ex_lst (r := rInt) (el_cons ex_int (el_cons ex_int (el_cons ex_int (el_cons ex_int el_nil)))))) (ex_var 13 cp_int fun _ => rfl) cp_int fun _ _ => .t)) (ea_cons (eo_t (ex_var 12 cp_int fun _ => rfl)) ea_nil)) (fun _ => rfl) (.inl ⟨(clo_list (clo_pair clo_int clo_int)), fun _ _ => (.cp cp_int .t (.cp cp_int .t .nil))⟩) (hWE hW) (wios hio fun _ => (.eq (.un (.eq (.un (.un (.un (.un (.un (.un (.un (.un (.un (.un (.un (.un (.un (.un (.un (.un (.un (.un (.eq .nil))))))))))))))))))))))))) (fun _ _ => .mk (en_L (en_P enc_int enc_int)) .t) (fun _ _ => .mk (en_L (en_P enc_int enc_int)) .t)) (bx_nf (fun s => [.pn v0 (rList rInt) s, .is rInt w1184.1, .un, .is (sh (rList rInt)) v_law_begins1185, .is rInt w1172.2.1, .is (sh (rList (rPair rInt rInt))) v_law_bends1230, .is rInt w1172.2.2, .is (sh (rList rInt)) v_law_counts1229, .is rInt w1172.1, .is rInt v_law_gap1143, .is rInt v_law_last1298, .is (sh rTape) v_law_made1193, .is rInt w1142.1, .is rInt w1184.2.1, .is rInt v_law_number1250, .is (sh (rList rInt)) n1460, .is (rPair rInt rInt) v_law_owed1285, .is (rPair rInt rInt) w1184.2.2, .is rInt w1142.2.1, .is (sh (rList rInt)) v_law_stops1375, .is (sh (rList (rPair rInt rInt))) v_law_told1231, .un]) (fun _ => rfl) (bx_ret ex_bool (wios hio fun _ => (.eq (.un (.eq (.un (.un (.un (.un (.un (.un (.un (.un (.un (.un (.un (.un (.un (.un (.un (.un (.un (.un (.eq .nil))))))))))))))))))))))))) (bx_nf (fun s => [.pn v0 (rList rInt) s, .is rInt w1184.1, .un, .is (sh (rList rInt)) v_law_begins1185, .is rInt w1172.2.1, .is (sh (rList (rPair rInt rInt))) v_law_bends1230, .is rInt w1172.2.2, .is (sh (rList rInt)) v_law_counts1229, .is rInt w1172.1, .is rInt v_law_gap1143, .is rInt v_law_last1298, .is (sh rTape) v_law_made1193, .is rInt w1142.1, .is rInt w1184.2.1, .is rInt v_law_number1250, .is (sh (rList rInt)) n1460, .is (rPair rInt rInt) v_law_owed1285, .is (rPair rInt rInt) w1184.2.2, .is rInt w1142.2.1, .is (sh (rList rInt)) v_law_stops1375, .is (sh (rList (rPair rInt rInt))) v_law_told1231, .un]) (fun _ => rfl) (bx_ret (ex_eqD hr.units (eo_t (ex_call (E := E) (fun q1502 => (q1502.1, q1502.2.1, q1502.2.2.1)) c_reading_order (hr.mono (by decide)) rfl g_reading_order k_reading_order b_reading_order (by exact passes_call (takes_of rfl rfl rfl rfl) fun _ _ _ _ h => h) (ea_cons (eo_t (ex_var 11 cp_sh fun _ => rfl)) (ea_cons (eo_t (ex_var 7 cp_sh fun _ => rfl)) (ea_cons (eo_t (ex_var 5 cp_sh fun _ => rfl)) ea_nil))) (fun _ => rfl) (.inl ⟨(clo_list clo_int), fun _ _ => (.cp cp_sh .t (.cp cp_sh .t (.cp cp_sh .t .nil)))⟩) (hWE hW) (wios hio fun _ => (.eq (.un (.eq (.un (.un (.un (.un (.un (.un (.un (.un (.un (.un (.un (.un (.un (.un (.un (.un (.un (.un (.eq .nil))))))))))))))))))))))))) (eo_t (ex_var 15 cp_sh fun _ => rfl)) (fun _ _ => .mk (en_L enc_int) .t) (fun _ _ => .mk (en_L enc_int) .ts)) (wios hio fun _ => (.eq (.un (.eq (.un (.un (.un (.un (.un (.un (.un (.un (.un (.un (.un (.un (.un (.un (.un (.un (.un (.un (.eq .nil)))))))))))))))))))))))))))) inferInstance))) inferInstance (fun _ => rfl)))))) inferInstance (fun _ => rfl)))))))) inferInstance (fun _ => rfl)))) inferInstance (fun _ => rfl)))))) inferInstance (fun _ => rfl)))) (fun _ => rfl)))) inferInstance inferInstance (fun _ => rfl) (fun _ => rfl)))) inferInstance (fun _ => rfl)))) (fun _ => rfl)))) inferInstance inferInstance))) inferInstance inferInstance))) inferInstance (fun _ => rfl)))) inferInstance inferInstance))⟩
theorem sc_law : FnScope ["_law_script", "_law_rank"] ["_law_script"] (defScope (Hd.tp 41)) := ⟨rfl, rfl, rfl, by decide +kernel, rfl, by decide +kernel, by decide +kernel⟩
theorem ok_law (f_len : mg "len" = none) (f_max : mg "max" = none) (f_min : mg "min" = none) (f_range : mg "range" = none) {d__law_td_right : FuncData} (c__law_td_right : FnG P w K mg base 7 (ga K "_law_td_right") d__law_td_right ["_law_sack"] (SpI K 1 (rList rInt) (fun u : Unit => []) rBool m__law_td_right)) (g__law_td_right : mg "_law_td_right" = some (.ref (ga K "_law_td_right"))) (k__law_td_right : PySem.W.keepIn K (.ref (ga K "_law_td_right")) = true) (b__law_td_right : Binds K d__law_td_right ["_law_sack"] []) {d__law_td_sack : FuncData} (c__law_td_sack : FnOk P w K mg base (L2.CX P w) 1 (ga K "_law_td_sack") d__law_td_sack ["_law_script", "_law_rank"] (SpP K 2 (fun u : ((List Int) × Int) => [.is rScr u.1, .is rInt u.2]) (rList rInt) m__law_td_sack)) (g__law_td_sack : mg "_law_td_sack" = some (.ref (ga K "_law_td_sack"))) (k__law_td_sack : PySem.W.keepIn K (.ref (ga K "_law_td_sack")) = true) (b__law_td_sack : Binds K d__law_td_sack ["_law_script", "_law_rank"] []) (FD : FunD K "law" "law" (defArgs (Hd.tp 41)) (defBody (Hd.tp 41)) (defScope (Hd.tp 41)) [] [] (ga K "law") fd) : FnG P w K mg base 8 (ga K "law") fd ["_law_script"] (SpP K 1 (fun u : (List Int) => [.is rScr u]) rBool m_law) :=
  fnG_pure (k := 7) FD sc_law o_law (fun _ => rfl) fun u cdv A outer s H E hr hgd F hio hW => ⟨_, (bx_nf (fun s => [.is rScr u, .un]) (fun _ => rfl) (bx_for (Gt := fun (l1506 : Unit) s (x1514 : Int) => [.is rScr u, .is rInt x1514]) (passes_of rfl) rfl (fun (l1506 : Unit) s => [.is rScr u, .un]) () (ei_rng1 (ex_max2 ex_int (ex_min2 ex_int (ex_lenScr (eo_t (ex_var 0 cp_scr fun _ => rfl)) (fun _ _ => .t) rfl f_len) rfl f_min) rfl f_max) rfl f_range) (fun _ => (.eq (.eq .nil))) (fun _ _ => trivial) (fun l1506 _ => (eg_name (i := 1) rfl sc_law.nd)) (fun l1506 x1514 => (bx_nf (fun s => [.is rScr u, .is rInt x1514]) (fun _ => rfl) (bx_ifr (GE_ := fun e _ => e.elim) (et_not (et_val (ex_callIoTG (E := E) hgd (fun q1525 => ()) c__law_td_right (hr.mono (by decide)) rfl g__law_td_right k__law_td_right b__law_td_right (by exact passes_call (takes_of rfl rfl rfl rfl) fun _ _ _ _ h => h) (clo_list clo_int) (ea_cons (eo_t (ex_call (E := E) (fun q1530 => (q1530.1, q1530.2.1)) c__law_td_sack (hr.mono (by decide)) rfl g__law_td_sack k__law_td_sack b__law_td_sack (by exact passes_call (takes_of rfl rfl rfl rfl) fun _ _ _ _ h => h) (ea_cons (eo_t (ex_var 0 cp_scr fun _ => rfl)) (ea_cons (eo_t (ex_var 1 cp_int fun _ => rfl)) ea_nil)) (fun _ => rfl) (.inl ⟨(clo_list clo_int), fun _ _ => (.cp cp_scr .t (.cp cp_int .t .nil))⟩) (hWE hW) (wio hio fun _ => (.un (.un .nil))))) ea_nil) (fun _ => rfl) (fun _ _ => .nil) (hWE hW) (wio hio fun _ => (.un (.un .nil)))))) (bx_nf (fun s => [.is rScr u, .is rInt x1514]) (fun _ => rfl) (bx_ret ex_bool (wio hio fun _ => (.un (.un .nil))))) (bx_end () fun _ => (.eq (.un .nil)))))) (fun l1506 => (bx_nf (fun s => [.is rScr u, .un]) (fun _ => rfl) (bx_ret ex_bool (wio hio fun _ => (.un (.eq .nil)))))) inferInstance inferInstance))⟩
end
end Tk

set_option Elab.async false
set_option linter.all false
set_option maxRecDepth 100000
set_option maxHeartbeats 4000000
namespace Td
/-! ### the mirrors, plainly -/
section
variable {S T U : Type}
theorem bnd_ret (a : T) (f : T → SM S U) : bnd (ret a) f = f a := (rfl)
theorem bnd_assoc {V : Type} (m : SM S T) (f : T → SM S U) (g : U → SM S V) : bnd (bnd m f) g = bnd m fun a => bnd (f a) g := by
  funext s
  unfold bnd
  cases m s <;> rfl
theorem bnd_id (m : SM S T) : bnd m (fun a => ret a) = m := by
  funext s
  unfold bnd
  cases m s <;> rfl
theorem bnd_stk (f : T → SM S U) : bnd stk f = stk := (rfl)
theorem grd_t {c : Prop} [Decidable c] (h : c) : (grd c : SM S Unit) = ret () := by
  funext s
  unfold grd
  rw [if_pos h]; rfl
theorem lft_ret (a : T) : (lft (ret a) : SM S T) = ret a := (rfl)
theorem nxc_ret (a : T) : (nxc (ret a) : SM S T) = ret a := (rfl)
theorem esc_ret {N L R : Type} (b : R) : (esc (ret (.rt b)) : SM S (Fl N L R)) = ret (.rt b) := (rfl)
theorem runB_rt {R : Type} (b : R) : runB (ret (.rt b) : SM S (Fl Empty Empty R)) = ret b := (rfl)
theorem runB_bnd {R : Type} (m : SM S T) (k : T → SM S (Fl Empty Empty R)) : runB (bnd m k) = bnd m fun a => runB (k a) := by unfold runB; rw [bnd_assoc]
theorem bnd_ite {c : Prop} [Decidable c] (a b : SM S T) (f : T → SM S U) : bnd (if c then a else b) f = if c then bnd a f else bnd b f := by split <;> rfl
theorem esc_bnd {N L R : Type} (m : SM S T) (k : T → SM S (Fl Empty L R)) : (esc (bnd m k) : SM S (Fl N L R)) = bnd m fun a => esc (k a) := by unfold esc; rw [bnd_assoc]
theorem thn_bnd {N N' L R : Type} (m : SM S T) (k : T → SM S (Fl N L R)) (f : N → SM S (Fl N' L R)) : thn_ (bnd m k) f = bnd m fun a => thn_ (k a) f := by unfold thn_; rw [bnd_assoc]
theorem thn_nx {N N' L R : Type} (n : N) (f : N → SM S (Fl N' L R)) : thn_ (ret (.nx n)) f = f n := (rfl)
theorem thn_rt {N N' L R : Type} (b : R) (f : N → SM S (Fl N' L R)) : thn_ (ret (.rt b) : SM S (Fl N L R)) f = ret (.rt b) := (rfl)
theorem lpM_dn {N L L' R : Type} (l : L) (k : L → SM S (Fl N L' R)) : lpM (ret (.dn l)) k = k l := (rfl)
theorem lpM_rt {N L L' R : Type} (b : R) (k : L → SM S (Fl N L' R)) : lpM (ret (.rt b) : SM S (Lp L R)) k = ret (.rt b) := (rfl)
/-- what holds behind a computation that raises nothing -/
def Hw (m : SM S T) (s : S) (P : T → S → Prop) : Prop := (m s).wp P fun _ _ => False
theorem hw_ret {a : T} {s : S} {P : T → S → Prop} (h : P a s) : Hw (ret a) s P := h
theorem hw_bnd {m : SM S T} {k : T → SM S U} {s : S} {P : U → S → Prop} (h : Hw m s fun a s' => Hw (k a) s' P) : Hw (bnd m k) s P := bnd_wp h
theorem hw_mono {m : SM S T} {s : S} {P P' : T → S → Prop} (h : Hw m s P) (k : ∀ a s, P a s → P' a s) : Hw m s P' := wp_mono h k fun _ _ z => z
theorem hw_grd {c : Prop} [Decidable c] {s : S} {P : Unit → S → Prop} (hc : c) (h : P () s) : Hw (grd c) s P := by
  rw [grd_t hc]; exact h
theorem hw_ok {m : SM S T} {s : S} {P : T → S → Prop} (h : Hw m s P) : ∃ a s', m s = .ok a s' ∧ P a s' := by
  unfold Hw at h
  cases e : m s with
  | ok a s' => rw [e] at h; exact ⟨a, s', rfl, h⟩
  | exc e' s' => rw [e] at h; exact h.elim
  | stuck => rw [e] at h; exact h.elim
theorem hw_lft {m : SM Unit T} {s : S} {P : T → S → Prop} (h : Hw m () fun a _ => P a s) : Hw (lft m) s P := by
  obtain ⟨a, s', e, hp⟩ := hw_ok h
  unfold Hw lft
  rw [e]; exact hp
theorem hw_sub {S' : Type} {m : SM S' T} {s0 : S'} {s : S} {P : T × S' → S → Prop} (h : Hw m s0 fun a s' => P (a, s') s) : Hw (subM m s0) s P := by
  obtain ⟨a, s', e, hp⟩ := hw_ok h
  unfold Hw subM
  rw [e]; exact hp
/-- a for with an invariant -/
theorem hw_for {A L R : Type} {f : L → A → SM S (Fl L L R)} (J : Nat → L → S → Prop) (Rt : R → S → Prop) : ∀ (xs : List A) (i : Nat) (l : L) (s : S), J i l s →
    (∀ j a l s, xs[j]? = some a → J (i + j) l s → Hw (f l a) s fun fl s' => match fl with | .nx l' => J (i + j + 1) l' s' | .ct l' => J (i + j + 1) l' s' | .bk _ => False | .rt b => Rt b s') →
    Hw (forM_ xs f l) s fun e s' => match e with | .dn l' => J (i + xs.length) l' s' | .rt b => Rt b s'
  | [], i, l, s, h, _ => h
  | x :: xs, i, l, s, h, k => by
    refine hw_bnd (hw_mono (k 0 x l s rfl h) fun fl s' hf => ?_)
    have next : ∀ l', J (i + 1) l' s' → Hw (forM_ xs f l') s' fun e s' => match e with | .dn l' => J (i + (xs.length + 1)) l' s' | .rt b => Rt b s' := fun l' hl => by
      have z := hw_for J Rt xs (i + 1) l' s' hl fun j a l s e hj => by
        have y := k (j + 1) a l s (by simpa using e) (by rw [show i + (j + 1) = i + 1 + j by omega]; exact hj)
        rw [show i + (j + 1) + 1 = i + 1 + j + 1 by omega] at y
        exact y
      rw [show i + 1 + xs.length = i + (xs.length + 1) by omega] at z
      exact z
    cases fl with
    | nx l' => exact next l' hf
    | ct l' => exact next l' hf
    | bk l' => exact hf.elim
    | rt b => exact hf
end
theorem log2_lt {x : Int} {k : Nat} (h0 : 0 ≤ x) (h : x < 2 ^ k) (hk : 0 < k) : x.natAbs.log2 < k := by
  refine PySem.Flt.log2_lt_of hk ?_
  have e : ((x.natAbs : Nat) : Int) = x := Int.natAbs_of_nonneg h0
  have : ((x.natAbs : Nat) : Int) < ((2 ^ k : Nat) : Int) := by rw [e]; push_cast; exact h
  exact_mod_cast this
/-- a sack of draws, at most n drawn -/
def Gd (n : Nat) (s : List Int) : Prop := ∃ a b c : Int, s = [a, b, c] ∧ 0 ≤ a ∧ (0 ≤ b ∧ b < 10 ^ 37) ∧ 0 ≤ c ∧ c ≤ n
end Td

set_option Elab.async false
set_option linter.all false
set_option maxRecDepth 100000
set_option maxHeartbeats 4000000
namespace Tk
open Td
theorem powM_ok {S : Type} {i j : Int} (h : CPowV i j) : (powM i j : SM S Int) = ret (i ^ j.toNat) := by unfold powM grdI; rw [grd_t h]; rfl
theorem mulM_ok {S : Type} {i j : Int} (h : L2.CMul i j) : (mulM i j : SM S Int) = ret (i * j) := by unfold mulM grdI; rw [grd_t h]; rfl
theorem mulWM_ok {S : Type} {i j : Int} (h : L2.CMulW i j) : (mulWM i j : SM S Int) = ret (i * j) := by unfold mulWM grdI; rw [grd_t h]; rfl
theorem divWM_ok {S : Type} {i j : Int} (h : L2.CDivW i j) : (divWM i j : SM S Int) = ret (i / j) := by unfold divWM grdI; rw [grd_t h]; rfl
theorem modM_ok {S : Type} {i j : Int} (h : 0 < j) : (modM i j : SM S Int) = ret (i % j) := by
  have h' : j ≠ 0 := by omega
  unfold modM grdI
  rw [grd_t h']
  show ret (i.fmod j) = _
  rw [Int.fmod_eq_emod_of_nonneg i (by omega)]
theorem stIx0 {a b c : Int} : (stIx 0 : SM (List Int) Int) [a, b, c] = .ok a [a, b, c] := rfl
theorem stIx1 {a b c : Int} : (stIx 1 : SM (List Int) Int) [a, b, c] = .ok b [a, b, c] := rfl
theorem stIx2 {a b c : Int} : (stIx 2 : SM (List Int) Int) [a, b, c] = .ok c [a, b, c] := rfl
theorem stSet0 {a b c v : Int} : (stSet 0 v : SM (List Int) Unit) [a, b, c] = .ok () [v, b, c] := rfl
theorem stSet2 {a b c v : Int} : (stSet 2 v : SM (List Int) Unit) [a, b, c] = .ok () [a, b, v] := rfl
theorem hw_ix0 {a b c : Int} {P : Int → List Int → Prop} (h : P a [a, b, c]) : Hw (stIx 0) [a, b, c] P := h
theorem hw_ix1 {a b c : Int} {P : Int → List Int → Prop} (h : P b [a, b, c]) : Hw (stIx 1) [a, b, c] P := h
theorem hw_ix2 {a b c : Int} {P : Int → List Int → Prop} (h : P c [a, b, c]) : Hw (stIx 2) [a, b, c] P := h
theorem hw_set0 {a b c v : Int} {P : Unit → List Int → Prop} (h : P () [v, b, c]) : Hw (stSet 0 v) [a, b, c] P := h
theorem hw_set2 {a b c v : Int} {P : Unit → List Int → Prop} (h : P () [a, b, v]) : Hw (stSet 2 v) [a, b, c] P := h
theorem hw_pick {u : Int} {n : Nat} {s : List Int} (h0 : 0 < u) (hu : u < 2 ^ 200) (hn : n < 2 ^ 100) (hg : Gd n s) : Hw (m__law_td_pick u) s fun v s' => (0 ≤ v ∧ v < u) ∧ Gd (n + 1) s' := by
  obtain ⟨a, b, c, e, ha, ⟨hb0, hb1⟩, hc0, hc1⟩ := hg
  subst e
  have cu : L2.CDivW a u := ⟨h0, by have := log2_lt (by omega : 0 ≤ u) hu (by decide); omega⟩
  unfold m__law_td_pick o__law_td_pick
  simp only [bnd_assoc, bnd_ret, runB_bnd]
  refine hw_bnd (hw_ix0 ?_)
  by_cases h1 : decide (1 < a) = true
  · simp only [h1, if_true, esc_bnd, runB_bnd, bnd_assoc, bnd_ret, esc_ret, runB_rt]
    refine hw_bnd (hw_ix0 ?_)
    rw [modM_ok h0, bnd_ret]
    refine hw_bnd (hw_ix0 ?_)
    rw [divWM_ok cu, bnd_ret]
    refine hw_bnd (hw_set0 (hw_ret ⟨⟨Int.emod_nonneg _ (by omega), Int.emod_lt_of_pos _ h0⟩, a / u, b, c, rfl, Int.ediv_nonneg ha (by omega), ⟨hb0, hb1⟩, hc0, by push_cast; omega⟩))
  · simp only [h1, if_false, runB_bnd, bnd_assoc, bnd_ret, runB_rt, Bool.false_eq_true]
    refine hw_bnd (hw_ix2 (hw_bnd (hw_set2 ?_)))
    refine hw_bnd (hw_ix1 (hw_bnd (hw_ix2 ?_)))
    have hN : (n : Int) < 2 ^ 100 := by exact_mod_cast hn
    have hc2 : c + 1 ≤ 2 ^ 100 := by omega
    have lc : (c + 1).natAbs.log2 < 101 := log2_lt (by omega) (by omega) (by decide)
    have cm : ∀ k : Int, 0 ≤ k → k < 2 ^ 40 → L2.CMulW k (c + 1) := fun k k0 k1 => by
      have := log2_lt k0 k1 (by decide)
      unfold L2.CMulW
      omega
    rw [mulWM_ok (cm _ (by decide) (by decide)), bnd_ret]
    have x0 : (0 : Int) ≤ b + 1300190417 * (c + 1) := by omega
    have x1 : b + 1300190417 * (c + 1) < 2 ^ 200 := by omega
    rw [powM_ok ⟨x0, by decide, by have := log2_lt x0 x1 (by decide); show _ * 3 ≤ _; omega⟩, bnd_ret, powM_ok (by decide), bnd_ret, modM_ok (by decide), bnd_ret]
    refine hw_bnd (hw_ix2 ?_)
    rw [mulWM_ok (cm _ (by decide) (by decide)), bnd_ret]
    have y0 := Int.emod_nonneg ((b + 1300190417 * (c + 1)) ^ (3 : Int).toNat) (show ((10 : Int) ^ (40 : Int).toNat + 121) ≠ 0 by decide)
    have y1 := Int.emod_lt_of_pos ((b + 1300190417 * (c + 1)) ^ (3 : Int).toNat) (show 0 < ((10 : Int) ^ (40 : Int).toNat + 121) by decide)
    generalize (b + 1300190417 * (c + 1)) ^ (3 : Int).toNat % ((10 : Int) ^ (40 : Int).toNat + 121) = y at *
    have y2 : y < 2 ^ 150 := Int.lt_trans y1 (by decide)
    have z0 : 0 ≤ y + 15485863 * (c + 1) := by omega
    have z1 : y + 15485863 * (c + 1) < 2 ^ 200 := by omega
    rw [powM_ok ⟨z0, by decide, by have := log2_lt z0 z1 (by decide); show _ * 2 ≤ _; omega⟩, bnd_ret, powM_ok (by decide), bnd_ret, modM_ok (by decide), bnd_ret, divWM_ok ⟨by decide, by decide⟩, bnd_ret, modM_ok h0, bnd_ret]
    exact hw_ret ⟨⟨Int.emod_nonneg _ (by omega), Int.emod_lt_of_pos _ h0⟩, a, b, c + 1, rfl, ha, ⟨hb0, hb1⟩, by omega, by push_cast; omega⟩
end Tk

set_option Elab.async false
set_option linter.all false
set_option maxRecDepth 100000
set_option maxHeartbeats 4000000
namespace Tk
open Td
theorem atI_nn {T : Type} {xs : List T} {i : Int} (h0 : 0 ≤ i) (h1 : i < xs.length) : L2.atI xs i = some (xs[i.toNat]'(by omega)) := by
  unfold L2.atI L2.ixN
  rw [if_pos h0, if_pos h1]
  exact List.getElem?_eq_getElem (by omega)
theorem atI_ng {T : Type} {xs : List T} {i : Int} (h0 : i < 0) (h1 : -(xs.length : Int) ≤ i) : L2.atI xs i = some (xs[(i + xs.length).toNat]'(by omega)) := by
  unfold L2.atI L2.ixN
  rw [if_neg (by omega), if_pos h1]
  exact List.getElem?_eq_getElem (by omega)
theorem ixM_ok {S T : Type} {xs : List T} {i : Int} {a : T} (h : L2.atI xs i = some a) : (ixM xs i : SM S T) = ret a := by unfold ixM; rw [h]
theorem hw_sack {ns : List Int} {r : Int} (h0 : 0 ≤ r) : Hw (m__law_td_sack (ns, r)) () fun s _ => Gd 0 s := by
  unfold m__law_td_sack o__law_td_sack
  simp only [bnd_assoc, bnd_ret, runB_bnd, bnd_ite]
  have main : ∀ cell : Int, Hw (bnd (powM 10 18) fun a631 => bnd (mulM cell 52361) fun a608 => bnd (mulM r 9176429) fun a609 => bnd (powM 10 36) fun a618 => bnd (modM (a608 + a609 + 7919) (a618 + 67)) fun a572 =>
      bnd (lenG [if (if cell < 0 then -cell else cell) - a631 > 0 then (if cell < 0 then -cell else cell) - a631 else 0, a572, 0]) fun _ => runB (ret (Fl.rt [if (if cell < 0 then -cell else cell) - a631 > 0 then (if cell < 0 then -cell else cell) - a631 else 0, a572, 0]) : SM Unit (Fl Empty Empty (List Int)))) () fun s _ => Gd 0 s := by
    intro cell
    rw [powM_ok (by decide), bnd_ret, mulM_ok (.inr (by decide)), bnd_ret, mulM_ok (.inr (by decide)), bnd_ret, powM_ok (by decide), bnd_ret, modM_ok (by decide), bnd_ret, lenG, grd_t (by simp [PySem.sizeLine_eq]), bnd_ret, runB_rt]
    refine hw_ret ⟨_, _, _, rfl, ?_, ⟨Int.emod_nonneg _ (by decide), Int.lt_trans (Int.emod_lt_of_pos _ (by decide)) (by decide)⟩, by decide, by decide⟩
    split <;> omega
  by_cases hk : decide (r < (ns.length : Int)) = true
  · have hlt : r < (ns.length : Int) := of_decide_eq_true hk
    simp only [hk, if_true]
    rw [ixM_ok (atI_nn h0 hlt), bnd_ret]
    simp only [runB_bnd]
    exact main _
  · simp only [hk, if_false, Bool.false_eq_true, runB_bnd]
    exact main 0
end Tk

set_option Elab.async false
set_option linter.all false
set_option maxRecDepth 100000
set_option maxHeartbeats 4000000
namespace Td
theorem runP_nx {S : Type} : runP (ret (.nx ()) : SM S (Fl Unit Empty Unit)) = ret () := (rfl)
theorem runP_bnd {S T : Type} (m : SM S T) (k : T → SM S (Fl Unit Empty Unit)) : runP (bnd m k) = bnd m fun a => runP (k a) := by unfold runP; rw [bnd_assoc]
section
variable {S A B C L R : Type}
/-- a comprehension whose items are plain -/
theorem lcM_ret {f : A → SM S (Option B)} (g : A → Option B) : ∀ (xs : List A) (acc : List B), (∀ x, x ∈ xs → f x = ret (g x)) → acc.length + xs.length ≤ PySem.sizeLine → lcM f acc xs = ret (acc ++ xs.filterMap g)
  | [], acc, _, _ => by unfold lcM; simp
  | x :: xs, acc, h, hz => by
    unfold lcM
    rw [h x (List.mem_cons_self ..), nxc_ret, bnd_ret]
    rw [List.length_cons] at hz
    cases e : g x with
    | none =>
      rw [List.filterMap_cons_none e]
      exact lcM_ret g xs acc (fun y hy => h y (List.mem_cons_of_mem _ hy)) (by omega)
    | some b =>
      simp only
      rw [grd_t (by omega), bnd_ret, lcM_ret g xs (acc ++ [b]) (fun y hy => h y (List.mem_cons_of_mem _ hy)) (by simp; omega), List.filterMap_cons_some e, List.append_assoc]
      rfl
theorem lcIt_ret (k : Bool) (b : B) : lcIt (ret k : SM S Bool) (ret b) = ret (if k then some b else none) := by
  unfold lcIt
  rw [bnd_ret]
  cases k <;> rfl
theorem lcIt_t (b : B) : lcIt (ret true : SM S Bool) (ret b) = ret (some b) := (rfl)
/-- two fors, plain -/
theorem lc2M_ret {mt : A → SM S Bool} {mi : A → SM S (List B)} {f : A → B → SM S (Option C)} (t : A → Bool) (i : A → List B) (g : A → B → Option C) : ∀ (xs : List A) (acc : List C), (∀ x, x ∈ xs → mt x = ret (t x) ∧ mi x = ret (i x) ∧ ∀ y, y ∈ i x → f x y = ret (g x y)) →
    acc.length + (xs.map fun x => (i x).length).sum ≤ PySem.sizeLine → lc2M mt mi f acc xs = ret (acc ++ xs.flatMap fun x => if t x then (i x).filterMap (g x) else [])
  | [], acc, _, _ => by unfold lc2M; simp
  | x :: xs, acc, h, hz => by
    obtain ⟨h1, h2, h3⟩ := h x (List.mem_cons_self ..)
    unfold lc2M
    rw [List.map_cons, List.sum_cons] at hz
    rw [h1, nxc_ret, bnd_ret, List.flatMap_cons]
    have rest : ∀ acc' : List C, acc'.length ≤ acc.length + (i x).length → lc2M mt mi f acc' xs = ret (acc' ++ xs.flatMap fun x => if t x then (i x).filterMap (g x) else []) := fun acc' ha => lc2M_ret t i g xs acc' (fun y hy => h y (List.mem_cons_of_mem _ hy)) (by omega)
    cases e : t x with
    | false =>
      simp only [Bool.false_eq_true, if_false, List.nil_append]
      exact rest acc (by omega)
    | true =>
      simp only [if_true]
      rw [h2, nxc_ret, bnd_ret, lcM_ret (g x) _ _ h3 (by omega), bnd_ret, rest _ (by rw [List.length_append]; have := List.length_filterMap_le (g x) (i x); omega), List.append_assoc]
/-- a for that goes on at each item -/
theorem forM_nx {f : L → A → SM S (Fl L L R)} (h : L → A → L) : ∀ (xs : List A) (l : L), (∀ ys x zs, xs = ys ++ x :: zs → f (ys.foldl h l) x = ret (.nx (h (ys.foldl h l) x))) → forM_ xs f l = ret (.dn (xs.foldl h l))
  | [], l, _ => rfl
  | x :: xs, l, k => by
    unfold forM_
    have z := k [] x xs rfl
    rw [List.foldl_nil] at z
    rw [z, bnd_ret]
    exact forM_nx h xs (h l x) fun ys y zs e => k (x :: ys) y zs (by rw [e]; rfl)
end
end Td

set_option Elab.async false
set_option linter.all false
namespace Tp
/-! ### rows, plainly -/
abbrev Tape := Int × List (Int × Int)
def bg (t : Tape) (i : Int) : Int := (t.2.getD i.toNat (0, 0)).1
def en (t : Tape) (i : Int) : Int := (t.2.getD i.toNat (0, 0)).2
def inD (f l x : Int) : Bool := if decide (f ≤ x) = true then decide (x ≤ l) else false
theorem inD_iff {f l x : Int} : inD f l x = true ↔ f ≤ x ∧ x ≤ l := by
  unfold inD
  by_cases h : f ≤ x <;> simp [h]
def fr : List Int → List (Int × Int) → List (List Int)
  | u, [] => [u]
  | u, d :: r => u.filter (inD d.1 d.2) :: fr (u.filter fun x => !inD d.1 d.2 x) r
theorem fr_ne (u : List Int) (row : List (Int × Int)) : fr u row ≠ [] := by
  cases row <;> simp [fr]
theorem fr_len : ∀ (u : List Int) (row : List (Int × Int)), (fr u row).length = row.length + 1
  | _, [] => rfl
  | u, d :: r => by simp [fr, fr_len]
theorem fr_mem : ∀ {u : List Int} {row : List (Int × Int)} {run : List Int}, run ∈ fr u row → ∀ {x}, x ∈ run → x ∈ u
  | u, [], run, h, x, hx => by simp [fr] at h; subst h; exact hx
  | u, d :: r, run, h, x, hx => by
    rw [fr, List.mem_cons] at h
    rcases h with h | h
    · subst h; exact (List.mem_filter.mp hx).1
    · exact (List.mem_filter.mp (fr_mem h hx)).1
theorem fr_foldl (row : List (Int × Int)) : ∀ (runs : List (List Int)) (u : List Int),
    (row.foldl (fun (l : List (List Int) × List Int) d => (l.1 ++ [l.2.filter (inD d.1 d.2)], l.2.filter fun x => !inD d.1 d.2 x)) (runs, u)).1 ++ [(row.foldl (fun (l : List (List Int) × List Int) d => (l.1 ++ [l.2.filter (inD d.1 d.2)], l.2.filter fun x => !inD d.1 d.2 x)) (runs, u)).2] = runs ++ fr u row := by
  induction row with
  | nil => intro runs u; rfl
  | cons d r ih =>
    intro runs u
    rw [List.foldl_cons]
    show (List.foldl _ (runs ++ [u.filter (inD d.1 d.2)], u.filter fun x => !inD d.1 d.2 x) r).1 ++ _ = _
    rw [ih]
    simp [fr]
/-- the leftmost file stays unread to the end -/
theorem fr_last : ∀ {row : List (Int × Int)} {u : List Int} {a : Int}, a ∈ u → (∀ d, d ∈ row → a < d.1) → a ∈ (fr u row).getLast (fr_ne _ _)
  | [], u, a, h, _ => by simpa [fr] using h
  | d :: r, u, a, h, k => by
    have h1 : a ∈ u.filter fun x => !inD d.1 d.2 x := by
      rw [List.mem_filter]
      refine ⟨h, ?_⟩
      have : ¬ inD d.1 d.2 a = true := by
        rw [inD_iff]; have := k d (List.mem_cons_self ..); omega
      simpa using this
    have h2 := fr_last (row := r) h1 fun e he => k e (List.mem_cons_of_mem _ he)
    simp only [fr]
    rw [List.getLast_cons (fr_ne _ _)]
    exact h2
/-- each run begins with the first of its detour -/
theorem filter_head {f l : Int} : ∀ {u : List Int}, u.Pairwise (· < ·) → f ∈ u → f ≤ l → ∃ t, u.filter (inD f l) = f :: t
  | [], _, h, _ => by cases h
  | x :: u, hp, h, hl => by
    rw [List.pairwise_cons] at hp
    by_cases e : x = f
    · subst e
      exact ⟨_, List.filter_cons_of_pos (by rw [inD_iff]; omega)⟩
    · have hf : f ∈ u := by
        rcases List.mem_cons.mp h with h | h
        · exact absurd h.symm e
        · exact h
      have : x < f := hp.1 _ hf
      rw [List.filter_cons_of_neg (by rw [inD_iff]; omega)]
      exact filter_head hp.2 hf hl
theorem fr_heads : ∀ {row : List (Int × Int)} {u : List Int}, u.Pairwise (· < ·) → (∀ d, d ∈ row → d.1 ∈ u ∧ d.1 ≤ d.2) → row.Pairwise (fun a b => b.1 < a.1) → ∀ {k : Nat} {d : Int × Int}, row[k]? = some d → ∃ t, (fr u row)[k]? = some (d.1 :: t)
  | [], _, _, _, _, k, d, e => by simp at e
  | c :: r, u, hu, hm, hd, 0, d, e => by
    have e' : c = d := by simpa using e
    subst e'
    obtain ⟨t, ht⟩ := filter_head hu (hm c (List.mem_cons_self ..)).1 (hm c (List.mem_cons_self ..)).2
    exact ⟨t, by simp [fr, ht]⟩
  | c :: r, u, hu, hm, hd, k + 1, d, e => by
    rw [List.pairwise_cons] at hd
    simp only [fr, List.getElem?_cons_succ]
    refine fr_heads (hu.filter _) (fun x hx => ⟨?_, (hm x (List.mem_cons_of_mem _ hx)).2⟩) hd.2 (by simpa using e)
    rw [List.mem_filter]
    refine ⟨(hm x (List.mem_cons_of_mem _ hx)).1, ?_⟩
    have : ¬ inD c.1 c.2 x.1 = true := by
      rw [inD_iff]; have := hd.1 x hx; omega
    simpa using this
/-! ### waits -/
def aI (x : Int) : Int := if x < 0 then -x else x
abbrev Fd := List (Option (Int × Int))
def put (t : Tape) (steps place turns : Int) (run : List Int) (fd : Fd) : Fd := run.foldl (fun fd i => fd.set i.toNat (some (steps + en t i - place, turns))) fd
theorem put_len (t : Tape) (a b c : Int) (run : List Int) : ∀ fd, (put t a b c run fd).length = fd.length := by
  unfold put
  induction run with
  | nil => intro fd; rfl
  | cons x r ih => intro fd; rw [List.foldl_cons, ih, List.length_set]
theorem put_get (t : Tape) (a b c : Int) (run : List Int) (h0 : ∀ x, x ∈ run → 0 ≤ x) : ∀ (fd : Fd) {i : Nat}, i < fd.length → (put t a b c run fd)[i]? = if (i : Int) ∈ run then some (some (a + en t i - b, c)) else fd[i]? := by
  unfold put
  induction run with
  | nil => intro fd i h; simp
  | cons x r ih =>
    intro fd i h
    have hx := h0 x (List.mem_cons_self ..)
    rw [List.foldl_cons, ih (fun y hy => h0 y (List.mem_cons_of_mem _ hy)) _ (by simpa using h)]
    by_cases e : (i : Int) ∈ r
    · rw [if_pos e, if_pos (List.mem_cons_of_mem _ e)]
    · rw [if_neg e]
      by_cases e2 : (i : Int) = x
      · subst e2
        rw [if_pos (List.mem_cons_self ..)]
        simp [h]
      · have : (i : Int) ∉ x :: r := by simp [e, e2]
        rw [if_neg this, List.getElem?_set_ne (by omega)]
def wStep (t : Tape) (runs : List (List Int)) (l : Fd × Int × Int) (x : Int × Int) : Fd × Int × Int :=
  (if x.1 % 2 = 1 then put t l.2.2 l.2.1 x.1 (runs.getD (x.1 / 2).toNat []) l.1 else l.1, x.2, l.2.2 + aI (x.2 - l.2.1))
def enumF : Nat → List Int → List (Int × Int)
  | _, [] => []
  | k, x :: xs => ((k : Int), x) :: enumF (k + 1) xs
theorem enumF_eq : ∀ (k : Nat) (xs : List Int), xs.mapIdx (fun i x => (((k + i : Nat) : Int), x)) = enumF k xs
  | _, [] => rfl
  | k, x :: xs => by
    rw [List.mapIdx_cons, enumF, ← enumF_eq (k + 1) xs]
    congr 2
    funext i y
    congr 2
    omega
abbrev Trs := List ((Int × Int) × List Int)
def wTr (t : Tape) : Trs → Fd → Int → Int → Nat → Fd
  | [], fd, _, _, _ => fd
  | x :: r, fd, place, steps, k => wTr t r (put t (steps + aI (x.1.1 - place)) x.1.1 (2 * k + 1 : Int) x.2 fd) x.1.2 (steps + aI (x.1.1 - place) + aI (x.1.2 - x.1.1)) (k + 1)
theorem wStep_trs (t : Tape) (runs : List (List Int)) : ∀ (trs : Trs) (k : Nat) (fd : Fd) (place steps : Int), (∀ (j : Nat) (x : (Int × Int) × List Int), trs[j]? = some x → runs[k + j]? = some x.2) →
    ((enumF (2 * k) (trs.flatMap fun x => [x.1.1, x.1.2])).foldl (wStep t runs) (fd, place, steps)).1 = wTr t trs fd place steps k
  | [], _, _, _, _, _ => rfl
  | x :: r, k, fd, place, steps, h => by
    have hx := h 0 x rfl
    rw [List.flatMap_cons]
    rw [List.cons_append, List.cons_append, List.nil_append, enumF, enumF, List.foldl_cons, List.foldl_cons, wTr]
    have e1 : wStep t runs (fd, place, steps) (((2 * k : Nat) : Int), x.1.1) = (fd, x.1.1, steps + aI (x.1.1 - place)) := by
      unfold wStep
      rw [if_neg (by show ¬ ((2 * k : Nat) : Int) % 2 = 1; omega)]
    have e2 : ∀ s, wStep t runs (fd, x.1.1, s) (((2 * k + 1 : Nat) : Int), x.1.2) = (put t s x.1.1 (2 * k + 1 : Int) x.2 fd, x.1.2, s + aI (x.1.2 - x.1.1)) := by
      intro s
      unfold wStep
      rw [if_pos (by show ((2 * k + 1 : Nat) : Int) % 2 = 1; omega)]
      have : (((2 * k + 1 : Nat) : Int) / 2).toNat = k := by omega
      simp only [this]
      rw [List.getD_eq_getElem?_getD, show runs[k]? = some x.2 from hx]
      rfl
    rw [e1, e2]
    exact wStep_trs t runs r (k + 1) _ _ _ fun j y hy => by
      have := h (j + 1) y (by simpa using hy)
      rw [show k + 1 + j = k + (j + 1) by omega]; exact this
/-- the wait of a file -/
def lk (t : Tape) : Trs → Int → Int → Nat → Int → Option (Int × Int)
  | [], _, _, _, _ => none
  | x :: r, place, steps, k, i => if i ∈ x.2 then some (steps + aI (x.1.1 - place) + en t i - x.1.1, 2 * k + 1) else lk t r x.1.2 (steps + aI (x.1.1 - place) + aI (x.1.2 - x.1.1)) (k + 1) i
theorem wTr_len (t : Tape) : ∀ (trs : Trs) (fd : Fd) (place steps : Int) (k : Nat), (wTr t trs fd place steps k).length = fd.length
  | [], _, _, _, _ => rfl
  | x :: r, fd, place, steps, k => by rw [wTr, wTr_len, put_len]
theorem wTr_get (t : Tape) : ∀ (trs : Trs) (fd : Fd) (place steps : Int) (k : Nat), (∀ x, x ∈ trs → ∀ y, y ∈ x.2 → 0 ≤ y) → trs.Pairwise (fun a b => ∀ y, y ∈ a.2 → y ∉ b.2) → ∀ {i : Nat}, i < fd.length →
    (wTr t trs fd place steps k)[i]? = match lk t trs place steps k i with | some w => some (some w) | none => fd[i]?
  | [], _, _, _, _, _, _, _, _ => rfl
  | x :: r, fd, place, steps, k, h0, hp, i, hi => by
    rw [List.pairwise_cons] at hp
    rw [wTr, lk, wTr_get t r _ _ _ _ (fun y hy => h0 y (List.mem_cons_of_mem _ hy)) hp.2 (by rw [put_len]; exact hi), put_get _ _ _ _ _ (h0 x (List.mem_cons_self ..)) _ hi]
    by_cases e : (i : Int) ∈ x.2
    · have none_ : ∀ (r : Trs) (p s : Int) (k : Nat), (∀ y, y ∈ r → (i : Int) ∉ y.2) → lk t r p s k i = none := by
        intro r
        induction r with
        | nil => intros; rfl
        | cons y r ih => intro p s k h; rw [lk, if_neg (h y (List.mem_cons_self ..)), ih _ _ _ fun z hz => h z (List.mem_cons_of_mem _ hz)]
      rw [if_pos e, if_pos e, none_ _ _ _ _ fun y hy => hp.1 y hy _ e]
    · rw [if_neg e, if_neg e]
/-- the runs are apart -/
theorem fr_apart : ∀ {u : List Int} {row : List (Int × Int)}, (fr u row).Pairwise (fun a b => ∀ y, y ∈ a → y ∉ b)
  | _, [] => by simp [fr]
  | u, d :: r => by
    rw [fr, List.pairwise_cons]
    refine ⟨fun b hb y hy hyb => ?_, fr_apart⟩
    have h1 := (List.mem_filter.mp hy).2
    have h2 := (List.mem_filter.mp (fr_mem hb hyb)).2
    rw [h1] at h2
    cases h2
end Tp

set_option Elab.async false
set_option linter.all false
namespace Tp
/-! ### rows of equal files -/
def upI : Nat → List Int
  | 0 => []
  | n + 1 => upI n ++ [(n : Int)]
theorem mem_upI {n : Nat} {x : Int} : x ∈ upI n ↔ 0 ≤ x ∧ x < n := by
  induction n with
  | zero => simp [upI]; try omega
  | succ n ih => rw [upI, List.mem_append, ih]; simp; omega
theorem upI_asc (n : Nat) : (upI n).Pairwise (· < ·) := by
  induction n with
  | zero => simp [upI]
  | succ n ih =>
    rw [upI, List.pairwise_append]
    refine ⟨ih, by simp, fun a ha b hb => ?_⟩
    have := (mem_upI.mp ha).2
    simp at hb; omega
theorem upI_len (n : Nat) : (upI n).length = n := by
  induction n with
  | zero => rfl
  | succ n ih => rw [upI, List.length_append, ih]; rfl
theorem upI_range (n : Nat) : (List.range n).map (fun (i : Nat) => (i : Int)) = upI n := by
  induction n with
  | zero => rfl
  | succ n ih => rw [List.range_succ, List.map_append, ih]; rfl
theorem upI_cons (n : Nat) : upI (n + 1) = 0 :: (upI n).map (· + 1) := by
  induction n with
  | zero => rfl
  | succ n ih =>
    have e : (upI (n + 1)).map (· + 1) = (upI n).map (· + 1) ++ [((n + 1 : Nat) : Int)] := by
      rw [show upI (n + 1) = upI n ++ [(n : Int)] from rfl, List.map_append]; simp
    rw [e, show upI (n + 1 + 1) = upI (n + 1) ++ [((n + 1 : Nat) : Int)] from rfl, ih]
    rfl
def dnRow (l : Nat → Int) : Nat → List (Int × Int)
  | 0 => []
  | m + 1 => (((m + 1 : Nat) : Int), l (m + 1)) :: dnRow l m
def dnRuns : Nat → List (List Int)
  | 0 => [[0]]
  | m + 1 => [((m + 1 : Nat) : Int)] :: dnRuns m
theorem filter_top {m : Nat} {l : Int} (hl : (m : Int) ≤ l) : (upI (m + 1)).filter (inD (m : Int) l) = [(m : Int)] ∧ (upI (m + 1)).filter (fun x => !inD (m : Int) l x) = upI m := by
  have h1 : ∀ x, x ∈ upI m → inD (m : Int) l x = false := fun x hx => by
    have := (mem_upI.mp hx).2
    have : ¬ inD (m : Int) l x = true := by rw [inD_iff]; omega
    simpa using this
  have h2 : inD (m : Int) l m = true := by rw [inD_iff]; omega
  rw [upI, List.filter_append, List.filter_append]
  constructor
  · rw [List.filter_eq_nil_iff.mpr (fun x hx => by rw [h1 x hx]; simp)]
    simp [h2]
  · rw [List.filter_eq_self.mpr (fun x hx => by rw [h1 x hx]; rfl)]
    simp [h2]
theorem fr_dn (l : Nat → Int) : ∀ (m : Nat), (∀ j, j ≤ m → (j : Int) ≤ l j) → fr (upI (m + 1)) (dnRow l m) = dnRuns m
  | 0, _ => rfl
  | m + 1, h => by
    obtain ⟨h1, h2⟩ := filter_top (m := m + 1) (h (m + 1) (Nat.le_refl _))
    rw [dnRow, fr, dnRuns]
    show List.filter (inD ((m + 1 : Nat) : Int) (l (m + 1))) _ :: _ = _
    rw [h1]
    show _ :: fr (List.filter (fun x => !inD ((m + 1 : Nat) : Int) (l (m + 1)) x) _) _ = _
    rw [h2, fr_dn l m fun j hj => h j (by omega)]
theorem fr_one {n : Nat} : fr (upI (n + 2)) [(1, ((n + 1 : Nat) : Int))] = [(upI (n + 1)).map (· + 1), [0]] := by
  have e : upI (n + 2) = 0 :: (upI (n + 1)).map (· + 1) := upI_cons (n + 1)
  have h0 : inD 1 ((n + 1 : Nat) : Int) 0 = false := rfl
  have h1 : ∀ x, x ∈ (upI (n + 1)).map (· + 1) → inD 1 ((n + 1 : Nat) : Int) x = true := fun x hx => by
    obtain ⟨y, hy, e⟩ := List.mem_map.mp hx
    have := mem_upI.mp hy
    rw [inD_iff]; omega
  rw [fr, fr, e]
  show [List.filter (inD 1 ((n + 1 : Nat) : Int)) _, List.filter (fun x => !inD 1 ((n + 1 : Nat) : Int) x) _] = _
  rw [List.filter_cons_of_neg (by rw [h0]; simp), List.filter_cons_of_pos (by rw [h0]; rfl), List.filter_eq_self.mpr h1, List.filter_eq_nil_iff.mpr (fun x hx => by rw [h1 x hx]; simp)]
/-- files that are equal, in equal distances -/
structure Eqf (t : Tape) (n : Nat) (size apart front behind : Int) : Prop where
  b : ∀ i : Int, 0 ≤ i → i < n → bg t i = front + i * apart
  e : ∀ i : Int, 0 ≤ i → i < n → en t i = front + i * apart + size
  L : t.1 = front + ((n : Int) - 1) * apart + size + behind
  s0 : 0 < size
  a0 : size ≤ apart
  h0 : 0 ≤ behind
/-- what the head leads over: the detours with their runs, and the last way -/
def dnTrs (t : Tape) (l : Nat → Int) : Nat → Trs
  | 0 => [((bg t 0, en t 0), [0])]
  | m + 1 => ((bg t ((m + 1 : Nat) : Int), en t (l (m + 1))), [((m + 1 : Nat) : Int)]) :: dnTrs t l m
theorem aI_neg {x : Int} (h : x ≤ 0) : aI x = -x := by unfold aI; split <;> omega
theorem aI_pos {x : Int} (h : 0 ≤ x) : aI x = x := by unfold aI; split <;> omega
theorem lk_dn {t : Tape} {n : Nat} {size apart front behind : Int} (h : Eqf t n size apart front behind) (l : Nat → Int) (Sf : Nat → Int) (hl : ∀ j : Nat, 0 < j → j < n → (j : Int) ≤ l j ∧ l j < n) (hS : ∀ k m : Nat, k + m + 2 = n → Sf (k + 1) = Sf k + (en t (l (m + 1)) - bg t ((m + 1 : Nat) : Int)) + (en t (l (m + 1)) - bg t (m : Int))) :
    ∀ (m k : Nat) (place steps : Int), k + m + 1 = n → steps + aI (bg t (m : Int) - place) = Sf k → ∀ i : Nat, i ≤ m → lk t (dnTrs t l m) place steps k (i : Int) = some (Sf (n - 1 - i) + size, 2 * ((n : Int) - 1 - i) + 1)
  | 0, k, place, steps, hk, hs, i, hi => by
    have e : i = 0 := by omega
    subst e
    have hs' : steps + aI (bg t 0 - place) = Sf k := hs
    rw [dnTrs, lk, if_pos (by simp), hs']
    have z : (k : Int) = (n : Int) - 1 := by omega
    rw [show n - 1 - 0 = k by omega]
    show some (Sf k + en t ((0 : Nat) : Int) - bg t 0, 2 * (k : Int) + 1) = _
    rw [h.b 0 (by omega) (by omega), h.e _ (by omega) (by omega), z]
    congr 2 <;> (simp; try omega)
  | m + 1, k, place, steps, hk, hs, i, hi => by
    rw [dnTrs, lk]
    by_cases e : i = m + 1
    · subst e
      dsimp only
      rw [if_pos (by simp), hs, h.b _ (by omega) (by omega), h.e _ (by omega) (by omega)]
      have z : (k : Int) = (n : Int) - 1 - ((m + 1 : Nat) : Int) := by omega
      rw [show n - 1 - (m + 1) = k by omega, z]
      congr 2
      omega
    · rw [if_neg (by simp; omega)]
      have bm : bg t (m : Int) = front + (m : Int) * apart := h.b _ (by omega) (by omega)
      have bm1 : bg t ((m + 1 : Nat) : Int) = front + ((m + 1 : Nat) : Int) * apart := h.b _ (by omega) (by omega)
      obtain ⟨l0, l1⟩ := hl (m + 1) (by omega) (by omega)
      have el : en t (l (m + 1)) = front + l (m + 1) * apart + size := h.e _ (by omega) l1
      have hs0 := h.s0
      have ha0 := h.a0
      have mono : ((m + 1 : Nat) : Int) * apart ≤ l (m + 1) * apart := Int.mul_le_mul_of_nonneg_right l0 (by omega)
      have mono2 : (m : Int) * apart ≤ ((m + 1 : Nat) : Int) * apart := Int.mul_le_mul_of_nonneg_right (by omega) (by omega)
      refine lk_dn h l Sf hl hS m (k + 1) _ _ (by omega) ?_ i (by omega)
      dsimp only
      have x1 : aI (bg t (m : Int) - en t (l (m + 1))) = -(bg t (m : Int) - en t (l (m + 1))) := aI_neg (by rw [bm, el]; omega)
      have x2 : aI (en t (l (m + 1)) - bg t ((m + 1 : Nat) : Int)) = en t (l (m + 1)) - bg t ((m + 1 : Nat) : Int) := aI_pos (by rw [bm1, el]; omega)
      rw [hs, hS k m (by omega), x1, x2]
      omega
end Tp

set_option Elab.async false
set_option linter.all false
namespace Tp
/-! ### fractions -/
def low (x y : Int) : Int × Int := (x / (Int.gcd x y : Int), y / (Int.gcd x y : Int))
def lessF (p q : Int × Int) : Bool := decide (p.1 * q.2 < q.1 * p.2)
theorem gcd_pos {x y : Int} (h : 0 < y) : (0 : Int) < (Int.gcd x y : Int) := by
  have := Int.gcd_pos_of_ne_zero_right x (b := y) (by omega)
  omega
theorem low_x {x y : Int} : (low x y).1 * (Int.gcd x y : Int) = x := Int.ediv_mul_cancel (Int.gcd_dvd_left ..)
theorem low_y {x y : Int} : (low x y).2 * (Int.gcd x y : Int) = y := Int.ediv_mul_cancel (Int.gcd_dvd_right ..)
theorem low_pos {x y : Int} (h : 0 < y) : 0 < (low x y).2 := by
  have h1 := low_y (x := x) (y := y)
  have h2 := gcd_pos (x := x) h
  exact Int.pos_of_mul_pos_left (by rw [h1]; exact h) h2
theorem low_less {x x' y : Int} (h : 0 < y) : lessF (low x y) (low x' y) = decide (x < x') := by
  have g1 := gcd_pos (x := x) h
  have g2 := gcd_pos (x := x') h
  have a1 := low_x (x := x) (y := y)
  have a2 := low_y (x := x) (y := y)
  have b1 := low_x (x := x') (y := y)
  have b2 := low_y (x := x') (y := y)
  unfold lessF
  generalize low x y = p at *
  generalize low x' y = q at *
  generalize (Int.gcd x y : Int) = g at *
  generalize (Int.gcd x' y : Int) = g' at *
  have hg : 0 < g * g' := Int.mul_pos g1 g2
  have e1 : (p.1 * q.2) * (g * g') = x * y := by rw [← a1, ← b2]; simp only [Int.mul_assoc, Int.mul_comm, Int.mul_left_comm]
  have e2 : (q.1 * p.2) * (g * g') = x' * y := by rw [← b1, ← a2]; simp only [Int.mul_assoc, Int.mul_comm, Int.mul_left_comm]
  have : (p.1 * q.2 < q.1 * p.2) ↔ x < x' := by
    constructor
    · intro z
      have := Int.mul_lt_mul_of_pos_right z hg
      rw [e1, e2] at this
      exact Int.lt_of_mul_lt_mul_right this (by omega)
    · intro z
      have := Int.mul_lt_mul_of_pos_right z h
      rw [← e1, ← e2] at this
      exact Int.lt_of_mul_lt_mul_right this (by omega)
  exact decide_eq_decide.mpr this
theorem low_zero {y : Int} (h : 0 < y) : low 0 y = (0, 1) := by
  unfold low
  rw [Int.gcd_zero_left]
  have e : (y.natAbs : Int) = y := Int.natAbs_of_nonneg (by omega)
  rw [e]
  congr 1
  · simp
  · exact Int.ediv_self (by omega)
/-- the number above of what a wait comes to -/
def numr (c : Int × Int) (w : Int × Int) : Int := w.1 * c.2 + w.2 * c.1
def worthL (w c : Int × Int) : Int × Int := low (numr c w) c.2
def maxL (xs : List Int) : Int := xs.foldl (fun m x => if m < x then x else m) 0
def longL (ws : Fd) (c : Int × Int) : Int × Int := ws.foldl (fun m w => match w with
  | some w => if lessF m (worthL w c) = true then worthL w c else m
  | none => m) (0, 1)
theorem longL_eq {c : Int × Int} (h : 0 < c.2) (ws : Fd) : longL ws c = low (maxL ((ws.filterMap id).map (numr c))) c.2 := by
  have main : ∀ (ws : Fd) (m : Int), ws.foldl (fun m w => match w with | some w => if lessF m (worthL w c) = true then worthL w c else m | none => m) (low m c.2) = low (((ws.filterMap id).map (numr c)).foldl (fun m x => if m < x then x else m) m) c.2 := by
    intro ws
    induction ws with
    | nil => intro m; rfl
    | cons w ws ih =>
      intro m
      cases w with
      | none => rw [List.foldl_cons]; exact ih m
      | some w =>
        rw [List.foldl_cons]
        show List.foldl _ (if lessF (low m c.2) (worthL w c) = true then worthL w c else low m c.2) ws = _
        have e : (if lessF (low m c.2) (worthL w c) = true then worthL w c else low m c.2) = low (if m < numr c w then numr c w else m) c.2 := by
          unfold worthL
          rw [low_less h]
          by_cases z : m < numr c w
          · simp [z]
          · simp [z]
        rw [e, ih]
        rfl
  have := main ws 0
  rw [low_zero h] at this
  exact this
theorem maxL_top {xs : List Int} {m : Int} (hm : m ∈ xs) (h0 : 0 ≤ m) (h : ∀ x, x ∈ xs → x ≤ m) : maxL xs = m := by
  have main : ∀ (xs : List Int) (a : Int), a ≤ m → (∀ x, x ∈ xs → x ≤ m) → (a = m ∨ m ∈ xs) → xs.foldl (fun m x => if m < x then x else m) a = m := by
    intro xs
    induction xs with
    | nil => intro a _ _ h; rcases h with h | h; exact h; cases h
    | cons x xs ih =>
      intro a ha hx h
      have h1 := hx x (List.mem_cons_self ..)
      rw [List.foldl_cons]
      refine ih _ (by split <;> omega) (fun y hy => hx y (List.mem_cons_of_mem _ hy)) ?_
      rcases h with h | h
      · left; split <;> omega
      · rcases List.mem_cons.mp h with h | h
        · left; split <;> omega
        · exact .inr h
  exact main xs 0 h0 h (.inr hm)
def totL (asks : List Int) (ws : Fd) : Int × Int := (asks.zip ws).foldl (fun l x => match x.2 with
  | some w => (l.1 + x.1 * w.1, l.2 + x.1 * w.2)
  | none => l) (0, 0)
theorem totL_eq (c : Int) (ks : List (Int × Int)) : totL (ks.map fun _ => c) (ks.map some) = (c * (ks.map (·.1)).sum, c * (ks.map (·.2)).sum) := by
  have main : ∀ (ks : List (Int × Int)) (a b : Int), ((ks.map fun _ => c).zip (ks.map some)).foldl (fun (l : Int × Int) (x : Int × Option (Int × Int)) => match x.2 with | some w => (l.1 + x.1 * w.1, l.2 + x.1 * w.2) | none => l) (a, b) = (a + c * (ks.map (·.1)).sum, b + c * (ks.map (·.2)).sum) := by
    intro ks
    induction ks with
    | nil => intro a b; simp
    | cons k ks ih =>
      intro a b
      simp only [List.map_cons, List.zip_cons_cons, List.foldl_cons, List.sum_cons]
      rw [ih]
      simp only [Int.mul_add, Int.add_assoc]
  have := main ks 0 0
  simp only [Int.zero_add] at this
  exact this
end Tp

set_option Elab.async false
set_option linter.all false
namespace Tp
/-! ### the four kinds of rows over equal files -/
def kindRow (mode n : Nat) : List (Int × Int) := match mode with
  | 0 => []
  | 1 => dnRow (fun m => (m : Int)) (n - 1)
  | 2 => if 1 < n then [(1, (n : Int) - 1)] else []
  | _ => dnRow (fun _ => (n : Int) - 1) (n - 1)
def kw (mode n : Nat) (size apart behind i : Int) : Int × Int :=
  if mode = 0 ∨ n = 1 then (((n : Int) - 1) * apart + size + behind + i * apart + size, 1)
  else if mode = 1 then (behind + 2 * size + ((n : Int) - 1 - i) * (2 * size + apart), 2 * ((n : Int) - 1 - i) + 1)
  else if mode = 2 then (if i = 0 then (behind + 3 * (((n : Int) - 1) * apart + size) - 2 * apart + size, 3) else (behind + (((n : Int) - 1) * apart + size) - apart + (i - 1) * apart + size, 1))
  else (behind + 2 * size + 2 * size * ((n : Int) - 1 - i) + apart * ((n : Int) - 1 - i) * ((n : Int) - 1 - i), 2 * ((n : Int) - 1 - i) + 1)
/-- detours and runs -/
def trsG (t : Tape) (row : List (Int × Int)) (a z : Int) (runs : List (List Int)) : Trs := (row.map (fun d => (bg t d.1, en t d.2)) ++ [(bg t a, en t z)]).zip runs
theorem trsG_dn (t : Tape) (l : Nat → Int) : ∀ m, trsG t (dnRow l m) 0 0 (dnRuns m) = dnTrs t l m
  | 0 => rfl
  | m + 1 => by
    have := trsG_dn t l m
    unfold trsG at this ⊢
    simp only [dnRow, dnRuns, dnTrs, List.map_cons, List.cons_append, List.zip_cons_cons]
    rw [this]
def lastZ (mode n : Nat) : Int := if mode = 0 ∨ n = 1 then (n : Int) - 1 else 0
def kindRuns (mode n : Nat) : List (List Int) := if mode = 0 ∨ n = 1 then [upI n] else if mode = 2 then [(upI (n - 1)).map (· + 1), [0]] else dnRuns (n - 1)
theorem fr_kind {mode n : Nat} (hm : mode < 4) (hn : 0 < n) : fr (upI n) (kindRow mode n) = kindRuns mode n := by
  unfold kindRuns
  match mode, hm with
  | 0, _ => simp [kindRow, fr]
  | 1, _ =>
    obtain ⟨m, rfl⟩ : ∃ m, n = m + 1 := ⟨n - 1, by omega⟩
    rw [show kindRow 1 (m + 1) = dnRow (fun m => (m : Int)) m from rfl, fr_dn _ m (fun j _ => Int.le_refl _)]
    cases m with
    | zero => rfl
    | succ m => simp
  | 2, _ =>
    match n, hn with
    | 1, _ => simp [kindRow, fr]
    | n + 2, _ =>
      have := fr_one (n := n)
      have e : kindRow 2 (n + 2) = [(1, ((n + 1 : Nat) : Int))] := by
        unfold kindRow
        simp only
        rw [if_pos (by omega)]
        congr 2
        omega
      rw [e, this]
      simp
  | 3, _ =>
    obtain ⟨m, rfl⟩ : ∃ m, n = m + 1 := ⟨n - 1, by omega⟩
    rw [show kindRow 3 (m + 1) = dnRow (fun _ => ((m + 1 : Nat) : Int) - 1) m from rfl, fr_dn _ m (fun j hj => by omega)]
    cases m with
    | zero => rfl
    | succ m => simp
theorem lk_kind {t : Tape} {mode n : Nat} {size apart front behind : Int} (h : Eqf t n size apart front behind) (hm : mode < 4) (hn : 0 < n) {i : Nat} (hi : i < n) :
    lk t (trsG t (kindRow mode n) 0 (lastZ mode n) (kindRuns mode n)) t.1 0 0 i = some (kw mode n size apart behind i) := by
  have hs0 := h.s0
  have ha0 := h.a0
  have hh0 := h.h0
  have hL := h.L
  have apart0 : 0 ≤ apart := by omega
  have bi : ∀ j : Nat, j < n → bg t (j : Int) = front + (j : Int) * apart := fun j hj => h.b j (by omega) (by omega)
  have ei : ∀ j : Nat, j < n → en t (j : Int) = front + (j : Int) * apart + size := fun j hj => h.e j (by omega) (by omega)
  have b0 : bg t 0 = front := by have := bi 0 hn; simpa using this
  have e0 : en t 0 = front + size := by have := ei 0 hn; simpa using this
  have pn : 0 ≤ ((n : Int) - 1) * apart := Int.mul_nonneg (by omega) apart0
  have straight : lk t (trsG t [] 0 ((n : Int) - 1) [upI n]) t.1 0 0 i = some (((n : Int) - 1) * apart + size + behind + i * apart + size, 1) := by
    show lk t [((bg t 0, en t ((n : Int) - 1)), upI n)] t.1 0 0 i = _
    rw [lk, if_pos (mem_upI.mpr ⟨by omega, by omega⟩)]
    dsimp only
    rw [b0, ei i hi, hL, aI_neg (by omega)]
    congr 2
    · omega
  by_cases h1 : mode = 0 ∨ n = 1
  · have er : kindRow mode n = [] := by
      rcases h1 with h1 | h1
      · subst h1; rfl
      · subst h1
        match mode, hm with
        | 0, _ => rfl
        | 1, _ => rfl
        | 2, _ => rfl
        | 3, _ => rfl
    unfold kw lastZ kindRuns
    rw [if_pos h1, if_pos h1, if_pos h1, er]
    exact straight
  · have h0 : mode ≠ 0 := fun e => h1 (.inl e)
    have hn2 : 2 ≤ n := by
      have : n ≠ 1 := fun e => h1 (.inr e)
      omega
    obtain ⟨m, rfl⟩ : ∃ m, n = m + 1 := ⟨n - 1, by omega⟩
    unfold kw lastZ kindRuns
    rw [if_neg h1, if_neg h1, if_neg h1]
    have cast_ : ∀ k : Nat, ((m + 1 - 1 - i : Nat) : Int) = ((m + 1 : Nat) : Int) - 1 - i := fun _ => by omega
    match mode, hm, h0 with
    | 1, _, _ =>
      rw [if_neg (by decide), if_pos rfl, show m + 1 - 1 = m from rfl, show kindRow 1 (m + 1) = dnRow (fun m => (m : Int)) m from rfl, trsG_dn]
      rw [lk_dn h (fun m => (m : Int)) (fun k => behind + size + (k : Int) * (2 * size + apart)) (fun j _ hj => ⟨Int.le_refl _, by omega⟩) ?_ m 0 _ _ (by omega) ?_ i (by omega)]
      · rw [cast_ 0]
        congr 2
        omega
      · intro k q hk
        rw [ei _ (by omega), bi _ (by omega), bi _ (by omega)]
        simp only [Int.natCast_add, Int.natCast_one, Int.add_mul, Int.one_mul, Int.mul_add]
        omega
      · rw [bi m (by omega), hL]
        have : ((m + 1 : Nat) : Int) - 1 = m := by omega
        rw [this, aI_neg (by omega)]
        simp
        omega
    | 2, _, _ =>
      rw [if_pos rfl, if_neg (by decide), if_pos rfl]
      have er : kindRow 2 (m + 1) = [(1, (m : Int))] := by
        unfold kindRow
        simp only
        rw [if_pos (by omega)]
        congr 2
        omega
      rw [er, show m + 1 - 1 = m from rfl]
      show lk t [((bg t 1, en t (m : Int)), (upI m).map (· + 1)), ((bg t 0, en t 0), [0])] t.1 0 0 i = _
      have b1 : bg t 1 = front + apart := by have := bi 1 (by omega); simpa using this
      have em := ei m (by omega)
      have e1 : ((m + 1 : Nat) : Int) - 1 = m := by omega
      have pm : apart ≤ (m : Int) * apart := by
        have : (1 : Int) * apart ≤ (m : Int) * apart := Int.mul_le_mul_of_nonneg_right (by omega) apart0
        omega
      rw [e1] at hL
      rw [lk]
      by_cases hi0 : i = 0
      · subst hi0
        have nm : ¬ ((0 : Nat) : Int) ∈ (upI m).map (· + 1) := by
          intro z
          obtain ⟨y, hy, e⟩ := List.mem_map.mp z
          have := mem_upI.mp hy
          omega
        rw [if_neg nm, lk, if_pos (by simp), if_pos (show ((0 : Nat) : Int) = 0 from rfl)]
        dsimp only
        rw [b1, em, b0, hL, aI_neg (by omega), aI_pos (by omega), aI_neg (by omega), e1]
        show some (_ + en t 0 - _, _) = _
        rw [e0]
        congr 2
        omega
      · have nm : (i : Int) ∈ (upI m).map (· + 1) := List.mem_map.mpr ⟨(i : Int) - 1, mem_upI.mpr ⟨by omega, by omega⟩, by omega⟩
        rw [if_pos nm, if_neg (by omega)]
        dsimp only
        rw [b1, hL, aI_neg (by omega), ei i hi, e1]
        simp only [Int.sub_mul, Int.one_mul]
        congr 2
        omega
    | 3, _, _ =>
      rw [if_neg (by decide), if_neg (by decide), if_neg (by decide), show m + 1 - 1 = m from rfl, show kindRow 3 (m + 1) = dnRow (fun _ => ((m + 1 : Nat) : Int) - 1) m from rfl, trsG_dn]
      rw [lk_dn h (fun _ => ((m + 1 : Nat) : Int) - 1) (fun k => behind + size + 2 * size * (k : Int) + apart * (k : Int) * (k : Int)) (fun j _ hj => ⟨by omega, by omega⟩) ?_ m 0 _ _ (by omega) ?_ i (by omega)]
      · rw [cast_ 0]
        congr 2
        omega
      · intro k q hk
        have e1 : ((m + 1 : Nat) : Int) - 1 = ((m : Nat) : Int) := by omega
        rw [e1, ei _ (by omega), bi _ (by omega), bi _ (by omega)]
        have e2 : m = k + q + 1 := by omega
        subst e2
        simp only [Int.natCast_add, Int.natCast_one, Int.add_mul, Int.one_mul, Int.mul_add, Int.mul_one, Int.mul_comm, Int.mul_left_comm]
        omega
      · rw [bi m (by omega), hL]
        have : ((m + 1 : Nat) : Int) - 1 = m := by omega
        rw [this, aI_neg (by omega)]
        simp
        omega
end Tp

set_option Elab.async false
set_option linter.all false
namespace Tp
theorem kw_le {mode n : Nat} {size apart behind : Int} (hm : mode < 4) (hn : 0 < n) (hs : 0 < size) (ha : size ≤ apart) {i : Nat} (hi : i < n) :
    (kw mode n size apart behind i).1 ≤ (kw mode n size apart behind (lastZ mode n)).1 ∧ (kw mode n size apart behind i).2 ≤ (kw mode n size apart behind (lastZ mode n)).2 := by
  have apart0 : 0 ≤ apart := by omega
  unfold kw lastZ
  by_cases h1 : mode = 0 ∨ n = 1
  · rw [if_pos h1, if_pos h1]
    have : (i : Int) * apart ≤ ((n : Int) - 1) * apart := Int.mul_le_mul_of_nonneg_right (by omega) apart0
    simp only [if_pos h1]
    omega
  · rw [if_neg h1, if_neg h1]
    simp only [if_neg h1]
    by_cases h2 : mode = 1
    · simp only [if_pos h2]
      have : ((n : Int) - 1 - i) * (2 * size + apart) ≤ ((n : Int) - 1 - 0) * (2 * size + apart) := Int.mul_le_mul_of_nonneg_right (by omega) (by omega)
      omega
    · simp only [if_neg h2]
      by_cases h3 : mode = 2
      · simp only [if_pos h3, if_true]
        by_cases h4 : (i : Int) = 0
        · rw [if_pos h4]; omega
        · rw [if_neg h4]
          have p1 : ((i : Int) - 1) * apart ≤ ((n : Int) - 1) * apart := Int.mul_le_mul_of_nonneg_right (by omega) apart0
          have p2 : (1 : Int) * apart ≤ ((n : Int) - 1) * apart := Int.mul_le_mul_of_nonneg_right (by omega) apart0
          omega
      · simp only [if_neg h3]
        have p1 : size * ((n : Int) - 1 - i) ≤ size * ((n : Int) - 1 - 0) := Int.mul_le_mul_of_nonneg_left (by omega) (by omega)
        have p2 : apart * ((n : Int) - 1 - i) ≤ apart * ((n : Int) - 1 - 0) := Int.mul_le_mul_of_nonneg_left (by omega) (by omega)
        have p0 : 0 ≤ apart * ((n : Int) - 1 - i) := Int.mul_nonneg (by omega) (by omega)
        have p3 : apart * ((n : Int) - 1 - i) * ((n : Int) - 1 - i) ≤ apart * ((n : Int) - 1 - 0) * ((n : Int) - 1 - 0) := Int.mul_le_mul p2 (by omega) (by omega) (by omega)
        have q1 : 2 * size * ((n : Int) - 1 - i) = 2 * (size * ((n : Int) - 1 - i)) := Int.mul_assoc ..
        have q2 : 2 * size * ((n : Int) - 1 - 0) = 2 * (size * ((n : Int) - 1 - 0)) := Int.mul_assoc ..
        rw [q1, q2]
        omega
theorem kw_pos {mode n : Nat} {size apart behind : Int} (hn : 0 < n) (hs : 0 < size) (ha : size ≤ apart) (hb : 0 ≤ behind) {i : Nat} (hi : i < n) :
    0 ≤ (kw mode n size apart behind i).1 ∧ 0 ≤ (kw mode n size apart behind i).2 := by
  have apart0 : 0 ≤ apart := by omega
  have p0 : 0 ≤ ((n : Int) - 1) * apart := Int.mul_nonneg (by omega) apart0
  unfold kw
  split
  · have : 0 ≤ (i : Int) * apart := Int.mul_nonneg (by omega) apart0
    omega
  · split
    · have : 0 ≤ ((n : Int) - 1 - i) * (2 * size + apart) := Int.mul_nonneg (by omega) (by omega)
      omega
    · split
      · have p1 : (1 : Int) * apart ≤ ((n : Int) - 1) * apart := Int.mul_le_mul_of_nonneg_right (by omega) apart0
        split
        · omega
        · have : 0 ≤ ((i : Int) - 1) * apart := Int.mul_nonneg (by omega) apart0
          omega
      · have p0 : 0 ≤ apart * ((n : Int) - 1 - i) := Int.mul_nonneg (by omega) (by omega)
        have p3 : 0 ≤ apart * ((n : Int) - 1 - i) * ((n : Int) - 1 - i) := Int.mul_nonneg p0 (by omega)
        have p4 : 0 ≤ 2 * size * ((n : Int) - 1 - i) := Int.mul_nonneg (by omega) (by omega)
        omega
/-- the last file of a list -/
def lastI (xs : List Int) : Int := xs.getLast?.getD 0
theorem lastI_up (n : Nat) : lastI (upI (n + 1)) = n := by
  unfold lastI
  rw [show upI (n + 1) = upI n ++ [(n : Int)] from rfl]
  simp
def lastR (runs : List (List Int)) : List Int := runs.getLast?.getD []
theorem dnRuns_last : ∀ m, lastR (dnRuns m) = [0]
  | 0 => rfl
  | m + 1 => by
    have := dnRuns_last m
    unfold lastR at this ⊢
    rw [dnRuns, List.getLast?_cons]
    cases e : (dnRuns m).getLast? with
    | none => cases m <;> simp [dnRuns] at e
    | some x => rw [e] at this; simpa using this
theorem kind_last {mode n : Nat} (hn : 0 < n) : lastI (lastR (kindRuns mode n)) = lastZ mode n := by
  unfold kindRuns lastZ
  obtain ⟨m, rfl⟩ : ∃ m, n = m + 1 := ⟨n - 1, by omega⟩
  split
  · show lastI (upI (m + 1)) = _
    rw [lastI_up]; omega
  · split
    · rfl
    · rw [dnRuns_last]; rfl
/-- trimmed, order -/
def trimL (runs : List (List Int)) (k : Nat) : List (Int × Int) := (runs.take k).map fun r => (r.headD 0, lastI r)
theorem dnRow_len (l : Nat → Int) : ∀ m, (dnRow l m).length = m
  | 0 => rfl
  | m + 1 => by rw [dnRow, List.length_cons, dnRow_len]
theorem trim_dn : ∀ m, trimL (dnRuns m) m = dnRow (fun m => (m : Int)) m
  | 0 => rfl
  | m + 1 => by
    have := trim_dn m
    unfold trimL at this ⊢
    rw [dnRuns, dnRow, List.take_succ_cons, List.map_cons, this]
    rfl
theorem trim_kind {mode n : Nat} (hm : mode < 4) (hn : 0 < n) : trimL (kindRuns mode n) (kindRow mode n).length = kindRow (if mode = 3 then 1 else mode) n := by
  obtain ⟨m, rfl⟩ : ∃ m, n = m + 1 := ⟨n - 1, by omega⟩
  unfold kindRuns
  match mode, hm with
  | 0, _ => rfl
  | 1, _ =>
    cases m with
    | zero => rfl
    | succ m =>
      rw [if_neg (by simp), if_neg (by decide), if_neg (by decide), show kindRow 1 (m + 1 + 1) = dnRow (fun m => (m : Int)) (m + 1) from rfl, dnRow_len]
      exact trim_dn (m + 1)
  | 2, _ =>
    cases m with
    | zero => rfl
    | succ m =>
      have er : kindRow 2 (m + 1 + 1) = [(1, ((m + 1 : Nat) : Int))] := by
        unfold kindRow
        simp only
        rw [if_pos (by omega)]
        congr 2
        omega
      rw [if_neg (by simp), if_pos rfl, if_neg (by decide), er]
      show [(((upI (m + 1)).map (· + 1)).headD 0, lastI ((upI (m + 1)).map (· + 1)))] = _
      have e1 : ((upI (m + 1)).map (· + 1)).headD 0 = 1 := by rw [upI_cons]; rfl
      have e2 : lastI ((upI (m + 1)).map (· + 1)) = ((m + 1 : Nat) : Int) := by
        unfold lastI
        rw [show upI (m + 1) = upI m ++ [(m : Int)] from rfl, List.map_append]
        simp
      rw [e1, e2]
  | 3, _ =>
    cases m with
    | zero => rfl
    | succ m =>
      rw [if_neg (by simp), if_neg (by decide), if_pos rfl, show kindRow 3 (m + 1 + 1) = dnRow (fun _ => ((m + 1 + 1 : Nat) : Int) - 1) (m + 1) from rfl, dnRow_len]
      exact trim_dn (m + 1)
def dnI : Nat → List Int
  | 0 => [0]
  | m + 1 => ((m + 1 : Nat) : Int) :: dnI m
theorem flat_dn : ∀ m, (dnRuns m).flatten = dnI m
  | 0 => rfl
  | m + 1 => by rw [dnRuns, List.flatten_cons, flat_dn]; rfl
def kindOrd (mode n : Nat) : List Int := if mode = 2 then (upI (n - 1)).map (· + 1) ++ [0] else if mode = 1 ∨ mode = 3 then dnI (n - 1) else upI n
theorem ord_kind {mode n : Nat} (hm : mode < 4) (hn : 0 < n) : (kindRuns mode n).flatten = kindOrd mode n := by
  obtain ⟨m, rfl⟩ : ∃ m, n = m + 1 := ⟨n - 1, by omega⟩
  unfold kindRuns kindOrd
  match mode, hm with
  | 0, _ => simp
  | 1, _ =>
    cases m with
    | zero => rfl
    | succ m => simp [flat_dn]
  | 2, _ =>
    cases m with
    | zero => rfl
    | succ m => simp
  | 3, _ =>
    cases m with
    | zero => rfl
    | succ m => simp [flat_dn]
end Tp

set_option Elab.async false
set_option linter.all false
set_option maxRecDepth 100000
set_option maxHeartbeats 4000000
namespace Td
open PySem
/-- data of one form: may be laid, of a depth, == says when two are one -/
structure Ed {A : Type} (f : A → PyData) (k : Nat) : Prop where
  c : ∀ x, (f x).canLay0 = true
  d : ∀ x, (f x).depth ≤ k
  e : ∀ x y, PyData.eqv (f x) (f y) = true ↔ x = y
  d0 : ∀ x, (f x).hasDict = false
theorem ed_int : Ed PyData.int 0 := ⟨fun _ => rfl, fun _ => (by simp [PyData.depth]), fun x y => by simp [PyData.eqv], fun _ => rfl⟩
theorem ed_bool : Ed PyData.bool 0 := ⟨fun _ => rfl, fun _ => (by simp [PyData.depth]), fun x y => by simp [PyData.eqv], fun _ => rfl⟩
section
variable {A B C : Type} {f : A → PyData} {g : B → PyData} {h : C → PyData} {k l m : Nat}
theorem Ed.P (hf : Ed f k) (hg : Ed g l) : Ed (dP f g) (max k l + 1) :=
  ⟨fun x => by show ((f x.1).canLay0 && ((g x.2).canLay0 && true)) = true; rw [hf.c, hg.c]; rfl,
   fun x => by
    show (PyData.tuple [f x.1, g x.2]).depth ≤ _
    have := hf.d x.1; have := hg.d x.2
    simp only [PyData.depth, PyData.depthAll]
    omega,
   fun x y => by
    show (PyData.eqv (f x.1) (f y.1) && (PyData.eqv (g x.2) (g y.2) && true)) = true ↔ x = y
    rw [Bool.and_true, Bool.and_eq_true, hf.e, hg.e]
    exact ⟨fun ⟨a, b⟩ => Prod.ext a b, fun e => by subst e; exact ⟨rfl, rfl⟩⟩,
   fun x => by show ((f x.1).hasDict || ((g x.2).hasDict || false)) = false; rw [hf.d0, hg.d0]; rfl⟩
theorem ed_all (hf : Ed f k) : ∀ xs : List A, PyData.canLayAll0 (xs.map f) = true ∧ PyData.depthAll (xs.map f) ≤ k ∧ PyData.hasDictAll (xs.map f) = false
  | [] => ⟨rfl, by simp [PyData.depthAll], rfl⟩
  | x :: xs => by
    obtain ⟨a, b, c⟩ := ed_all hf xs
    refine ⟨?_, ?_, ?_⟩
    · show ((f x).canLay0 && PyData.canLayAll0 (xs.map f)) = true; rw [hf.c, a]; rfl
    · show PyData.depthAll (f x :: xs.map f) ≤ _
      have := hf.d x
      simp only [PyData.depthAll]
      omega
    · show ((f x).hasDict || PyData.hasDictAll (xs.map f)) = false; rw [hf.d0, c]; rfl
theorem ed_eqAll (hf : Ed f k) : ∀ xs ys : List A, PyData.eqvAll (xs.map f) (ys.map f) = true ↔ xs = ys
  | [], [] => ⟨fun _ => rfl, fun _ => by simp [PyData.eqvAll]⟩
  | [], y :: ys => by simp [PyData.eqvAll]
  | x :: xs, [] => by simp [PyData.eqvAll]
  | x :: xs, y :: ys => by
    rw [List.map_cons, List.map_cons, PyData.eqvAll, Bool.and_eq_true, hf.e, ed_eqAll hf xs ys, List.cons.injEq]
theorem Ed.L (hf : Ed f k) : Ed (dL f) (k + 1) :=
  ⟨fun xs => (ed_all hf xs).1, fun xs => by
    show (PyData.list (xs.map f)).depth ≤ _
    have := (ed_all hf xs).2.1
    rw [PyData.depth]
    omega, fun xs ys => by
    show PyData.eqv (.list (xs.map f)) (.list (ys.map f)) = true ↔ _
    rw [PyData.eqv]; exact ed_eqAll hf xs ys, fun xs => (ed_all hf xs).2.2⟩
theorem Ed.TL (hf : Ed f k) : Ed (dTL f) (k + 1) :=
  ⟨fun xs => (ed_all hf xs).1, fun xs => by
    show (PyData.tuple (xs.map f)).depth ≤ _
    have := (ed_all hf xs).2.1
    rw [PyData.depth]
    omega, fun xs ys => by
    show PyData.eqv (.tuple (xs.map f)) (.tuple (ys.map f)) = true ↔ _
    rw [PyData.eqv]; exact ed_eqAll hf xs ys, fun xs => (ed_all hf xs).2.2⟩
theorem Ed.shaped (hf : Ed f k) (hk : k ≤ 64) (x : A) : SeqAt.shaped (f x) = true := by
  show ((f x).canLay0 && decide ((f x).depth ≤ 64)) = true
  rw [hf.c, decide_eq_true (Nat.le_trans (hf.d x) hk)]
  rfl
theorem Ed.eqD {S : Type} [DecidableEq A] (hf : Ed f k) (hk : k ≤ 64) (x y : A) : (eqD (f x) (f y) : SM S Bool) = ret (decide (x = y)) := by
  unfold Td.eqD
  rw [grd_t ⟨hf.shaped hk x, hf.shaped hk y⟩, bnd_ret]
  congr 1
  by_cases e : x = y
  · rw [decide_eq_true e]; exact (hf.e x y).mpr e
  · rw [decide_eq_false e]
    cases h : PyData.eqv (f x) (f y) with
    | false => rfl
    | true => exact absurd ((hf.e x y).mp h) e
theorem Ed.neD {S : Type} [DecidableEq A] (hf : Ed f k) (hk : k ≤ 64) (x y : A) : (neD (f x) (f y) : SM S Bool) = ret (!decide (x = y)) := by
  unfold Td.neD
  rw [grd_t ⟨hf.shaped hk x, hf.shaped hk y⟩, bnd_ret]
  congr 2
  by_cases e : x = y
  · rw [decide_eq_true e]; exact (hf.e x y).mpr e
  · rw [decide_eq_false e]
    cases h : PyData.eqv (f x) (f y) with
    | false => rfl
    | true => exact absurd ((hf.e x y).mp h) e
end
end Td

set_option Elab.async false
set_option linter.all false
set_option maxRecDepth 100000
set_option maxHeartbeats 4000000
namespace Td
open Tp
section
variable {S T U : Type}
theorem ite_ret {c : Prop} [Decidable c] (a b : T) : (if c then (ret a : SM S T) else ret b) = ret (if c then a else b) := by split <;> rfl
theorem and_ret {b c : Bool} : (if b = true then (ret c : SM S Bool) else ret false) = ret (b && c) := by cases b <;> rfl
theorem or_ret {b c : Bool} : (if b = true then (ret true : SM S Bool) else ret c) = ret (b || c) := by cases b <;> rfl
theorem lcM_filter {A : Type} {f : A → SM S (Option A)} (g : A → Bool) (xs : List A) (h : ∀ x, x ∈ xs → f x = ret (if g x = true then some x else none)) (hz : xs.length ≤ PySem.sizeLine) : lcM f [] xs = ret (xs.filter g) := by
  rw [lcM_ret (fun x => if g x = true then some x else none) xs [] h (by simpa using hz), List.nil_append]
  congr 1
  clear h hz
  induction xs with
  | nil => rfl
  | cons x xs ih =>
    cases e : g x with
    | true => rw [List.filter_cons_of_pos (by rw [e]), List.filterMap_cons_some (b := x) (by simp [e]), ih]
    | false => rw [List.filter_cons_of_neg (by simp [e]), List.filterMap_cons_none (by simp [e]), ih]
theorem lcM_map {A B : Type} {f : A → SM S (Option B)} (g : A → B) (xs : List A) (h : ∀ x, x ∈ xs → f x = ret (some (g x))) (hz : xs.length ≤ PySem.sizeLine) : lcM f [] xs = ret (xs.map g) := by
  rw [lcM_ret (fun x => some (g x)) xs [] h (by simpa using hz), List.nil_append]
  congr 1
  clear h hz
  induction xs with
  | nil => rfl
  | cons x xs ih => rw [List.filterMap_cons_some (f := fun x => some (g x)) (b := g x) rfl, ih]; rfl
theorem lenG_ok {xs : List T} (h : xs.length ≤ PySem.sizeLine) : (lenG xs : SM S Unit) = ret () := by unfold lenG; exact grd_t h
theorem catM_ok {xs ys : List T} (h : xs.length + ys.length ≤ PySem.sizeLine) : (catM xs ys : SM S (List T)) = ret (xs ++ ys) := by unfold catM; rw [lenG_ok (by simpa using h)]; rfl
theorem pushM_ok {xs : List T} {y : T} (h : xs.length < PySem.sizeLine) : (pushM xs y : SM S (List T)) = ret (xs ++ [y]) := by unfold pushM; rw [grd_t h]; rfl
theorem rngG_ok {j : Int} (h : -(2 ^ 62) ≤ j ∧ j < 2 ^ 62) : (rngG j : SM S Unit) = ret () := by unfold rngG; exact grd_t h
theorem setM_ok {xs : List T} {i : Int} {v : T} (h0 : 0 ≤ i) (h1 : i < xs.length) : (setM xs i v : SM S (List T)) = ret (xs.set i.toNat v) := by
  unfold setM L2.ixN
  rw [if_pos h0, if_pos h1]
theorem hz_small {n k : Nat} (h : n ≤ k) (hk : k ≤ 16777216) : n ≤ PySem.sizeLine := by rw [PySem.sizeLine_eq]; omega
theorem upto_up (n : Nat) : upto 0 n = upI n := by
  unfold upto
  rw [← upI_range]
  congr 1
  funext i
  simp
theorem enum_enumF (xs : List Int) : enum xs = enumF 0 xs := by
  unfold enum
  rw [← enumF_eq]
  congr 1
  funext i x
  simp
/-- what an item is got by -/
theorem atI_get {xs : List T} {i : Int} {d : T} (h0 : 0 ≤ i) (h1 : i < xs.length) : L2.atI xs i = some (xs.getD i.toNat d) := by
  unfold L2.atI L2.ixN
  rw [if_pos h0, if_pos h1]
  show xs[i.toNat]? = _
  rw [List.getD_eq_getElem?_getD, List.getElem?_eq_getElem (by omega)]
  rfl
theorem ixM_get (d : T) {xs : List T} {i : Int} (h0 : 0 ≤ i) (h1 : i < xs.length) : (ixM xs i : SM S T) = ret (xs.getD i.toNat d) := by unfold ixM; rw [atI_get (d := d) h0 h1]
theorem ixM_last {xs : List T} {d : T} (h : xs ≠ []) : (ixM xs (-1) : SM S T) = ret (xs.getLast?.getD d) := by
  have hl : 0 < xs.length := List.length_pos_iff.mpr h
  unfold ixM L2.atI L2.ixN
  rw [if_neg (by decide), if_pos (by omega)]
  show (match xs[((-1 : Int) + xs.length).toNat]? with | some a => ret a | none => stk) = _
  rw [show ((-1 : Int) + xs.length).toNat = xs.length - 1 by omega, List.getLast?_eq_getElem?, List.getElem?_eq_getElem (by omega)]
  rfl
end
end Td

set_option Elab.async false
set_option linter.all false
set_option maxRecDepth 100000
set_option maxHeartbeats 4000000
namespace Tk
open Td Tp
/-! ### the program's own defs, plainly -/
theorem tix {t : TapeV} {i : Int} (h0 : 0 ≤ i) (h1 : i < t.2.length) : m_Tape_DgetitemD (t, i) = ret (t.2.getD i.toNat (0, 0)) := by
  unfold m_Tape_DgetitemD o_Tape_DgetitemD
  simp only [bnd_assoc, bnd_ret, bnd_ite, decide_eq_true h0, decide_eq_true h1, if_true, Bool.not_true, Bool.false_eq_true, if_false, ixM_get (0, 0) h0 h1, runB_rt]
theorem tln (t : TapeV) : m_Tape_DlenD t = ret (t.2.length : Int) := by
  unfold m_Tape_DlenD o_Tape_DlenD
  simp only [bnd_assoc, bnd_ret, runB_rt]
theorem tlen (t : TapeV) : m_Tape_length t = ret t.1 := by
  unfold m_Tape_length o_Tape_length
  simp only [bnd_assoc, bnd_ret, runB_rt]
/-- the files that are asked for -/
def askedL (asks : List Int) : List Int := (enum asks).filterMap fun x => if 0 < x.2 then some x.1 else none
theorem asked_eq {asks : List Int} (h : asks.length ≤ PySem.sizeLine) : m_asked_files asks = ret (askedL asks) := by
  unfold m_asked_files o_asked_files
  simp only [bnd_assoc, bnd_ret, lcIt_ret]
  rw [lcM_ret (fun (x : Int × Int) => if decide (0 < x.2) = true then some x.1 else none) _ _ (fun x _ => rfl) (by rw [enum_len]; simpa using h), bnd_ret, runB_rt, List.nil_append]
  unfold askedL
  simp only [decide_eq_true_eq]
def areAsks (k : Int) (asks : List Int) : Bool := decide ((asks.length : Int) = k) && (asks.map fun c => decide (0 ≤ c)).all id
theorem are_asks_eq {k : Int} {asks : List Int} (h : asks.length ≤ PySem.sizeLine) : m_are_asks (k, asks) = ret (areAsks k asks) := by
  unfold m_are_asks o_are_asks
  simp only [bnd_assoc, bnd_ret, lcIt_t]
  rw [lcM_map (fun (x : Int) => decide (0 ≤ x)) _ (fun x _ => rfl) h, bnd_ret, and_ret, bnd_ret, runB_rt]
  rfl
theorem small63 {n : Nat} (h : n ≤ PySem.sizeLine) : (0 : Int) ≤ (n : Int) ∧ (n : Int) < 2 ^ 63 := by
  have e : PySem.sizeLine = 16777216 := PySem.sizeLine_eq
  generalize PySem.sizeLine = z at *
  subst e
  omega
theorem check_asks_eq {t : TapeV} {asks : List Int} (h : asks.length ≤ PySem.sizeLine) (ht : t.2.length ≤ PySem.sizeLine) (ok : areAsks t.2.length asks = true) : m_check_asks (t, asks) = ret () := by
  unfold m_check_asks o_check_asks
  simp only [bnd_assoc, bnd_ret, tln, lft_ret, nxc_ret]
  rw [grd_t (small63 ht), bnd_ret, are_asks_eq h, lft_ret, bnd_ret, ok]
  simp only [Bool.not_true, Bool.false_eq_true, if_false]
  exact runP_nx
/-- a list of detours is a row -/
def rowGo (asks asked : List Int) : Int → List (Int × Int) → Bool
  | _, [] => true
  | edge, d :: r => if asked.isEmpty = true then false else if (decide (asked.headD 0 < d.1) && (decide (d.1 ≤ d.2) && decide (d.2 < asks.length))) = false then false else if edge ≤ d.1 then false
    else if asks.getD d.1.toNat 0 = 0 then false else if asks.getD d.2.toNat 0 = 0 then false else rowGo asks asked d.1 r
theorem asked_nn {asks : List Int} : ∀ x, x ∈ askedL asks → 0 ≤ x ∧ x < asks.length := by
  intro x hx
  unfold askedL enum at hx
  obtain ⟨y, hy, e⟩ := List.mem_filterMap.mp hx
  obtain ⟨i, hi, e2⟩ := List.mem_mapIdx.mp hy
  subst e2
  split at e
  · cases e; simp; omega
  · cases e
theorem is_row_eq {asks : List Int} {row : List (Int × Int)} (h : asks.length ≤ PySem.sizeLine) : m_is_row (asks, row) = ret (rowGo asks (askedL asks) asks.length row) := by
  unfold m_is_row o_is_row
  simp only [bnd_assoc, bnd_ret, asked_eq h, lft_ret]
  have main : ∀ (row : List (Int × Int)) (edge : Int) (f : Int → (Int × Int) → SM Unit (Fl Int Int Bool)),
      (∀ edge d, f edge d = if (askedL asks).isEmpty = true then ret (.rt false) else if (decide ((askedL asks).headD 0 < d.1) && (decide (d.1 ≤ d.2) && decide (d.2 < asks.length))) = false then ret (.rt false) else if edge ≤ d.1 then ret (.rt false)
        else if asks.getD d.1.toNat 0 = 0 then ret (.rt false) else if asks.getD d.2.toNat 0 = 0 then ret (.rt false) else ret (.nx d.1)) →
      ∃ z, forM_ row f edge = ret (if rowGo asks (askedL asks) edge row = true then .dn z else .rt false) := by
    intro row
    induction row with
    | nil => intro edge f _; exact ⟨edge, rfl⟩
    | cons d row ih =>
      intro edge f hf
      unfold forM_
      rw [hf, rowGo]
      by_cases e1 : (askedL asks).isEmpty = true
      · rw [if_pos e1, if_pos e1]; exact ⟨0, rfl⟩
      · rw [if_neg e1, if_neg e1]
        by_cases e2 : (decide ((askedL asks).headD 0 < d.1) && (decide (d.1 ≤ d.2) && decide (d.2 < asks.length))) = false
        · rw [if_pos e2, if_pos e2]; exact ⟨0, rfl⟩
        · rw [if_neg e2, if_neg e2]
          by_cases e3 : edge ≤ d.1
          · rw [if_pos e3, if_pos e3]; exact ⟨0, rfl⟩
          · rw [if_neg e3, if_neg e3]
            by_cases e4 : asks.getD d.1.toNat 0 = 0
            · rw [if_pos e4, if_pos e4]; exact ⟨0, rfl⟩
            · rw [if_neg e4, if_neg e4]
              by_cases e5 : asks.getD d.2.toNat 0 = 0
              · rw [if_pos e5, if_pos e5]; exact ⟨0, rfl⟩
              · rw [if_neg e5, if_neg e5, bnd_ret]
                exact ih d.1 f hf
  suffices hs : ∃ z, forM_ row _ (asks.length : Int) = ret (if rowGo asks (askedL asks) asks.length row = true then .dn z else .rt false) by
    obtain ⟨z, hz⟩ := hs
    rw [hz]
    cases e : rowGo asks (askedL asks) asks.length row with
    | true => rw [if_pos rfl, lpM_dn, runB_rt]
    | false => rw [if_neg (by simp), lpM_rt, runB_rt]
  refine main row _ _ ?_
  · intro edge d
    have hz := hz_small (n := 0) (k := 0) (by omega) (by omega)
    cases e1 : (askedL asks).isEmpty with
    | true => simp [e1, bnd_ret, esc_ret]
    | false =>
      have hne : askedL asks ≠ [] := by intro z; rw [z] at e1; cases e1
      have hl : 0 < (askedL asks).length := List.length_pos_iff.mpr hne
      have hh : (ixM (askedL asks) 0 : SM Unit Int) = ret ((askedL asks).headD 0) := by
        rw [ixM_get 0 (by omega) (by omega)]
        cases h : askedL asks with
        | nil => exact absurd h hne
        | cons a l => rfl
      simp only [hh, bnd_ret, Bool.not_false, Bool.not_true, Bool.false_eq_true, if_false]
      have hge : (askedL asks).headD 0 ≥ 0 := by
        cases h : askedL asks with
        | nil => exact absurd h hne
        | cons a l => exact (asked_nn a (by rw [h]; exact List.mem_cons_self ..)).1
      simp only [and_ret, bnd_ret]
      by_cases c1 : (decide ((askedL asks).headD 0 < d.1) && (decide (d.1 ≤ d.2) && decide (d.2 < asks.length))) = true
      · have c := c1
        simp only [Bool.and_eq_true, decide_eq_true_eq] at c
        have i1 : (ixM asks d.1 : SM Unit Int) = ret (asks.getD d.1.toNat 0) := ixM_get 0 (by omega) (by omega)
        have i2 : (ixM asks d.2 : SM Unit Int) = ret (asks.getD d.2.toNat 0) := ixM_get 0 (by omega) (by omega)
        simp only [c1, i1, i2, bnd_ret, Bool.not_true, Bool.false_eq_true, Bool.true_eq_false, if_false, or_ret]
        by_cases c2 : edge ≤ d.1
        · simp only [c2, decide_true, if_true, bnd_ret, esc_ret]
        · simp only [c2, decide_false, Bool.false_eq_true, if_false]
          by_cases c3 : asks.getD d.1.toNat 0 = 0
          · simp only [c3, decide_true, Bool.true_or, if_true, bnd_ret, esc_ret]
          · simp only [c3, decide_false, Bool.false_or, if_false]
            by_cases c4 : asks.getD d.2.toNat 0 = 0
            · simp only [c4, decide_true, if_true, bnd_ret, esc_ret]
            · simp only [c4, decide_false, Bool.false_eq_true, if_false]
      · have c2 : (decide ((askedL asks).headD 0 < d.1) && (decide (d.1 ≤ d.2) && decide (d.2 < asks.length))) = false := by simpa using c1
        simp only [c2, Bool.not_false, if_true, bnd_ret, esc_ret]
theorem check_row_eq {asks : List Int} {row : List (Int × Int)} (h : asks.length ≤ PySem.sizeLine) (ok : rowGo asks (askedL asks) asks.length row = true) : m_check_row (asks, row) = ret () := by
  unfold m_check_row o_check_row
  simp only [bnd_assoc, bnd_ret, is_row_eq h, lft_ret, ok]
  simp only [Bool.not_true, Bool.false_eq_true, if_false]
  exact runP_nx
end Tk

set_option Elab.async false
set_option linter.all false
set_option maxRecDepth 100000
set_option maxHeartbeats 4000000
namespace Tk
open Td Tp
theorem filter_lcM {S : Type} {u : List Int} {f : Int → SM S (Option Int)} (g : Int → Bool) (h : ∀ x, f x = ret (if g x = true then some x else none)) (hz : u.length ≤ PySem.sizeLine) : lcM f [] u = ret (u.filter g) := lcM_filter g u (fun x _ => h x) hz
theorem asked_len {asks : List Int} : (askedL asks).length ≤ asks.length := by
  unfold askedL
  exact Nat.le_trans (List.length_filterMap_le ..) (by rw [enum_len]; exact Nat.le_refl _)
theorem fresh_eq {asks : List Int} {row : List (Int × Int)} (h : asks.length ≤ PySem.sizeLine) (hr : row.length < PySem.sizeLine) : m_fresh_runs (asks, row) = ret (fr (askedL asks) row) := by
  unfold m_fresh_runs o_fresh_runs
  simp only [bnd_assoc, bnd_ret, asked_eq h, lft_ret]
  rw [lenG_ok (by simp), bnd_ret]
  rw [forM_nx (fun (l : List (List Int) × List Int) d => (l.1 ++ [l.2.filter (inD d.1 d.2)], l.2.filter fun x => !inD d.1 d.2 x)) row ([], askedL asks) ?_]
  · rw [lpM_dn, fr_foldl, List.nil_append, lenG_ok (by rw [fr_len]; exact hr), bnd_ret, runB_rt]
  · intro ys d zs e
    have inv : ∀ (ys : List (Int × Int)) (l : List (List Int) × List Int), (ys.foldl (fun (l : List (List Int) × List Int) d => (l.1 ++ [l.2.filter (inD d.1 d.2)], l.2.filter fun x => !inD d.1 d.2 x)) l).1.length = l.1.length + ys.length ∧ (ys.foldl (fun (l : List (List Int) × List Int) d => (l.1 ++ [l.2.filter (inD d.1 d.2)], l.2.filter fun x => !inD d.1 d.2 x)) l).2.length ≤ l.2.length := by
      intro ys
      induction ys with
      | nil => intro l; exact ⟨rfl, Nat.le_refl _⟩
      | cons y ys ih =>
        intro l
        obtain ⟨a, b⟩ := ih (l.1 ++ [l.2.filter (inD y.1 y.2)], l.2.filter fun x => !inD y.1 y.2 x)
        refine ⟨?_, Nat.le_trans b (List.length_filter_le ..)⟩
        rw [List.foldl_cons, a, List.length_append, List.length_cons]
        simp only [List.length_cons, List.length_nil]
        omega
    obtain ⟨i1, i2⟩ := inv ys ([], askedL asks)
    have hl : ys.length < row.length := by rw [e]; simp
    generalize ys.foldl _ ([], askedL asks) = l at *
    have hz : l.2.length ≤ PySem.sizeLine := Nat.le_trans i2 (Nat.le_trans asked_len h)
    have hz2 : l.1.length < PySem.sizeLine := by rw [i1]; simp only [List.length_nil]; omega
    rw [filter_lcM (inD d.1 d.2) (fun x => by simp only [lcIt_ret, ite_ret]; rfl) hz, bnd_ret, pushM_ok hz2, bnd_ret]
    rw [filter_lcM (fun x => !inD d.1 d.2 x) (fun x => by simp only [lcIt_ret, ite_ret, bnd_ret]; rfl) hz, bnd_ret]
/-- a row that stands on a tape -/
structure Fit (t : TapeV) (asks : List Int) (row : List (Int × Int)) : Prop where
  len : t.2.length = asks.length
  small : asks.length ≤ 60
  rsmall : row.length ≤ 1000
  ok : areAsks t.2.length asks = true
  row : rowGo asks (askedL asks) asks.length row = true
theorem Fit.z {t : TapeV} {asks : List Int} {row : List (Int × Int)} (h : Fit t asks row) : asks.length ≤ PySem.sizeLine := hz_small h.small (by omega)
theorem Fit.zr {t : TapeV} {asks : List Int} {row : List (Int × Int)} (h : Fit t asks row) : row.length < PySem.sizeLine := by
  have := hz_small (n := row.length + 1) (k := 1001) (by have := h.rsmall; omega) (by omega)
  omega
/-- what a row says -/
structure RowP (asks : List Int) (row : List (Int × Int)) : Prop where
  m : ∀ d, d ∈ row → d.1 ∈ askedL asks ∧ d.2 ∈ askedL asks ∧ d.1 ≤ d.2 ∧ (askedL asks).headD 0 < d.1
  d : row.Pairwise (fun a b => b.1 < a.1)
theorem mem_asked {asks : List Int} {i : Int} : i ∈ askedL asks ↔ 0 ≤ i ∧ i < asks.length ∧ 0 < asks.getD i.toNat 0 := by
  unfold askedL enum
  rw [List.mem_filterMap]
  constructor
  · rintro ⟨y, hy, e⟩
    obtain ⟨j, hj, e2⟩ := List.mem_mapIdx.mp hy
    subst e2
    dsimp only at e
    by_cases hc : 0 < asks[j]
    · rw [if_pos hc] at e
      cases e
      refine ⟨by omega, by omega, ?_⟩
      rw [List.getD_eq_getElem?_getD, List.getElem?_eq_getElem (by omega)]
      exact hc
    · rw [if_neg hc] at e; cases e
  · rintro ⟨h0, h1, h2⟩
    have hj : i.toNat < asks.length := by omega
    rw [List.getD_eq_getElem?_getD, List.getElem?_eq_getElem hj] at h2
    refine ⟨((i.toNat : Int), asks[i.toNat]), List.mem_mapIdx.mpr ⟨i.toNat, hj, rfl⟩, ?_⟩
    dsimp only
    rw [if_pos (by simpa using h2)]
    congr 1
    omega
theorem asked_asc (asks : List Int) : (askedL asks).Pairwise (· < ·) := by
  unfold askedL enum
  rw [List.pairwise_filterMap]
  rw [List.pairwise_iff_getElem]
  intro i j hi hj hij b hb c hc
  simp only [List.getElem_mapIdx] at hb hc
  split at hb
  · split at hc
    · cases hb; cases hc; omega
    · cases hc
  · cases hb
theorem rowGo_p {asks : List Int} (h0 : ∀ c, c ∈ asks → 0 ≤ c) : ∀ {row : List (Int × Int)} {edge : Int}, rowGo asks (askedL asks) edge row = true → RowP asks row ∧ askedL asks ≠ [] ∨ row = []
  | [], _, _ => .inr rfl
  | d :: r, edge, h => by
    left
    have main : ∀ {row : List (Int × Int)} {edge : Int}, rowGo asks (askedL asks) edge row = true → (∀ d, d ∈ row → d.1 < edge ∧ (d.1 ∈ askedL asks ∧ d.2 ∈ askedL asks ∧ d.1 ≤ d.2 ∧ (askedL asks).headD 0 < d.1) ∧ askedL asks ≠ []) ∧ row.Pairwise (fun a b => b.1 < a.1) := by
      intro row
      induction row with
      | nil => intro edge _; exact ⟨fun d hd => (by cases hd), .nil⟩
      | cons d r ih =>
        intro edge h
        rw [rowGo] at h
        split at h
        · cases h
        · rename_i e1
          split at h
          · cases h
          · rename_i e2
            split at h
            · cases h
            · rename_i e3
              split at h
              · cases h
              · rename_i e4
                split at h
                · cases h
                · rename_i e5
                  have e2' : (decide ((askedL asks).headD 0 < d.1) && (decide (d.1 ≤ d.2) && decide (d.2 < asks.length))) = true := by simpa using e2
                  simp only [Bool.and_eq_true, decide_eq_true_eq] at e2'
                  have hne : askedL asks ≠ [] := by intro z; rw [z] at e1; exact e1 rfl
                  have hh : 0 ≤ (askedL asks).headD 0 := by
                    cases h : askedL asks with
                    | nil => exact absurd h hne
                    | cons a l => exact (asked_nn a (by rw [h]; exact List.mem_cons_self ..)).1
                  have nn : ∀ i : Int, 0 ≤ i → i < asks.length → asks.getD i.toNat 0 ≠ 0 → i ∈ askedL asks := fun i h1 h2 h3 => by
                    rw [mem_asked]
                    refine ⟨h1, h2, ?_⟩
                    have hj : i.toNat < asks.length := by omega
                    rw [List.getD_eq_getElem?_getD, List.getElem?_eq_getElem hj] at h3 ⊢
                    have := h0 _ (List.getElem_mem hj)
                    simp only [Option.getD_some] at h3 ⊢
                    omega
                  have hd : d.1 < edge ∧ (d.1 ∈ askedL asks ∧ d.2 ∈ askedL asks ∧ d.1 ≤ d.2 ∧ (askedL asks).headD 0 < d.1) ∧ askedL asks ≠ [] := ⟨by omega, ⟨nn _ (by omega) (by omega) e4, nn _ (by omega) (by omega) e5, by omega, by omega⟩, hne⟩
                  obtain ⟨i1, i2⟩ := ih h
                  refine ⟨fun x hx => ?_, ?_⟩
                  · rcases List.mem_cons.mp hx with hx | hx
                    · subst hx; exact hd
                    · have := i1 x hx
                      exact ⟨by omega, this.2⟩
                  · rw [List.pairwise_cons]
                    exact ⟨fun x hx => (i1 x hx).1, i2⟩
    obtain ⟨i1, i2⟩ := main h
    exact ⟨⟨fun x hx => (i1 x hx).2.1, i2⟩, (i1 d (List.mem_cons_self ..)).2.2⟩
end Tk

set_option Elab.async false
set_option linter.all false
set_option maxRecDepth 100000
set_option maxHeartbeats 4000000
namespace Tk
open Td Tp
theorem Fit.zt {t : TapeV} {asks : List Int} {row : List (Int × Int)} (h : Fit t asks row) : t.2.length ≤ PySem.sizeLine := by rw [h.len]; exact h.z
theorem Fit.nn {t : TapeV} {asks : List Int} {row : List (Int × Int)} (h : Fit t asks row) : ∀ c, c ∈ asks → 0 ≤ c := fun c hc => by
  have := h.ok
  unfold areAsks at this
  simp only [Bool.and_eq_true, List.all_eq_true, List.mem_map] at this
  have := this.2 (decide (0 ≤ c)) ⟨c, hc, rfl⟩
  simpa using this
theorem Fit.rp {t : TapeV} {asks : List Int} {row : List (Int × Int)} (h : Fit t asks row) : RowP asks row := by
  rcases rowGo_p h.nn h.row with z | z
  · exact z.1
  · subst z; exact ⟨fun d hd => (by cases hd), .nil⟩
theorem Fit.ix {t : TapeV} {asks : List Int} {row : List (Int × Int)} (h : Fit t asks row) {i : Int} (hi : i ∈ askedL asks) : m_Tape_DgetitemD (t, i) = ret (t.2.getD i.toNat (0, 0)) := by
  have := asked_nn i hi
  exact tix this.1 (by rw [h.len]; exact this.2)
def wayL (t : TapeV) (asks : List Int) (row : List (Int × Int)) : List Int := if (askedL asks).isEmpty = true then [t.1] else
  (row.flatMap fun d => [bg t d.1, en t d.2]) ++ [bg t ((askedL asks).headD 0), en t (lastI (lastR (fr (askedL asks) row)))]
theorem foldl_flat {A B : Type} (g : A → List B) : ∀ (xs : List A) (l : List B), xs.foldl (fun l x => l ++ g x) l = l ++ xs.flatMap g
  | [], l => by simp
  | x :: xs, l => by rw [List.foldl_cons, foldl_flat g xs, List.flatMap_cons, List.append_assoc]
theorem last_mem {u : List Int} {row : List (Int × Int)} (hu : u ≠ []) (h : ∀ d, d ∈ row → u.headD 0 < d.1) : lastR (fr u row) ≠ [] ∧ lastI (lastR (fr u row)) ∈ u := by
  cases u with
  | nil => exact absurd rfl hu
  | cons a u =>
    have h1 := fr_last (row := row) (u := a :: u) (List.mem_cons_self ..) h
    have e : lastR (fr (a :: u) row) = (fr (a :: u) row).getLast (fr_ne _ _) := by
      unfold lastR
      rw [List.getLast?_eq_some_getLast (fr_ne _ _)]
      rfl
    rw [e]
    have hne : (fr (a :: u) row).getLast (fr_ne _ _) ≠ [] := List.ne_nil_of_mem h1
    refine ⟨hne, ?_⟩
    unfold lastI
    rw [List.getLast?_eq_some_getLast hne]
    exact fr_mem (List.getLast_mem (fr_ne _ _)) (List.getLast_mem hne)
theorem way_eq {t : TapeV} {asks : List Int} {row : List (Int × Int)} (h : Fit t asks row) : m_way (t, asks, row) = ret (wayL t asks row) := by
  have hp := h.rp
  have hsz : PySem.sizeLine = 16777216 := PySem.sizeLine_eq
  unfold m_way o_way wayL
  simp only [bnd_assoc, bnd_ret, check_asks_eq h.z h.zt h.ok, check_row_eq h.z h.row, asked_eq h.z, fresh_eq h.z h.zr, lft_ret, nxc_ret, tlen]
  cases e1 : (askedL asks).isEmpty with
  | true =>
    simp only [Bool.not_true, Bool.not_false, if_true]
    rw [lenG_ok (hz_small (k := 1) (Nat.le_refl _) (by omega)), bnd_ret, esc_ret, runB_rt]
  | false =>
    have hne : askedL asks ≠ [] := by intro z; rw [z] at e1; cases e1
    have hl : 0 < (askedL asks).length := List.length_pos_iff.mpr hne
    have hh : (ixM (askedL asks) 0 : SM Unit Int) = ret ((askedL asks).headD 0) := by
      rw [ixM_get 0 (by omega) (by omega)]
      cases h : askedL asks with
      | nil => exact absurd h hne
      | cons a l => rfl
    have hm : (askedL asks).headD 0 ∈ askedL asks := by
      cases h : askedL asks with
      | nil => exact absurd h hne
      | cons a l => exact List.mem_cons_self ..
    obtain ⟨l1, l2⟩ := last_mem hne fun d hd => (hp.m d hd).2.2.2
    simp only [Bool.not_true, Bool.not_false, Bool.false_eq_true, if_false]
    rw [lenG_ok (by simp), bnd_ret]
    have hr := h.rsmall
    have fl2 : ∀ (row : List (Int × Int)), (row.flatMap fun d => [bg t d.1, en t d.2]).length = 2 * row.length := by
      intro row
      induction row with
      | nil => rfl
      | cons d r ih => rw [List.flatMap_cons, List.length_append, ih, List.length_cons]; simp only [List.length_cons, List.length_nil]; omega
    rw [forM_nx (fun (l : List Int) (d : Int × Int) => l ++ [bg t d.1, en t d.2]) row [] ?_]
    · rw [lpM_dn, hh, bnd_ret, h.ix hm, lft_ret, nxc_ret, bnd_ret]
      rw [ixM_last (d := []) (fr_ne _ _), bnd_ret]
      have e2 : (fr (askedL asks) row).getLast?.getD [] = lastR (fr (askedL asks) row) := rfl
      rw [e2, ixM_last (d := 0) l1, bnd_ret]
      have e3 : (lastR (fr (askedL asks) row)).getLast?.getD 0 = lastI (lastR (fr (askedL asks) row)) := rfl
      rw [e3, h.ix l2, lft_ret, nxc_ret, bnd_ret]
      rw [foldl_flat, List.nil_append, lenG_ok, bnd_ret, runB_rt]
      · rfl
      · rw [List.length_append, fl2]
        exact hz_small (k := 2010) (by simp only [List.length_cons, List.length_nil]; omega) (by omega)
    · intro ys d zs e
      have hd : d ∈ row := by rw [e]; simp
      obtain ⟨d1, d2, _⟩ := hp.m d hd
      have hy : ys.length < row.length := by rw [e]; simp
      rw [h.ix d1, lft_ret, nxc_ret, bnd_ret, h.ix d2, lft_ret, nxc_ret, bnd_ret, lenG_ok (hz_small (k := 2) (Nat.le_refl _) (by omega)), bnd_ret, foldl_flat, List.nil_append, catM_ok ?_, bnd_ret]
      · rfl
      · rw [fl2]
        exact hz_small (k := 2010) (by simp only [List.length_cons, List.length_nil]; omega) (by omega)
def waitsL (t : TapeV) (asks : List Int) (row : List (Int × Int)) : Fd := ((enumF 0 (wayL t asks row)).foldl (wStep t (fr (askedL asks) row)) (asks.map fun _ => none, t.1, 0)).1
theorem enumF_mem : ∀ {xs : List Int} {k : Nat} {x : Int × Int}, x ∈ enumF k xs → (k : Int) ≤ x.1 ∧ x.1 < k + xs.length
  | [], _, _, h => by cases h
  | y :: ys, k, x, h => by
    rw [enumF] at h
    rcases List.mem_cons.mp h with h | h
    · subst h; simp; omega
    · have := enumF_mem h
      simp at this ⊢; omega
theorem way_len {t : TapeV} {asks : List Int} {row : List (Int × Int)} : (wayL t asks row).length = if (askedL asks).isEmpty = true then 1 else 2 * (row.length + 1) := by
  unfold wayL
  split
  · rfl
  · have fl2 : ∀ (row : List (Int × Int)), (row.flatMap fun d => [bg t d.1, en t d.2]).length = 2 * row.length := by
      intro row
      induction row with
      | nil => rfl
      | cons d r ih => rw [List.flatMap_cons, List.length_append, ih, List.length_cons]; simp only [List.length_cons, List.length_nil]; omega
    rw [List.length_append, fl2]; simp only [List.length_cons, List.length_nil]; omega
theorem wStep_len (t : TapeV) (runs : List (List Int)) (l : Fd × Int × Int) (x : Int × Int) : (wStep t runs l x).1.length = l.1.length := by
  unfold wStep
  dsimp only
  split
  · exact put_len ..
  · rfl
theorem divM2 {S : Type} {i : Int} : (divM i 2 : SM S Int) = ret (i / 2) := by
  unfold divM grdI
  rw [grd_t (by unfold L2.CDivN; decide)]
  show ret (i.fdiv 2) = _
  rw [Int.fdiv_eq_ediv_of_nonneg i (by omega)]
theorem waits_eq {t : TapeV} {asks : List Int} {row : List (Int × Int)} (h : Fit t asks row) : m_waits (t, asks, row) = ret (waitsL t asks row) := by
  unfold m_waits o_waits waitsL
  simp only [bnd_assoc, bnd_ret, way_eq h, fresh_eq h.z h.zr, lft_ret, nxc_ret, tlen, lcIt_t]
  rw [lcM_map (fun _ => (none : Option (Int × Int))) _ (fun x _ => rfl) h.z, bnd_ret, enum_enumF]
  rw [forM_nx (fun (l : Fd × Int × Int) x => wStep t (fr (askedL asks) row) l x) (enumF 0 (wayL t asks row)) _ ?_]
  · rw [lpM_dn, runB_rt]
  · intro ys x zs e
    have inv : ∀ (ys : List (Int × Int)) (l : Fd × Int × Int), (ys.foldl (fun (l : Fd × Int × Int) x => wStep t (fr (askedL asks) row) l x) l).1.length = l.1.length := by
      intro ys
      induction ys with
      | nil => intro l; rfl
      | cons y ys ih => intro l; rw [List.foldl_cons, ih, wStep_len]
    have hlen := inv ys (asks.map fun _ => none, t.1, 0)
    rw [List.length_map] at hlen
    have hx := enumF_mem (xs := wayL t asks row) (k := 0) (x := x) (by rw [e]; simp)
    generalize ys.foldl (fun (l : Fd × Int × Int) x => wStep t (fr (askedL asks) row) l x) _ = l at *
    simp only [modM_ok (show (0 : Int) < 2 by decide), bnd_ret, ite_ret]
    have tail : ∀ fd : Fd, (bnd (ret (if x.2 - l.2.1 < 0 then -(x.2 - l.2.1) else x.2 - l.2.1)) fun a => (ret (Fl.nx (fd, x.2, l.2.2 + a)) : SM Unit (Fl (Fd × Int × Int) (Fd × Int × Int) Fd))) = ret (Fl.nx (fd, x.2, l.2.2 + aI (x.2 - l.2.1))) := fun fd => by
      rw [bnd_ret]; rfl
    by_cases hodd : x.1 % 2 = 1
    · have ne : (askedL asks).isEmpty = false := by
        cases e2 : (askedL asks).isEmpty with
        | false => rfl
        | true => rw [way_len, if_pos e2] at hx; omega
      rw [way_len, if_neg (by simp [ne])] at hx
      have hrl : (x.1 / 2).toNat < (fr (askedL asks) row).length := by rw [fr_len]; omega
      simp only [hodd, decide_true, if_true, divM2, bnd_ret]
      rw [ixM_get [] (by omega) (by rw [fr_len]; omega), bnd_ret]
      have hmem : ∀ i, i ∈ (fr (askedL asks) row).getD (x.1 / 2).toNat [] → i ∈ askedL asks := fun i hi => by
        rw [List.getD_eq_getElem?_getD, List.getElem?_eq_getElem hrl] at hi
        exact fr_mem (List.getElem_mem hrl) hi
      rw [forM_nx (fun (fd : Fd) i => fd.set i.toNat (some (l.2.2 + en t i - l.2.1, x.1))) _ _ ?_]
      · rw [lpM_dn, thn_nx]
        unfold wStep
        rw [if_pos hodd]
        rfl
      · intro as i bs e3
        have hi : i ∈ askedL asks := hmem i (by rw [e3]; simp)
        have := asked_nn i hi
        have il : ∀ (as : List Int) (fd : Fd), (as.foldl (fun (fd : Fd) i => fd.set i.toNat (some (l.2.2 + en t i - l.2.1, x.1))) fd).length = fd.length := by
          intro as
          induction as with
          | nil => intro fd; rfl
          | cons a as ih => intro fd; rw [List.foldl_cons, ih, List.length_set]
        rw [h.ix hi, lft_ret, nxc_ret, bnd_ret, setM_ok this.1 (by rw [il, hlen]; exact this.2), bnd_ret]
        rfl
    · simp only [hodd, decide_false, Bool.false_eq_true, if_false, thn_nx]
      unfold wStep
      rw [if_neg hodd]
      rfl
end Tk

set_option Elab.async false
set_option linter.all false
set_option maxRecDepth 100000
set_option maxHeartbeats 4000000
namespace Tk
open Td Tp L2
theorem put_all {P : Int × Int → Prop} (t : Tape) (a b c : Int) (run : List Int) (h : ∀ i, i ∈ run → P (a + en t i - b, c)) : ∀ (fd : Fd), (∀ w, some w ∈ fd → P w) → ∀ w, some w ∈ put t a b c run fd → P w := by
  unfold put
  induction run with
  | nil => intro fd h; exact h
  | cons x r ih =>
    intro fd hfd
    rw [List.foldl_cons]
    refine ih (fun i hi => h i (List.mem_cons_of_mem _ hi)) _ fun w hw => ?_
    rcases List.mem_or_eq_of_mem_set hw with z | z
    · exact hfd w z
    · cases z; exact h x (List.mem_cons_self ..)
/-- how large waits may be: any bound of the places -/
def Sml (c : Int) : Prop := -(2 ^ 64) < c ∧ c < 2 ^ 64
theorem mulM_sm {S : Type} {i j : Int} (h : Sml i) : (mulM i j : SM S Int) = ret (i * j) := mulM_ok (.inl h)
theorem mulM_sm2 {S : Type} {i j : Int} (h : Sml j) : (mulM i j : SM S Int) = ret (i * j) := mulM_ok (.inr h)
theorem total_eq {t : TapeV} {asks : List Int} {row : List (Int × Int)} (h : Fit t asks row) (ha : ∀ c, c ∈ asks → Sml c) : m_total (t, asks, row) = ret (totL asks (waitsL t asks row)) := by
  unfold m_total o_total totL
  simp only [bnd_assoc, bnd_ret, waits_eq h, lft_ret]
  rw [forM_nx (fun (l : Int × Int) (x : Int × Option (Int × Int)) => match x.2 with | some w => (l.1 + x.1 * w.1, l.2 + x.1 * w.2) | none => l) _ _ ?_]
  · rw [lpM_dn]; exact runB_rt _
  · intro ys x zs e
    have hx : x.1 ∈ asks := (List.of_mem_zip (a := x.1) (b := x.2) (by rw [e]; simp)).1
    generalize ys.foldl _ _ = l
    obtain ⟨c, w⟩ := x
    cases w with
    | none => rfl
    | some w =>
      simp only [Option.isSome_some, if_true, optM, bnd_ret, mulM_sm (ha c hx), thn_nx]
theorem wh_euclid {S : Type} {fuel : Nat} (f : Int × Int → SM S (Fl (Int × Int) (Int × Int) (Int × Int))) (tst : Int × Int → SM S Bool) (ht : ∀ l, tst l = ret (l.2 != 0)) (hf : ∀ l : Int × Int, 0 < l.2 → f l = ret (.nx (l.2, l.1 % l.2))) : ∀ {x y : Int}, 0 ≤ x → 0 ≤ y → y.toNat < fuel →
    (whileM_ fuel tst f (x, y) : SM S (Lp (Int × Int) (Int × Int))) = ret (.dn ((Int.gcd x y : Int), 0)) := by
  induction fuel with
  | zero => intro x y _ _ h; omega
  | succ fuel ih =>
    intro x y hx hy h
    unfold whileM_
    rw [ht, bnd_ret]
    by_cases h0 : y = 0
    · subst h0
      have e : Int.gcd x 0 = x.natAbs := Int.gcd_zero_right x
      rw [if_neg (by simp), e, Int.natAbs_of_nonneg hx]
    · have hp : 0 < y := by omega
      rw [if_pos (by simp [h0]), hf _ hp, bnd_ret]
      have hm0 := Int.emod_nonneg x h0
      have hm1 := Int.emod_lt_of_pos x hp
      have z := ih (x := y) (y := x % y) hy hm0 (by omega)
      have eg : Int.gcd y (x % y) = Int.gcd x y := by
        unfold Int.gcd
        rw [Int.natAbs_emod_of_nonneg hx, Nat.gcd_comm, ← Nat.gcd_rec, Nat.gcd_comm]
      rw [eg] at z
      exact z
theorem divM_pos {S : Type} {i j : Int} (h : 0 < j) (h2 : j < 2 ^ 30) : (divM i j : SM S Int) = ret (i / j) := by
  unfold divM grdI
  rw [grd_t (by unfold L2.CDivN; omega)]
  show ret (i.fdiv j) = _
  rw [Int.fdiv_eq_ediv_of_nonneg i (by omega)]
theorem gcd_abs {x y : Int} : Int.gcd (if x < 0 then -x else x) (if y < 0 then -y else y) = Int.gcd x y := by
  split <;> split <;> simp [Int.neg_gcd, Int.gcd_neg]
theorem gcd_le {x y : Int} (h : 0 < y) : (Int.gcd x y : Int) ≤ y := Int.le_of_dvd h (Int.gcd_dvd_right ..)
theorem lowest_eq {x y : Int} (h : 0 < y) (h2 : y < 2 ^ 30) : m_lowest (x, y) = ret (low x y) := by
  unfold m_lowest o_lowest low
  simp only [bnd_assoc, bnd_ret]
  rw [wh_euclid _ _ (fun l => rfl) (fun l hl => by rw [modM_ok hl, bnd_ret]) (by split <;> omega) (by split <;> omega) (by rw [if_neg (by omega)]; omega), gcd_abs]
  have hg := gcd_pos (x := x) h
  simp only [lpM_dn, bnd_ret, h, decide_true, if_true, mulM_sm (show Sml 1 by unfold Sml; decide), Int.one_mul, divM_pos hg (Int.lt_of_le_of_lt (gcd_le h) h2), runB_rt]
theorem is_less_eq {p q : Int × Int} (h : Sml p.2) (h2 : Sml q.2) : m_is_less (p, q) = ret (lessF p q) := by
  unfold m_is_less o_is_less lessF
  simp only [bnd_assoc, bnd_ret, mulM_sm2 h, mulM_sm2 h2, runB_rt]
theorem worth_eq {w c : Int × Int} (h : Sml c.1) (h2 : c.2 < 2 ^ 30) (hp : 0 < c.2) : m_worth (w, c) = ret (worthL w c) := by
  unfold m_worth o_worth worthL
  simp only [bnd_assoc, bnd_ret, mulM_sm2 h, mulM_sm2 (show Sml c.2 by unfold Sml; omega), lowest_eq hp h2, lft_ret, runB_rt]
  rfl
/-- a right cost, reduced -/
structure Cost (c : Int × Int) : Prop where
  n : 0 ≤ c.1
  p : 0 < c.2
  s1 : Sml c.1
  s2 : c.2 < 2 ^ 30
  g : low c.1 c.2 = c
theorem eqD_ok {S : Type} {x y : PySem.PyData} (h : PySem.SeqAt.shaped x = true ∧ PySem.SeqAt.shaped y = true) : (eqD x y : SM S Bool) = ret (PySem.PyData.eqv x y) := by
  unfold eqD
  rw [grd_t h, bnd_ret]
theorem is_fraction_eq {c : Int × Int} (h : Cost c) : m_is_fraction c = ret true := by
  have e1 : decide (1 ≤ c.2) = true := decide_eq_true (by have := h.p; omega)
  unfold m_is_fraction o_is_fraction
  simp only [bnd_assoc, bnd_ret, e1, if_true]
  rw [lowest_eq h.p h.s2, lft_ret, bnd_ret, h.g]
  rw [eqD_ok (by constructor <;> rfl), bnd_ret, runB_rt]
  congr 1
  exact PySem.SeqAt.eqv_refl _ rfl
theorem is_cost_eq {c : Int × Int} (h : Cost c) : m_is_cost c = ret true := by
  unfold m_is_cost o_is_cost
  simp only [bnd_assoc, bnd_ret, is_fraction_eq h, lft_ret, if_true, decide_eq_true h.n, runB_rt]
theorem check_cost_eq {c : Int × Int} (h : Cost c) : m_check_cost c = ret () := by
  unfold m_check_cost o_check_cost
  simp only [bnd_assoc, bnd_ret, is_cost_eq h, lft_ret, Bool.not_true, Bool.false_eq_true, if_false]
  exact runP_nx
theorem low_le {x y : Int} (h : 0 < y) : (low x y).2 ≤ y := by
  unfold low
  exact Int.ediv_le_self _ (by omega)
theorem longest_eq {t : TapeV} {asks : List Int} {row : List (Int × Int)} {c : Int × Int} (h : Fit t asks row) (hc : Cost c) : m_longest (t, asks, row, c) = ret (longL (waitsL t asks row) c) := by
  unfold m_longest o_longest longL
  simp only [bnd_assoc, bnd_ret, waits_eq h, check_cost_eq hc, lft_ret]
  rw [forM_nx (fun (m : Int × Int) (w : Option (Int × Int)) => match w with | some w => if lessF m (worthL w c) = true then worthL w c else m | none => m) _ _ ?_]
  · rw [lpM_dn]; exact runB_rt _
  · intro ys x zs e
    have hp := hc.p
    have inv : ∀ (ys : Fd) (m : Int × Int), 0 < m.2 ∧ m.2 ≤ c.2 → 0 < (ys.foldl (fun (m : Int × Int) (w : Option (Int × Int)) => match w with | some w => if lessF m (worthL w c) = true then worthL w c else m | none => m) m).2 ∧ (ys.foldl (fun (m : Int × Int) (w : Option (Int × Int)) => match w with | some w => if lessF m (worthL w c) = true then worthL w c else m | none => m) m).2 ≤ c.2 := by
      intro ys
      induction ys with
      | nil => intro m h; exact h
      | cons y ys ih =>
        intro m h
        rw [List.foldl_cons]
        refine ih _ ?_
        cases y with
        | none => exact h
        | some w =>
          dsimp only
          split
          · exact ⟨low_pos hc.p, low_le hc.p⟩
          · exact h
    have hm := inv ys (0, 1) ⟨by decide, by show (1 : Int) ≤ c.2; omega⟩
    generalize ys.foldl _ _ = m at *
    have h30 := hc.s2
    cases x with
    | none => simp only [Option.isSome_none, Bool.false_eq_true, if_false, bnd_ret, thn_nx]
    | some w =>
      have h1 := low_le (x := numr c w) hc.p
      have h2 := low_pos (x := numr c w) hc.p
      simp only [Option.isSome_some, if_true, optM, bnd_ret, worth_eq hc.s1 hc.s2 hc.p, lft_ret]
      rw [is_less_eq (by unfold Sml; omega) (by unfold Sml worthL; omega), lft_ret, bnd_ret]
      cases lessF m (worthL w c) with
      | true => simp only [if_true, bnd_ret, thn_nx]
      | false => simp only [Bool.false_eq_true, if_false, bnd_ret, thn_nx]
theorem head_get {xs : List Int} (h : xs ≠ []) {S : Type} : (ixM xs 0 : SM S Int) = ret (xs.headD 0) := by
  have : 0 < xs.length := List.length_pos_iff.mpr h
  rw [ixM_get 0 (by omega) (by omega)]
  cases xs with
  | nil => exact absurd rfl h
  | cons a l => rfl
theorem last_get {xs : List Int} (h : xs ≠ []) {S : Type} : (ixM xs (-1) : SM S Int) = ret (lastI xs) := ixM_last h
theorem cut_take {T : Type} {xs : List T} {n : Nat} (h : n ≤ xs.length) : cutL xs none (some (n : Int)) = xs.take n := by
  unfold cutL
  rw [HT.sIx_none, HT.sIx_nat, Nat.min_eq_left h]
  rfl
theorem trimmed_eq {t : TapeV} {asks : List Int} {row : List (Int × Int)} (h : Fit t asks row) : m_trimmed (t, asks, row) = ret (trimL (fr (askedL asks) row) row.length) := by
  have hp := h.rp
  unfold m_trimmed o_trimmed trimL
  simp only [bnd_assoc, bnd_ret, check_asks_eq h.z h.zt h.ok, check_row_eq h.z h.row, fresh_eq h.z h.zr, lft_ret]
  rw [cut_take (by rw [fr_len]; omega)]
  have hne : ∀ r, r ∈ (fr (askedL asks) row).take row.length → r ≠ [] := fun r hr => by
    obtain ⟨k, hk, e⟩ := List.mem_iff_getElem.mp hr
    have hk' : k < row.length := by rw [List.length_take] at hk; omega
    obtain ⟨u, hu⟩ := fr_heads (asked_asc asks) (fun d hd => ⟨(hp.m d hd).1, (hp.m d hd).2.2.1⟩) hp.d (List.getElem?_eq_getElem hk')
    have : ((fr (askedL asks) row).take row.length)[k]? = some r := by rw [← e]; exact List.getElem?_eq_getElem hk
    rw [List.getElem?_take, if_pos hk', hu] at this
    cases this
    simp
  rw [lcM_map (fun (r : List Int) => (r.headD 0, lastI r)) _ (fun r hr => by
    simp only [lcIt_t, head_get (hne r hr), last_get (hne r hr), bnd_ret]) (Nat.le_trans (List.length_take_le ..) (Nat.le_of_lt h.zr)), bnd_ret, runB_rt]
theorem flat_small {asks : List Int} {row : List (Int × Int)} : ((fr (askedL asks) row).map List.length).sum = (askedL asks).length := by
  have main : ∀ (row : List (Int × Int)) (u : List Int), ((fr u row).map List.length).sum = u.length := by
    intro row
    induction row with
    | nil => intro u; simp [fr]
    | cons d r ih =>
      intro u
      rw [fr, List.map_cons, List.sum_cons, ih]
      induction u with
      | nil => rfl
      | cons x u ihu =>
        rw [List.filter_cons, List.filter_cons]
        cases e : inD d.1 d.2 x <;> simp [e] at ihu ⊢ <;> omega
  exact main row _
theorem order_eq {t : TapeV} {asks : List Int} {row : List (Int × Int)} (h : Fit t asks row) : m_reading_order (t, asks, row) = ret (fr (askedL asks) row).flatten := by
  unfold m_reading_order o_reading_order
  simp only [bnd_assoc, bnd_ret, check_asks_eq h.z h.zt h.ok, check_row_eq h.z h.row, fresh_eq h.z h.zr, lft_ret]
  rw [lc2M_ret (fun _ => true) (fun r => r) (fun _ y => some y) _ _ (fun x _ => ⟨rfl, rfl, fun y _ => by simp only [lcIt_t]⟩) ?_]
  · rw [bnd_ret, runB_rt, List.nil_append]
    congr 1
    generalize fr (askedL asks) row = rs
    induction rs with
    | nil => rfl
    | cons r rs ih =>
      rw [List.flatMap_cons, List.flatten_cons, ih, if_pos rfl]
      congr 1
      induction r with
      | nil => rfl
      | cons x r ihr => rw [List.filterMap_cons_some (f := fun y => some y) (b := x) rfl, ihr]
  · rw [show ((fr (askedL asks) row).map fun x => x.length) = (fr (askedL asks) row).map List.length from rfl, flat_small]
    simp only [List.length_nil, Nat.zero_add]
    exact Nat.le_trans asked_len h.z
end Tk

set_option Elab.async false
set_option linter.all false
set_option maxRecDepth 100000
set_option maxHeartbeats 4000000
namespace Tk
open Td Tp L2
/-! ### the law's own defs -/
theorem eu {S : Type} {A : Type} (f : Int × Int → A → SM S (Fl (Int × Int) (Int × Int) (Int × Int))) (h0 : ∀ l a, l.2 = 0 → f l a = ret (.bk l)) (h1 : ∀ l a, 0 < l.2 → f l a = ret (.nx (l.2, l.1 % l.2))) :
    ∀ (xs : List A) (x y : Int) (k : Nat), 0 ≤ y → y ≤ x → x * y < 2 ^ k → k + 1 ≤ xs.length → forM_ xs f (x, y) = ret (.dn ((Int.gcd x y : Int), 0))
  | [], _, _, _, _, _, _, h => by simp at h
  | a :: xs, x, y, k, hy, hxy, hk, hl => by
    unfold forM_
    by_cases e : y = 0
    · subst e
      rw [h0 _ _ rfl, bnd_ret]
      have e : Int.gcd x 0 = x.natAbs := Int.gcd_zero_right x
      rw [e, Int.natAbs_of_nonneg (by omega)]
    · have hp : 0 < y := by omega
      rw [h1 _ _ hp, bnd_ret]
      have m0 := Int.emod_nonneg x e
      have m1 := Int.emod_lt_of_pos x hp
      have eg : Int.gcd y (x % y) = Int.gcd x y := by
        unfold Int.gcd
        rw [Int.natAbs_emod_of_nonneg (by omega), Nat.gcd_comm, ← Nat.gcd_rec, Nat.gcd_comm]
      rw [← eg]
      match k, hk, hl with
      | 0, hk, _ =>
        have : 0 < x * y := Int.mul_pos (by omega) hp
        simp at hk
        omega
      | k + 1, hk, hl =>
        refine eu f h0 h1 xs y (x % y) k m0 (by omega) ?_ (by simpa using hl)
        have hd : x = y * (x / y) + x % y := (Int.mul_ediv_add_emod x y).symm
        have hq : 1 ≤ x / y := (Int.le_ediv_iff_mul_le hp).mpr (by omega)
        have hyq : y * 1 ≤ y * (x / y) := Int.mul_le_mul_of_nonneg_left hq (by omega)
        have h2 : 2 * (x % y) < x := by omega
        have h3 : y * (2 * (x % y)) < y * x := Int.mul_lt_mul_of_pos_left h2 hp
        rw [Int.pow_succ] at hk
        have e1 : y * (2 * (x % y)) = 2 * (y * (x % y)) := Int.mul_left_comm ..
        have e2 : y * x = x * y := Int.mul_comm ..
        omega
theorem eu2 {S : Type} {A : Type} (f : Int × Int → A → SM S (Fl (Int × Int) (Int × Int) (Int × Int))) (h0 : ∀ l a, l.2 = 0 → f l a = ret (.bk l)) (h1 : ∀ l a, 0 < l.2 → f l a = ret (.nx (l.2, l.1 % l.2))) (xs : List A) {x y : Int} (hx : 0 ≤ x) (hy : 0 ≤ y) (h : y * y < 2 ^ 400) (hl : 402 ≤ xs.length) : forM_ xs f (x, y) = ret (.dn ((Int.gcd x y : Int), 0)) := by
  match xs, hl with
  | a :: xs, hl =>
    unfold forM_
    by_cases e : y = 0
    · subst e
      rw [h0 _ _ rfl, bnd_ret]
      have e : Int.gcd x 0 = x.natAbs := Int.gcd_zero_right x
      rw [e, Int.natAbs_of_nonneg hx]
    · have hp : 0 < y := by omega
      rw [h1 _ _ hp, bnd_ret]
      have m0 := Int.emod_nonneg x e
      have m1 := Int.emod_lt_of_pos x hp
      have eg : Int.gcd y (x % y) = Int.gcd x y := by
        unfold Int.gcd
        rw [Int.natAbs_emod_of_nonneg hx, Nat.gcd_comm, ← Nat.gcd_rec, Nat.gcd_comm]
      have z := eu f h0 h1 xs y (x % y) 400 m0 (by omega) (Int.lt_of_le_of_lt (Int.mul_le_mul_of_nonneg_left (by omega) (by omega)) h) (by simpa using hl)
      rw [← eg]
      exact z
theorem ratio_eq {x y : Int} (h : 0 < y) (h2 : y < 2 ^ 30) : m__law_td_ratio (x, y) = ret (low x y) := by
  unfold m__law_td_ratio o__law_td_ratio low
  simp only [bnd_assoc, bnd_ret, rngG_ok (show -(2 ^ 62) ≤ (500 : Int) ∧ (500 : Int) < 2 ^ 62 by decide)]
  have hyy : y * y < 2 ^ 400 := by
    have : y * y < 2 ^ 30 * 2 ^ 30 := Int.mul_lt_mul h2 (by omega) (by omega) (by decide)
    exact Int.lt_trans this (by decide)
  have ey : (if y < 0 then -y else y) = y := if_neg (by omega)
  rw [eu2 _ (fun l a e => by rw [decide_eq_true e, if_pos rfl]; rfl) (fun l a hl => by
    have e : ¬ l.2 = 0 := by omega
    simp only [e, decide_false, Bool.false_eq_true, if_false, modM_ok hl, bnd_ret]) (upto 0 (Int.toNat 500)) (by split <;> omega) (by rw [ey]; omega) (by rw [ey]; exact hyy) (by decide), gcd_abs]
  have hg := gcd_pos (x := x) h
  simp only [lpM_dn, bnd_ret, h, decide_true, if_true, mulM_sm (show Sml 1 by unfold Sml; decide), Int.one_mul, divM_pos hg (Int.lt_of_le_of_lt (gcd_le h) h2), runB_rt]
theorem comes_eq {w c : Int × Int} (h : Sml c.1) (h2 : c.2 < 2 ^ 30) (hp : 0 < c.2) : m__law_td_comes (w, c) = ret (worthL w c) := by
  unfold m__law_td_comes o__law_td_comes worthL
  simp only [bnd_assoc, bnd_ret, mulM_sm2 h, mulM_sm2 (show Sml c.2 by unfold Sml; omega), ratio_eq hp h2, lft_ret, runB_rt]
  rfl
theorem low_low {x y : Int} (h : 0 < y) : low (low x y).1 (low x y).2 = low x y := by
  have hg := gcd_pos (x := x) h
  have : Int.gcd (low x y).1 (low x y).2 = 1 := by
    unfold low
    exact Int.gcd_ediv_gcd_ediv_gcd (by omega)
  unfold low at this ⊢
  dsimp only at this ⊢
  rw [this]
  simp
theorem low_n {x y : Int} (h0 : 0 ≤ x) : 0 ≤ (low x y).1 ∧ (low x y).1 ≤ x := by
  unfold low
  exact ⟨Int.ediv_nonneg h0 (by omega), Int.ediv_le_self _ h0⟩
theorem low_cost {x y : Int} (h0 : 0 ≤ x) (h1 : x < 2 ^ 30) (h2 : 0 < y) (h3 : y < 2 ^ 30) : Cost (low x y) := by
  have a := low_n (y := y) h0
  have b := low_le (x := x) h2
  exact ⟨a.1, low_pos h2, by unfold Sml; omega, by omega, low_low h2⟩
theorem hw_price {n : Nat} {s : List Int} (hn : n < 2 ^ 90) (hg : Gd n s) : Hw (m__law_td_price ()) s fun c s' => Cost c ∧ Gd (n + 4) s' := by
  unfold m__law_td_price o__law_td_price
  simp only [bnd_assoc, bnd_ret, runB_bnd]
  rw [lenG_ok (hz_small (k := 3) (Nat.le_refl _) (by omega)), bnd_ret]
  refine hw_bnd (hw_mono (hw_pick (by decide) (by decide) (by omega) hg) fun v s ⟨hv, hg⟩ => ?_)
  have p1 : ∀ v : Int, 0 ≤ v ∧ v < 3 → ∃ z : Int, (ixM [1, 6, 101] v : SM (List Int) Int) = ret z ∧ 0 < z ∧ z ≤ 101 := fun v hv => by
    rcases (show v = 0 ∨ v = 1 ∨ v = 2 by omega) with e | e | e <;> subst e
    · exact ⟨1, rfl, by decide, by decide⟩
    · exact ⟨6, rfl, by decide, by decide⟩
    · exact ⟨101, rfl, by decide, by decide⟩
  have p2 : ∀ v : Int, 0 ≤ v ∧ v < 3 → ∃ z : Int, (ixM [1, 5, 100] v : SM (List Int) Int) = ret z ∧ 0 < z ∧ z ≤ 101 := fun v hv => by
    rcases (show v = 0 ∨ v = 1 ∨ v = 2 by omega) with e | e | e <;> subst e
    · exact ⟨1, rfl, by decide, by decide⟩
    · exact ⟨5, rfl, by decide, by decide⟩
    · exact ⟨100, rfl, by decide, by decide⟩
  obtain ⟨z, e, z0, z1⟩ := p1 v hv
  rw [e, bnd_ret]
  refine hw_bnd (hw_mono (hw_pick z0 (by omega) (by omega) hg) fun a s ⟨ha, hg⟩ => ?_)
  rw [lenG_ok (hz_small (k := 3) (Nat.le_refl _) (by omega)), bnd_ret]
  refine hw_bnd (hw_mono (hw_pick (by decide) (by decide) (by omega) hg) fun v s ⟨hv, hg⟩ => ?_)
  obtain ⟨y, e, y0, y1⟩ := p2 v hv
  rw [e, bnd_ret]
  refine hw_bnd (hw_mono (hw_pick y0 (by omega) (by omega) hg) fun b s ⟨hb, hg⟩ => ?_)
  rw [ratio_eq (by omega) (by omega), lft_ret, bnd_ret, runB_rt]
  exact hw_ret ⟨low_cost (by omega) (by omega) (by omega) (by omega), hg⟩
end Tk

set_option Elab.async false
set_option linter.all false
set_option maxRecDepth 100000
set_option maxHeartbeats 4000000
namespace Tk
open Td Tp L2
def FilesOk (L : Int) : Int → List (Int × Int) → Prop
  | _, [] => True
  | e, d :: r => e ≤ d.1 ∧ d.1 < d.2 ∧ d.2 ≤ L ∧ FilesOk L d.2 r
theorem init_eq {L : Int} {fs : List (Int × Int)} (h : 1 ≤ L) (hf : FilesOk L 0 fs) : m_Tape_DinitD (L, fs) TS0.new = .ok () (.full (L, fs)) := by
  unfold m_Tape_DinitD o_Tape_DinitD
  have e1 : decide (L < 1) = false := decide_eq_false (by omega)
  simp only [bnd_assoc, bnd_ret, e1, Bool.false_eq_true, if_false]
  have main : ∀ (fs : List (Int × Int)) (e : Int) (f : Int → Int × Int → SM TS0 (Fl Int Int Unit)), (∀ (e : Int) (d : Int × Int), e ≤ d.1 → d.1 < d.2 → d.2 ≤ L → f e d = ret (.nx d.2)) → FilesOk L e fs → ∃ z, forM_ fs f e = ret (.dn z) := by
    intro fs
    induction fs with
    | nil => intro e f _ _; exact ⟨e, rfl⟩
    | cons d r ih =>
      intro e f hf h
      obtain ⟨a, b, c, k⟩ := h
      unfold forM_
      rw [hf e d a b c, bnd_ret]
      exact ih d.2 f hf k
  suffices hs : ∃ z, forM_ fs _ (0 : Int) = ret (.dn z) by
    obtain ⟨z, hz⟩ := hs
    rw [hz, lpM_dn]
    rfl
  refine main fs 0 _ (fun e d a b c => ?_) hf
  simp only [decide_eq_true a, decide_eq_true b, decide_eq_true c, if_true, bnd_ret, Bool.not_true, Bool.false_eq_true, if_false]
theorem make_eq {S : Type} {L : Int} {fs : List (Int × Int)} (h : 1 ≤ L) (hf : FilesOk L 0 fs) {U : Type} (k : TapeV → SM S U) : (bnd (subM (m_Tape_DinitD (L, fs)) TS0.new) fun r => bnd (tapeM r.2) k) = k (L, fs) := by
  have : (subM (m_Tape_DinitD (L, fs)) TS0.new : SM S (Unit × TS0)) = ret ((), .full (L, fs)) := by
    funext s
    unfold subM
    rw [init_eq h hf]
    rfl
  rw [this, bnd_ret]
  rfl
theorem dnto_cons (m : Nat) : dnto ((m + 1 : Nat) : Int) (m + 1) = ((m + 1 : Nat) : Int) :: dnto (m : Int) m := by
  unfold dnto
  rw [List.range_succ_eq_map, List.map_cons, List.map_map]
  congr 1
  apply List.map_congr_left
  intro i _
  simp only [Function.comp]
  omega
theorem dnto_row (l : Nat → Int) : ∀ (m : Nat) (g : Int → Int × Int), (∀ j : Nat, 0 < j → j ≤ m → g (j : Int) = ((j : Int), l j)) → (dnto (m : Int) m).map g = dnRow l m
  | 0, _, _ => rfl
  | m + 1, g, h => by
    rw [dnto_cons, List.map_cons, h (m + 1) (by omega) (by omega), dnRow, dnto_row l m g fun j h0 h1 => h j h0 (by omega)]
theorem dnto_dn : ∀ m : Nat, dnto (m : Int) (m + 1) = dnI m
  | 0 => rfl
  | m + 1 => by
    have h : dnto ((m + 1 : Nat) : Int) (m + 1 + 1) = ((m + 1 : Nat) : Int) :: dnto (m : Int) (m + 1) := by
      unfold dnto
      rw [List.range_succ_eq_map, List.map_cons, List.map_map]
      congr 1
      apply List.map_congr_left
      intro i _
      simp only [Function.comp]
      omega
    rw [h, dnto_dn m]
    rfl
theorem up1 (n : Nat) : upto 1 n = (upI n).map (· + 1) := by
  rw [← upto_up]
  unfold upto
  rw [List.map_map]
  apply List.map_congr_left
  intro i _
  simp only [Function.comp]
  omega
theorem kind_row_eq {mode n : Nat} (hm : mode < 4) (hn : 0 < n) (hn2 : n ≤ 60) : m__law_td_kind_row ((mode : Int), (n : Int)) = ret (kindRow mode n) := by
  unfold m__law_td_kind_row o__law_td_kind_row
  obtain ⟨m, rfl⟩ : ∃ m, n = m + 1 := ⟨n - 1, by omega⟩
  have e1 : ((m + 1 : Nat) : Int) - 1 = (m : Int) := by omega
  have lz : (lenG ([] : List (Int × Int)) : SM Unit Unit) = ret () := lenG_ok (by simp)
  have l1 : ∀ x : Int × Int, (lenG [x] : SM Unit Unit) = ret () := fun x => lenG_ok (hz_small (k := 1) (Nat.le_refl _) (by omega))
  have r1 : (rngG (m : Int) : SM Unit Unit) = ret () := rngG_ok (by omega)
  have r0 : (rngG 0 : SM Unit Unit) = ret () := rngG_ok (by decide)
  have tn : ((m : Int) - 0).toNat = m := by omega
  have dl : (dnto (m : Int) m).length ≤ PySem.sizeLine := hz_small (k := 60) (by unfold dnto; simp; omega) (by omega)
  simp only [bnd_assoc, bnd_ret, e1, lz, l1, r1, r0, tn, lcIt_t]
  match mode, hm with
  | 0, _ => rfl
  | 1, _ =>
    rw [lcM_map (fun x => (x, x)) _ (fun _ _ => rfl) dl, dnto_row (fun m => (m : Int)) m _ fun j _ _ => rfl]
    rfl
  | 2, _ =>
    by_cases h : 1 < m + 1
    · have : decide ((1 : Int) < ((m + 1 : Nat) : Int)) = true := decide_eq_true (by omega)
      rw [this]
      have e : kindRow 2 (m + 1) = [(1, (m : Int))] := by
        unfold kindRow
        simp only
        rw [if_pos h, e1]
      rw [e]
      rfl
    · have : decide ((1 : Int) < ((m + 1 : Nat) : Int)) = false := decide_eq_false (by omega)
      rw [this]
      have e : kindRow 2 (m + 1) = [] := by
        unfold kindRow
        simp only
        rw [if_neg h]
      rw [e]
      rfl
  | 3, _ =>
    rw [lcM_map (fun x => (x, (m : Int))) _ (fun _ _ => rfl) dl, dnto_row (fun _ => (m : Int)) m _ fun j _ _ => rfl]
    show _ = ret (dnRow (fun _ => ((m + 1 : Nat) : Int) - 1) m)
    rw [e1]
    rfl
theorem kind_wait_eq {mode n : Nat} {size apart front behind i : Int} (hm : mode < 4) (hn : 0 < n) (hn2 : n ≤ 60) (hs : 0 < size) (hs2 : size ≤ 8000) (ha : 0 ≤ apart) (ha2 : apart ≤ 16000) (hi : 0 ≤ i) (hi2 : i < n) :
    m__law_td_kind_wait ((mode : Int), (n : Int), size, apart, front, behind, i) = ret (kw mode n size apart behind i) := by
  have s60 : ∀ x : Int, -100000 ≤ x → x ≤ 100000 → Sml x := fun x h1 h2 => by unfold Sml; omega
  have o1 : decide ((n : Int) = 1) = decide (n = 1) := decide_eq_decide.mpr (by omega)
  have o2 : decide (i = 0) = decide (i = 0) := rfl
  unfold m__law_td_kind_wait o__law_td_kind_wait kw
  simp only [bnd_assoc, bnd_ret, o1]
  rw [mulM_sm (s60 ((n : Int) - 1) (by omega) (by omega)), bnd_ret]
  match mode, hm with
  | 0, _ =>
    simp only [mulM_sm (s60 i (by omega) (by omega)), bnd_ret]
    rfl
  | 1, _ =>
    by_cases h : n = 1
    · simp only [h, decide_true, or_true, if_true, mulM_sm (s60 i (by omega) (by omega)), bnd_ret]
      rfl
    · have c1 : ¬ ((1 : Nat) = 0 ∨ n = 1) := by omega
      rw [if_neg c1]
      simp only [h, decide_false, mulM_sm (s60 ((n : Int) - 1 - i) (by omega) (by omega)), mulM_sm (s60 2 (by omega) (by omega)), bnd_ret]
      rfl
  | 2, _ =>
    by_cases h : n = 1
    · simp only [h, decide_true, or_true, if_true, mulM_sm (s60 i (by omega) (by omega)), bnd_ret]
      rfl
    · have c1 : ¬ ((2 : Nat) = 0 ∨ n = 1) := by omega
      rw [if_neg c1]
      simp only [h, decide_false, mulM_sm (s60 (i - 1) (by omega) (by omega)), mulM_sm (s60 2 (by omega) (by omega)), mulM_sm (s60 3 (by omega) (by omega)), bnd_ret]
      by_cases h3 : i = 0
      · simp only [h3, decide_true]
        rfl
      · simp only [h3, decide_false]
        rfl
  | 3, _ =>
    by_cases h : n = 1
    · simp only [h, decide_true, or_true, if_true, mulM_sm (s60 i (by omega) (by omega)), bnd_ret]
      rfl
    · have c1 : ¬ ((3 : Nat) = 0 ∨ n = 1) := by omega
      rw [if_neg c1]
      simp only [h, decide_false, mulM_sm (s60 ((n : Int) - 1 - i) (by omega) (by omega)), mulM_sm2 (s60 ((n : Int) - 1 - i) (by omega) (by omega)), mulM_sm (s60 2 (by omega) (by omega)), mulM_sm2 (s60 size (by omega) (by omega)), bnd_ret]
      rfl
end Tk

set_option Elab.async false
set_option linter.all false
set_option maxRecDepth 100000
set_option maxHeartbeats 4000000
namespace Tk
open Td Tp L2 PySem
theorem reprM_pair {S : Type} {x : Int × Int} (h1 : x.1.natAbs.log2 < 1920) (h2 : x.2.natAbs.log2 < 1920) : (reprM (dP PyData.int PyData.int x) : SM S Str) = ret (PyData.shown (dP PyData.int PyData.int x)) := by
  unfold reprM
  rw [grd_t, bnd_ret]
  refine ⟨?_, rfl, (by show PyData.depth (.tuple [.int x.1, .int x.2]) ≤ 60; simp [PyData.depth, PyData.depthAll]), ?_⟩
  · show (PyData.showable (.int x.1) && (PyData.showable (.int x.2) && true)) = true
    simp [PyData.showable, h1, h2]
  · have l : PyData.leavesShort 1921 (dP PyData.int PyData.int x) = true := by
      show (decide ((PyData.shown (.int x.1)).length ≤ 1921) && (decide ((PyData.shown (.int x.2)).length ≤ 1921) && true)) = true
      have a := PyProof.Rows.int_text_len_1921 h1
      have b := PyProof.Rows.int_text_len_1921 h2
      rw [Bool.and_true, Bool.and_eq_true, decide_eq_true_eq, decide_eq_true_eq]
      exact ⟨a, b⟩
    refine Nat.le_trans (PyData.shown_le 1921 (by decide) _ l) ?_
    have w : PyData.weight (dP PyData.int PyData.int x) ≤ 3850 := by
      show PyData.weight (.int x.1) + 1 + (PyData.weight (.int x.2) + 1 + 0) ≤ 3850
      unfold PyData.weight
      split <;> split <;> omega
    have : (1921 + 2) * PyData.weight (dP PyData.int PyData.int x) + 1921 ≤ 8000000 := by
      generalize PyData.weight (dP PyData.int PyData.int x) = z at *
      omega
    exact hz_small this (by omega)
theorem log2_sm {x : Int} (h : -(2 ^ 200) < x ∧ x < 2 ^ 200) : x.natAbs.log2 < 1920 := by
  have : x.natAbs < 2 ^ 1920 := Nat.lt_of_lt_of_le (show x.natAbs < 2 ^ 200 by omega) (Nat.pow_le_pow_right (by decide) (by decide))
  exact Flt.log2_lt_of (by decide) this
/-! ### all files asked alike -/
theorem asked_snoc {as : List Int} {c : Int} (h : 0 < c) : askedL (as ++ [c]) = askedL as ++ [(as.length : Int)] := by
  unfold askedL enum
  rw [List.mapIdx_append, List.filterMap_append]
  congr 1
  simp [h]
theorem asked_all {c : Int} (h : 0 < c) (n : Nat) : askedL ((upI n).map fun _ => c) = upI n := by
  induction n with
  | zero => rfl
  | succ n ih =>
    rw [show upI (n + 1) = upI n ++ [(n : Int)] from rfl, List.map_append, List.map_singleton, asked_snoc h, ih, List.length_map, upI_len]
theorem headD_up {n : Nat} (h : 0 < n) : (upI n).headD 0 = 0 := by
  cases n with
  | zero => omega
  | succ n => rw [upI_cons]; rfl
theorem getD_const {c : Int} {n : Nat} {i : Int} (h0 : 0 ≤ i) (h1 : i < n) : ((upI n).map fun _ => c).getD i.toNat 0 = c := by
  rw [List.getD_eq_getElem?_getD, List.getElem?_map, List.getElem?_eq_getElem (by rw [upI_len]; omega)]
  rfl
theorem rowGo_all {c : Int} (h : 0 < c) {n : Nat} (hn : 0 < n) : ∀ {row : List (Int × Int)} {edge : Int}, (∀ d, d ∈ row → 0 < d.1 ∧ d.1 ≤ d.2 ∧ d.2 < n) → row.Pairwise (fun a b => b.1 < a.1) → (∀ d, d ∈ row → d.1 < edge) → rowGo ((upI n).map fun _ => c) (upI n) edge row = true
  | [], _, _, _, _ => rfl
  | d :: r, edge, hm, hp, he => by
    rw [List.pairwise_cons] at hp
    obtain ⟨a, b, k⟩ := hm d (List.mem_cons_self ..)
    have e := he d (List.mem_cons_self ..)
    have ne : ¬ (upI n).isEmpty = true := by
      intro z
      have : upI n = [] := by simpa using z
      have := upI_len n
      rw [‹upI n = []›] at this
      simp at this
      omega
    rw [rowGo, if_neg ne, headD_up hn, List.length_map, upI_len, if_neg (by simp; omega), if_neg (by omega), getD_const (by omega) (by omega), getD_const (by omega) (by omega), if_neg (by omega), if_neg (by omega)]
    exact rowGo_all h hn (fun x hx => hm x (List.mem_cons_of_mem _ hx)) hp.2 fun x hx => hp.1 x hx
theorem dnRow_mem {l : Nat → Int} : ∀ {m : Nat} {d : Int × Int}, d ∈ dnRow l m → ∃ j : Nat, 0 < j ∧ j ≤ m ∧ d = ((j : Int), l j)
  | 0, d, h => by cases h
  | m + 1, d, h => by
    rw [dnRow] at h
    rcases List.mem_cons.mp h with h | h
    · exact ⟨m + 1, by omega, Nat.le_refl _, h⟩
    · obtain ⟨j, a, b, c⟩ := dnRow_mem h
      exact ⟨j, a, by omega, c⟩
theorem dnRow_pw {l : Nat → Int} : ∀ {m : Nat}, (dnRow l m).Pairwise (fun a b => b.1 < a.1)
  | 0 => .nil
  | m + 1 => by
    rw [dnRow, List.pairwise_cons]
    refine ⟨fun d hd => ?_, dnRow_pw⟩
    obtain ⟨j, a, b, c⟩ := dnRow_mem hd
    subst c
    show (j : Int) < ((m + 1 : Nat) : Int)
    omega
theorem kindRow_ok {mode n : Nat} (hm : mode < 4) (hn : 0 < n) : (∀ d, d ∈ kindRow mode n → 0 < d.1 ∧ d.1 ≤ d.2 ∧ d.2 < n) ∧ (kindRow mode n).Pairwise (fun a b => b.1 < a.1) ∧ (∀ d, d ∈ kindRow mode n → d.1 < n) ∧ (kindRow mode n).length < n := by
  obtain ⟨m, rfl⟩ : ∃ m, n = m + 1 := ⟨n - 1, by omega⟩
  have main : ∀ l : Nat → Int, (∀ j : Nat, 0 < j → j ≤ m → (j : Int) ≤ l j ∧ l j ≤ m) → (∀ d, d ∈ dnRow l m → 0 < d.1 ∧ d.1 ≤ d.2 ∧ d.2 < ((m + 1 : Nat) : Int)) ∧ (dnRow l m).Pairwise (fun a b => b.1 < a.1) ∧ (∀ d, d ∈ dnRow l m → d.1 < ((m + 1 : Nat) : Int)) ∧ (dnRow l m).length < m + 1 := fun l hl => by
    refine ⟨fun d hd => ?_, dnRow_pw, fun d hd => ?_, by rw [dnRow_len]; omega⟩
    · obtain ⟨j, a, b, c⟩ := dnRow_mem hd
      subst c
      have := hl j a b
      dsimp only
      omega
    · obtain ⟨j, a, b, c⟩ := dnRow_mem hd
      subst c
      dsimp only
      omega
  match mode, hm with
  | 0, _ => exact ⟨fun d hd => (by cases hd), .nil, fun d hd => (by cases hd), by show 0 < m + 1; omega⟩
  | 1, _ => exact main _ fun j h1 h2 => ⟨Int.le_refl _, by omega⟩
  | 2, _ =>
    by_cases h : 1 < m + 1
    · have e : kindRow 2 (m + 1) = [(1, ((m + 1 : Nat) : Int) - 1)] := by
        unfold kindRow
        simp only
        rw [if_pos h]
      rw [e]
      refine ⟨fun d hd => ?_, by simp, fun d hd => ?_, by simpa using h⟩
      · rw [List.mem_singleton] at hd
        subst hd
        dsimp only
        omega
      · rw [List.mem_singleton] at hd
        subst hd
        dsimp only
        omega
    · have e : kindRow 2 (m + 1) = [] := by
        unfold kindRow
        simp only
        rw [if_neg h]
      rw [e]
      exact ⟨fun d hd => (by cases hd), .nil, fun d hd => (by cases hd), by simp⟩
  | 3, _ => exact main (fun _ => ((m + 1 : Nat) : Int) - 1) fun j h1 h2 => ⟨by omega, by omega⟩
/-! ### waits by lookup -/
theorem zip_flat {A B C : Type} (f : A → List C) : ∀ (xs : List A) (ys : List B), xs.length = ys.length → ((xs.zip ys).flatMap fun x => f x.1) = xs.flatMap f
  | [], _, _ => rfl
  | x :: xs, y :: ys, h => by rw [List.zip_cons_cons, List.flatMap_cons, List.flatMap_cons, zip_flat f xs ys (by simpa using h)]
theorem trsG_flat (t : Tape) (row : List (Int × Int)) (a z : Int) (runs : List (List Int)) (h : runs.length = row.length + 1) : ((trsG t row a z runs).flatMap fun x => [x.1.1, x.1.2]) = (row.flatMap fun d => [bg t d.1, en t d.2]) ++ [bg t a, en t z] := by
  unfold trsG
  rw [zip_flat (fun x : Int × Int => [x.1, x.2]) _ _ (by simp [h]), List.flatMap_append, List.flatMap_map]
  simp
theorem waits_get {t : TapeV} {asks : List Int} {row : List (Int × Int)} (h : Fit t asks row) (hne : askedL asks ≠ []) {i : Nat} (hi : i < asks.length) :
    (waitsL t asks row)[i]? = match lk t (trsG t row ((askedL asks).headD 0) (lastI (lastR (fr (askedL asks) row))) (fr (askedL asks) row)) t.1 0 0 i with | some w => some (some w) | none => some none := by
  have ew : wayL t asks row = (trsG t row ((askedL asks).headD 0) (lastI (lastR (fr (askedL asks) row))) (fr (askedL asks) row)).flatMap fun x => [x.1.1, x.1.2] := by
    rw [trsG_flat _ _ _ _ _ (fr_len _ _)]
    unfold wayL
    rw [if_neg (by simpa using hne)]
  unfold waitsL
  rw [ew, show (0 : Nat) = 2 * 0 from rfl, wStep_trs t _ _ 0 _ _ _ ?_, wTr_get]
  · rw [List.getElem?_map, List.getElem?_eq_getElem hi]
    rfl
  · intro x hx y hy
    have : x.2 ∈ fr (askedL asks) row := by
      unfold trsG at hx
      exact (List.of_mem_zip (a := x.1) (b := x.2) hx).2
    exact (asked_nn y (fr_mem this hy)).1
  · have hp := fr_apart (u := askedL asks) (row := row)
    have e : (trsG t row ((askedL asks).headD 0) (lastI (lastR (fr (askedL asks) row))) (fr (askedL asks) row)).map (·.2) = fr (askedL asks) row := by
      unfold trsG
      rw [List.map_snd_zip]
      simp [fr_len]
    rw [← e] at hp
    exact List.pairwise_map.mp hp
  · rw [List.length_map]; exact hi
  · intro j x hx
    unfold trsG at hx
    rw [List.getElem?_zip_eq_some] at hx
    rw [Nat.zero_add]
    exact hx.2
end Tk

set_option Elab.async false
set_option linter.all false
set_option maxRecDepth 100000
set_option maxHeartbeats 4000000
namespace Tk
open Td Tp L2 PySem
theorem filesOk_mono {L L' : Int} (h : L ≤ L') : ∀ {fs : List (Int × Int)} {e : Int}, FilesOk L e fs → FilesOk L' e fs
  | [], _, _ => trivial
  | d :: r, e, ⟨a, b, c, k⟩ => ⟨a, b, Int.le_trans c h, filesOk_mono h k⟩
theorem filesOk_snoc {M L : Int} {d : Int × Int} (h1 : M ≤ d.1) (h2 : d.1 < d.2) (h3 : d.2 ≤ L) : ∀ {fs : List (Int × Int)} {e : Int}, e ≤ d.1 → FilesOk M e fs → FilesOk L e (fs ++ [d])
  | [], e, he, _ => ⟨he, h2, h3, trivial⟩
  | x :: r, e, he, ⟨a, b, c, k⟩ => ⟨a, b, by omega, filesOk_snoc h1 h2 h3 (by omega) k⟩
def eqFiles (n : Nat) (size apart front : Int) : List (Int × Int) := ((upI n).map fun x => front + x * apart).map fun b => (b, b + size)
theorem eqFiles_succ (n : Nat) (size apart front : Int) : eqFiles (n + 1) size apart front = eqFiles n size apart front ++ [(front + n * apart, front + n * apart + size)] := by
  unfold eqFiles
  rw [show upI (n + 1) = upI n ++ [(n : Int)] from rfl, List.map_append, List.map_append]
  rfl
theorem eqFiles_ok {size apart front : Int} (hs : 0 < size) (ha : size ≤ apart) (hf : 0 ≤ front) : ∀ n : Nat, FilesOk (front + n * apart) 0 (eqFiles n size apart front)
  | 0 => trivial
  | n + 1 => by
    rw [eqFiles_succ]
    have p : 0 ≤ (n : Int) * apart := Int.mul_nonneg (by omega) (by omega)
    refine filesOk_snoc (Int.le_refl _) (by dsimp only; omega) ?_ (by dsimp only; omega) (eqFiles_ok hs ha hf n)
    simp only [Int.natCast_add, Int.natCast_one, Int.add_mul, Int.one_mul]
    omega
theorem eqFiles_ok2 {size apart front : Int} (hs : 0 < size) (ha : size ≤ apart) (hf : 0 ≤ front) (n : Nat) : FilesOk (front + n * apart + size) 0 (eqFiles (n + 1) size apart front) := by
  rw [eqFiles_succ]
  have p : 0 ≤ (n : Int) * apart := Int.mul_nonneg (by omega) (by omega)
  exact filesOk_snoc (d := (front + n * apart, front + n * apart + size)) (Int.le_refl _) (by show front + n * apart < front + n * apart + size; omega) (Int.le_refl _) (by show 0 ≤ front + n * apart; omega) (eqFiles_ok hs ha hf n)
theorem upI_get {n k : Nat} (h : k < n) : (upI n)[k]? = some (k : Int) := by
  rw [← upI_range, List.getElem?_map, List.getElem?_range h]
  rfl
theorem eqFiles_get {n : Nat} {size apart front i : Int} (h0 : 0 ≤ i) (h1 : i < n) : (eqFiles n size apart front).getD i.toNat (0, 0) = (front + i * apart, front + i * apart + size) := by
  unfold eqFiles
  rw [List.getD_eq_getElem?_getD, List.getElem?_map, List.getElem?_map, upI_get (by omega)]
  have : ((i.toNat : Nat) : Int) = i := by omega
  simp [this]
theorem eqf {n : Nat} {size apart front behind : Int} (hs : 0 < size) (ha : size ≤ apart) (hb : 0 ≤ behind) : Eqf (front + ((n : Int) - 1) * apart + size + behind, eqFiles n size apart front) n size apart front behind := by
  refine ⟨fun i h0 h1 => ?_, fun i h0 h1 => ?_, rfl, hs, ha, hb⟩
  · unfold bg; dsimp only; rw [eqFiles_get h0 h1]
  · unfold en; dsimp only; rw [eqFiles_get h0 h1]
theorem fit_kind {mode n : Nat} {L size apart front c : Int} (hm : mode < 4) (hn : 0 < n) (hn2 : n ≤ 60) (hc : 0 < c) : Fit (L, eqFiles n size apart front) ((upI n).map fun _ => c) (kindRow mode n) := by
  obtain ⟨a, b, d, e⟩ := kindRow_ok hm hn
  have hl : (eqFiles n size apart front).length = n := by unfold eqFiles; simp [upI_len]
  refine ⟨by rw [hl, List.length_map, upI_len], by rw [List.length_map, upI_len]; exact hn2, by omega, ?_, ?_⟩
  · unfold areAsks
    dsimp only
    rw [hl, List.length_map, upI_len]
    simp
    omega
  · rw [asked_all hc, List.length_map, upI_len]
    exact rowGo_all hc hn a b d
theorem list_ext_get {T : Type} {xs ys : List T} (hl : xs.length = ys.length) (h : ∀ i, i < xs.length → xs[i]? = ys[i]?) : xs = ys := by
  apply List.ext_getElem? 
  intro i
  by_cases hi : i < xs.length
  · exact h i hi
  · rw [List.getElem?_eq_none (by omega), List.getElem?_eq_none (by omega)]
theorem foldl_len {t : Tape} {runs : List (List Int)} : ∀ (ys : List (Int × Int)) (l : Fd × Int × Int), (ys.foldl (wStep t runs) l).1.length = l.1.length
  | [], _ => rfl
  | y :: ys, l => by rw [List.foldl_cons, foldl_len, wStep_len]
theorem waits_kind {mode n : Nat} {size apart front behind c : Int} (hm : mode < 4) (hn : 0 < n) (hn2 : n ≤ 60) (hc : 0 < c) (hs : 0 < size) (ha : size ≤ apart) (hb : 0 ≤ behind) :
    waitsL (front + ((n : Int) - 1) * apart + size + behind, eqFiles n size apart front) ((upI n).map fun _ => c) (kindRow mode n) = ((upI n).map fun i => kw mode n size apart behind i).map some := by
  have hl : (waitsL (front + ((n : Int) - 1) * apart + size + behind, eqFiles n size apart front) ((upI n).map fun _ => c) (kindRow mode n)).length = n := by
    unfold waitsL
    rw [foldl_len, List.length_map, List.length_map, upI_len]
  have hne : askedL ((upI n).map fun _ => c) ≠ [] := by
    rw [asked_all hc]
    intro z
    have := upI_len n
    rw [z] at this
    simp at this
    omega
  refine list_ext_get (by rw [hl]; simp [upI_len]) fun i hi => ?_
  rw [hl] at hi
  rw [waits_get (fit_kind hm hn hn2 hc) hne (by simpa [upI_len] using hi), asked_all hc, headD_up hn, fr_kind hm hn, kind_last hn, lk_kind (eqf hs ha hb) hm hn hi, List.getElem?_map, List.getElem?_map, upI_get hi]
  rfl
theorem way_kind {mode n : Nat} {size apart front behind c : Int} (hm : mode < 4) (hn : 0 < n) (hc : 0 < c) (hs : 0 < size) (ha : size ≤ apart) (hb : 0 ≤ behind) :
    wayL (front + ((n : Int) - 1) * apart + size + behind, eqFiles n size apart front) ((upI n).map fun _ => c) (kindRow mode n) =
      ((kindRow mode n).flatMap fun d => [bg (front + ((n : Int) - 1) * apart + size + behind, eqFiles n size apart front) d.1, en (front + ((n : Int) - 1) * apart + size + behind, eqFiles n size apart front) d.2]) ++ [front, front + lastZ mode n * apart + size] := by
  have hne : askedL ((upI n).map fun _ => c) ≠ [] := by
    rw [asked_all hc]
    intro z
    have := upI_len n
    rw [z] at this
    simp at this
    omega
  have lz : 0 ≤ lastZ mode n ∧ lastZ mode n < n := by unfold lastZ; split <;> omega
  unfold wayL
  rw [if_neg (by simpa using hne), asked_all hc, headD_up hn, fr_kind hm hn, kind_last hn, (eqf hs ha hb).b 0 (by omega) (by omega), (eqf hs ha hb).e _ lz.1 lz.2]
  simp
end Tk

set_option Elab.async false
set_option linter.all false
set_option maxRecDepth 100000
set_option maxHeartbeats 4000000
namespace Tk
open Td Tp L2 PySem
theorem hw_step {S T U : Type} {m : SM S T} {k : T → SM S U} {s s' : S} {a : T} {P : U → S → Prop} (e : m s = .ok a s') (h : Hw (k a) s' P) : Hw (bnd m k) s P := by
  unfold Hw bnd
  rw [e]
  exact h
theorem kw_bound {mode n : Nat} {size apart behind i : Int} (hn : n ≤ 60) (hs : 0 < size) (hs2 : size ≤ 8000) (ha : size ≤ apart) (ha2 : apart ≤ 16000) (hb : 0 ≤ behind) (hb2 : behind < 10000) (h0 : 0 ≤ i) (h1 : i < n) :
    (0 ≤ (kw mode n size apart behind i).1 ∧ (kw mode n size apart behind i).1 ≤ 1000000000) ∧ (0 ≤ (kw mode n size apart behind i).2 ∧ (kw mode n size apart behind i).2 ≤ 200) := by
  have hp := kw_pos (mode := mode) (n := n) (size := size) (apart := apart) (behind := behind) (i := i.toNat) (by omega) hs ha hb (by omega)
  rw [show ((i.toNat : Nat) : Int) = i by omega] at hp
  refine ⟨⟨hp.1, ?_⟩, hp.2, ?_⟩
  · have m1 : ∀ x y : Int, 0 ≤ x → x ≤ 60 → 0 ≤ y → y ≤ 32000 → x * y ≤ 60 * 32000 := fun x y a b c d => Int.mul_le_mul b d c (by omega)
    have p1 := m1 ((n : Int) - 1) apart (by omega) (by omega) (by omega) (by omega)
    have p2 := m1 i apart (by omega) (by omega) (by omega) (by omega)
    have p3 := m1 ((n : Int) - 1 - i) (2 * size + apart) (by omega) (by omega) (by omega) (by omega)
    have p5 := m1 ((n : Int) - 1 - i) (2 * size) (by omega) (by omega) (by omega) (by omega)
    have p6 : ((n : Int) - 1 - i) * ((n : Int) - 1 - i) ≤ 60 * 60 := Int.mul_le_mul (by omega) (by omega) (by omega) (by omega)
    have p7 : apart * (((n : Int) - 1 - i) * ((n : Int) - 1 - i)) ≤ 16000 * (60 * 60) := Int.mul_le_mul ha2 p6 (Int.mul_nonneg (by omega) (by omega)) (by omega)
    unfold kw
    split
    · dsimp only; omega
    · split
      · dsimp only; omega
      · split
        · split
          · dsimp only; omega
          · have p4 := m1 (i - 1) apart (by omega) (by omega) (by omega) (by omega)
            dsimp only; omega
        · dsimp only
          rw [Int.mul_assoc apart, Int.mul_comm (2 * size)]
          omega
  · unfold kw
    split
    · dsimp only; omega
    · split
      · dsimp only; omega
      · split
        · split
          · dsimp only; omega
          · dsimp only; omega
        · dsimp only; omega
theorem sum_bound {xs : List Int} {B : Int} (h : ∀ x, x ∈ xs → 0 ≤ x ∧ x ≤ B) : 0 ≤ xs.sum ∧ xs.sum ≤ xs.length * B := by
  induction xs with
  | nil => simp
  | cons x xs ih =>
    have h1 := h x (List.mem_cons_self ..)
    have h2 := ih fun y hy => h y (List.mem_cons_of_mem _ hy)
    rw [List.sum_cons, List.length_cons, Int.natCast_add, Int.add_mul]
    omega
theorem hw_right {s : List Int} (hg : Gd 0 s) : Hw (m__law_td_right ()) s fun b _ => b = true := by
  unfold m__law_td_right o__law_td_right
  simp only [bnd_assoc, bnd_ret, runB_bnd, nxc_ret, lcIt_t]
  refine hw_bnd (hw_mono (hw_pick (by decide) (by decide) (by decide) hg) fun p1 s ⟨hp1, hg⟩ => ?_)
  refine hw_bnd (hw_mono (hw_pick (by decide) (by decide) (by decide) hg) fun p2 s ⟨hp2, hg⟩ => ?_)
  refine hw_bnd (hw_mono (hw_pick (by decide) (by decide) (by decide) hg) fun p3 s ⟨hp3, hg⟩ => ?_)
  rw [lenG_ok (hz_small (k := 2) (Nat.le_refl _) (by omega)), bnd_ret]
  refine hw_bnd (hw_mono (hw_pick (by decide) (by decide) (by decide) hg) fun p4 s ⟨hp4, hg⟩ => ?_)
  have hgap : ∃ gap : Int, (ixM [0, p3] p4 : SM (List Int) Int) = ret gap ∧ 0 ≤ gap ∧ gap < 8000 := by
    rcases (show p4 = 0 ∨ p4 = 1 by omega) with e | e <;> subst e
    · exact ⟨0, rfl, by omega, by omega⟩
    · exact ⟨p3, rfl, hp3.1, hp3.2⟩
  obtain ⟨gap, eg, g0, g1⟩ := hgap
  rw [eg, bnd_ret]
  refine hw_bnd (hw_mono (hw_pick (by decide) (by decide) (by decide) hg) fun front s ⟨hp5, hg⟩ => ?_)
  refine hw_bnd (hw_mono (hw_pick (by decide) (by decide) (by decide) hg) fun behind s ⟨hp6, hg⟩ => ?_)
  refine hw_bnd (hw_mono (hw_pick (by decide) (by decide) (by decide) hg) fun p7 s ⟨hp7, hg⟩ => ?_)
  refine hw_bnd (hw_mono (hw_pick (by decide) (by decide) (by decide) hg) fun p8 s ⟨hp8, hg⟩ => ?_)
  refine hw_bnd (hw_mono (hw_price (by decide) hg) fun price s ⟨hc, hg⟩ => ?_)
  obtain ⟨n, hn⟩ : ∃ n : Nat, 1 + p1 = (n : Int) := ⟨(1 + p1).toNat, by omega⟩
  obtain ⟨mode, hmo⟩ : ∃ n : Nat, p8 = (n : Int) := ⟨p8.toNat, by omega⟩
  subst hmo
  rw [hn]
  have hn0 : 0 < n := by omega
  have hn2 : n ≤ 60 := by omega
  have hm : mode < 4 := by omega
  clear hn hp1 eg hp3 hp4
  generalize hsz : 1 + p2 = size at *
  have hs0 : 0 < size := by omega
  have hs1 : size ≤ 8000 := by omega
  generalize hco : 1 + p7 = count at *
  have hc0 : 0 < count := by omega
  have hc1 : count ≤ 20 := by omega
  generalize hap : size + gap = apart at *
  have ha0 : size ≤ apart := by omega
  have ha1 : apart ≤ 16000 := by omega
  have hf0 := hp5.1
  have hb0 := hp6.1
  clear hsz hp2 hco hp7 hap g0 g1 hp8
  have ul : ∀ m : Nat, m ≤ 60 → (upI m).length ≤ PySem.sizeLine := fun m h => hz_small (k := 60) (by rw [upI_len]; exact h) (by omega)
  have r1 : (rngG (n : Int) : SM (List Int) Unit) = ret () := rngG_ok (by omega)
  have tn : (Int.toNat (n : Int)) = n := by omega
  simp only [r1, bnd_ret, tn, upto_up]
  have mA : ∀ x : Int, (mulM x apart : SM (List Int) Int) = Td.ret (x * apart) := fun x => mulM_sm2 (by unfold Sml; omega)
  have mC : ∀ x : Int, (mulM count x : SM (List Int) Int) = Td.ret (count * x) := fun x => mulM_sm (by unfold Sml; omega)
  rw [lcM_map (fun x => front + x * apart) _ (fun x _ => by rw [mA, bnd_ret, lcIt_t]) (ul n hn2), bnd_ret]
  have ne : (upI n).map (fun x => front + x * apart) ≠ [] := by
    intro z
    have := congrArg List.length z
    rw [List.length_map, upI_len] at this
    simp at this
    omega
  have hlast : ((upI n).map (fun x => front + x * apart)).getLast?.getD 0 = front + ((n : Int) - 1) * apart := by
    obtain ⟨m, rfl⟩ : ∃ m, n = m + 1 := ⟨n - 1, by omega⟩
    rw [show upI (m + 1) = upI m ++ [(m : Int)] from rfl, List.map_append]
    simp
  rw [ixM_last (d := 0) ne, hlast, bnd_ret, lcM_map (fun b => (b, b + size)) _ (fun x _ => rfl) (by rw [List.length_map]; exact ul n hn2), bnd_ret]
  have fo : FilesOk (front + ((n : Int) - 1) * apart + size + behind) 0 (((upI n).map fun x => front + x * apart).map fun b => (b, b + size)) := by
    obtain ⟨m, rfl⟩ : ∃ m, n = m + 1 := ⟨n - 1, by omega⟩
    have := eqFiles_ok2 hs0 ha0 hf0 m
    rw [show ((m + 1 : Nat) : Int) - 1 = (m : Int) by omega]
    exact filesOk_mono (by omega) this
  have hnn : 0 ≤ ((n : Int) - 1) * apart := Int.mul_nonneg (by omega) (by omega)
  rw [make_eq (by omega) fo]
  have et : ((upI n).map fun x => front + x * apart).map (fun b => (b, b + size)) = eqFiles n size apart front := rfl
  rw [et, lcM_map (fun _ => count) _ (fun x _ => rfl) (by rw [List.length_map]; exact ul n hn2), bnd_ret, List.map_map]
  have ec : (upI n).map ((fun _ => count) ∘ fun x => front + x * apart) = (upI n).map fun _ => count := rfl
  rw [ec, kind_row_eq hm hn0 hn2, lft_ret, bnd_ret]
  rw [lcM_map (fun i => kw mode n size apart behind i) _ (fun x hx => by
    have := mem_upI.mp hx
    rw [kind_wait_eq hm hn0 hn2 hs0 hs1 (by omega) ha1 this.1 this.2, lft_ret, lcIt_t]) (ul n hn2), bnd_ret]
  have F := fit_kind (L := front + ((n : Int) - 1) * apart + size + behind) (size := size) (apart := apart) (front := front) hm hn0 hn2 hc0
  have W := waits_kind (front := front) hm hn0 hn2 hc0 hs0 ha0 hb0
  have hg12 : Gd 12 s := hg
  have hb : (n : Int) < 2 ^ 200 := Int.lt_of_le_of_lt (show (n : Int) ≤ 60 by omega) (by decide)
  have hw := hw_pick (u := (n : Int)) (n := 12) (s := s) (by omega) hb (by decide) hg12
  obtain ⟨num, s, es, hnum, hg⟩ := hw_ok hw
  refine hw_step es ?_
  rw [waits_eq F, W, lft_ret, bnd_ret]
  have tl : ((upI n).map fun i => kw mode n size apart behind i).length = n := by rw [List.length_map, upI_len]
  have g1 : ((upI n).map fun i => kw mode n size apart behind i)[num.toNat]? = some (kw mode n size apart behind num) := by
    rw [List.getElem?_map, upI_get (by omega)]
    rw [show ((num.toNat : Nat) : Int) = num by omega]
    rfl
  have kb := fun i h0 h1 => kw_bound (mode := mode) (i := i) hn2 hs0 hs1 ha0 ha1 hb0 hp6.2 h0 h1
  have i1 : (ixM (((upI n).map fun i => kw mode n size apart behind i).map some) num : SM (List Int) (Option (Int × Int))) = Td.ret (some (kw mode n size apart behind num)) := by
    rw [ixM_get none (by omega) (by rw [List.length_map, tl]; omega), List.getD_eq_getElem?_getD, List.getElem?_map, g1]
    rfl
  have i2 : (ixM ((upI n).map fun i => kw mode n size apart behind i) num : SM (List Int) (Int × Int)) = Td.ret (kw mode n size apart behind num) := by
    rw [ixM_get (0, 0) (by omega) (by rw [tl]; omega), List.getD_eq_getElem?_getD, g1]
    rfl
  have hk := kb num (by omega) (by omega)
  have rp := reprM_pair (S := List Int) (x := kw mode n size apart behind num) (log2_sm (by omega)) (log2_sm (by omega))
  rw [i1, bnd_ret, i2, show dO (dP PyData.int PyData.int) (some (kw mode n size apart behind num)) = dP PyData.int PyData.int (kw mode n size apart behind num) from rfl, rp, bnd_ret, bnd_ret, rp, bnd_ret, decide_eq_true rfl]
  simp only [Bool.not_true, Bool.false_eq_true, if_false]
  rw [lcM_map (fun x : Int × Int => x.1) _ (fun x _ => rfl) (by rw [tl]; exact hz_small hn2 (by omega)), lcM_map (fun x : Int × Int => x.2) _ (fun x _ => rfl) (by rw [tl]; exact hz_small hn2 (by omega))]
  simp only [bnd_ret, mC, runB_bnd]
  have lz : 0 ≤ lastZ mode n ∧ lastZ mode n < n := by unfold lastZ; split <;> omega
  have b13 : ([1, 3].any fun x => x == (mode : Int)) = decide (mode = 1 ∨ mode = 3) := by
    match mode, hm with
    | 0, _ => rfl
    | 1, _ => rfl
    | 2, _ => rfl
    | 3, _ => rfl
  have b2 : decide ((mode : Int) = 2) = decide (mode = 2) := decide_eq_decide.mpr (by omega)
  have hlz : (if (if decide (mode = 1 ∨ mode = 3) = true then true else if decide (mode = 2) = true then decide ((1 : Int) < n) else false) = true then (0 : Int) else (n : Int) - 1) = lastZ mode n := by
    unfold lastZ
    match mode, hm with
    | 0, _ => rfl
    | 1, _ => simp; omega
    | 2, _ => simp; split <;> split <;> omega
    | 3, _ => simp; omega
  rw [b13, b2]
  simp only [bnd_ret, ite_ret, hlz]
  rw [total_eq F (fun c hc => by obtain ⟨_, _, e⟩ := List.mem_map.mp hc; subst e; unfold Sml; omega), W, lft_ret, bnd_ret]
  have hT := totL_eq count ((upI n).map fun i => kw mode n size apart behind i)
  rw [List.map_map] at hT
  have ec2 : (upI n).map ((fun _ => count) ∘ fun i => kw mode n size apart behind i) = (upI n).map fun _ => count := rfl
  rw [ec2] at hT
  rw [hT]
  have sb1 := sum_bound (xs := ((upI n).map fun i => kw mode n size apart behind i).map (·.1)) (B := 1000000000) (fun x hx => by
    obtain ⟨y, hy, e⟩ := List.mem_map.mp hx
    obtain ⟨i, hi, e2⟩ := List.mem_map.mp hy
    subst e e2
    have := mem_upI.mp hi
    exact (kb i this.1 this.2).1)
  have sb2 := sum_bound (xs := ((upI n).map fun i => kw mode n size apart behind i).map (·.2)) (B := 200) (fun x hx => by
    obtain ⟨y, hy, e⟩ := List.mem_map.mp hx
    obtain ⟨i, hi, e2⟩ := List.mem_map.mp hy
    subst e e2
    have := mem_upI.mp hi
    exact (kb i this.1 this.2).2)
  rw [List.length_map, tl] at sb1 sb2
  have rp2 := reprM_pair (S := List Int) (x := (count * (((upI n).map fun i => kw mode n size apart behind i).map (·.1)).sum, count * (((upI n).map fun i => kw mode n size apart behind i).map (·.2)).sum))
    (log2_sm (by
      generalize (((upI n).map fun i => kw mode n size apart behind i).map (·.1)).sum = z at *
      have z1 : 0 ≤ count * z := Int.mul_nonneg (by omega) (by omega)
      have z2 : count * z ≤ 20 * (60 * 1000000000) := Int.mul_le_mul hc1 (by omega) (by omega) (by omega)
      dsimp only
      omega))
    (log2_sm (by
      generalize (((upI n).map fun i => kw mode n size apart behind i).map (·.2)).sum = z at *
      have z1 : 0 ≤ count * z := Int.mul_nonneg (by omega) (by omega)
      have z2 : count * z ≤ 20 * (60 * 200) := Int.mul_le_mul hc1 (by omega) (by omega) (by omega)
      dsimp only
      omega))
  rw [rp2, bnd_ret, bnd_ret, decide_eq_true rfl]
  simp only [Bool.not_true, Bool.false_eq_true, if_false, runB_bnd]
  have hcp := hc.p
  have h30 := hc.s2
  have hcn := hc.n
  have hs64 := hc.s1
  have kl := kb (lastZ mode n) lz.1 lz.2
  have hL : longL (((upI n).map fun i => kw mode n size apart behind i).map some) price = worthL (kw mode n size apart behind (lastZ mode n)) price := by
    rw [longL_eq hc.p]
    have fm : ∀ xs : List (Int × Int), (xs.map some).filterMap id = xs := fun xs => by
      induction xs with
      | nil => rfl
      | cons x xs ih => rw [List.map_cons, List.filterMap_cons_some (f := id) (b := x) rfl, ih]
    rw [fm]
    unfold worthL
    congr 1
    have nb : ∀ w : Int × Int, 0 ≤ w.1 → 0 ≤ w.2 → 0 ≤ numr price w := fun w a b => by
      unfold numr
      have := Int.mul_nonneg a (show 0 ≤ price.2 by omega)
      have := Int.mul_nonneg b hcn
      omega
    refine maxL_top (m := numr price (kw mode n size apart behind (lastZ mode n))) ?_ ?_ ?_
    · exact List.mem_map.mpr ⟨_, List.mem_map.mpr ⟨lastZ mode n, mem_upI.mpr lz, rfl⟩, rfl⟩
    · exact nb _ kl.1.1 kl.2.1
    · intro x hx
      obtain ⟨y, hy, e⟩ := List.mem_map.mp hx
      obtain ⟨i, hi, e2⟩ := List.mem_map.mp hy
      have hi2 := mem_upI.mp hi
      have := kw_le (behind := behind) hm hn0 hs0 ha0 (i := i.toNat) (by omega)
      rw [show ((i.toNat : Nat) : Int) = i by omega, e2] at this
      subst e
      unfold numr
      have q1 := Int.mul_le_mul_of_nonneg_right this.1 (show 0 ≤ price.2 by omega)
      have q2 := Int.mul_le_mul_of_nonneg_right this.2 hcn
      omega
  have gl : ∀ (S : Type), (ixM ((upI n).map fun i => kw mode n size apart behind i) (lastZ mode n) : SM S (Int × Int)) = Td.ret (kw mode n size apart behind (lastZ mode n)) := fun S => by
    rw [ixM_get (0, 0) lz.1 (by rw [tl]; omega), List.getD_eq_getElem?_getD, List.getElem?_map, upI_get (by omega)]
    rw [show (((lastZ mode n).toNat : Nat) : Int) = lastZ mode n by omega]
    rfl
  rw [longest_eq F hc, W, hL, lft_ret, bnd_ret, gl]
  have rp3 := reprM_pair (S := List Int) (x := worthL (kw mode n size apart behind (lastZ mode n)) price)
    (log2_sm (by
      have n0 : 0 ≤ numr price (kw mode n size apart behind (lastZ mode n)) := by
        unfold numr
        have := Int.mul_nonneg kl.1.1 (show 0 ≤ price.2 by omega)
        have := Int.mul_nonneg kl.2.1 hcn
        omega
      have n1 : numr price (kw mode n size apart behind (lastZ mode n)) ≤ 1000000000 * 2 ^ 30 + 200 * 2 ^ 64 := by
        unfold numr
        have := Int.mul_le_mul kl.1.2 (show price.2 ≤ 2 ^ 30 by omega) (by omega) (by omega)
        have := Int.mul_le_mul kl.2.2 (show price.1 ≤ 2 ^ 64 by unfold Sml at hs64; omega) hcn (by omega)
        omega
      have := low_n (y := price.2) n0
      unfold worthL
      omega))
    (log2_sm (by
      have a := low_le (x := numr price (kw mode n size apart behind (lastZ mode n))) hcp
      have b := low_pos (x := numr price (kw mode n size apart behind (lastZ mode n))) hcp
      unfold worthL
      omega))
  rw [rp3, bnd_ret, bnd_ret, comes_eq hs64 h30 hcp, lft_ret, bnd_ret, rp3, bnd_ret, decide_eq_true rfl]
  simp only [Bool.not_true, Bool.false_eq_true, if_false, runB_bnd]
  have fl2 : ∀ (g : Int × Int → Int) (g2 : Int × Int → Int) (row : List (Int × Int)), (row.flatMap fun d => [g d, g2 d]).length = 2 * row.length := by
    intro g g2 row
    induction row with
    | nil => rfl
    | cons d r ih => rw [List.flatMap_cons, List.length_append, ih, List.length_cons]; simp only [List.length_cons, List.length_nil]; omega
  have x2 : ∀ (xs : List Int) (x y : Int), (ixM (xs ++ [x, y]) (-2) : SM (List Int) Int) = Td.ret x ∧ (ixM (xs ++ [x, y]) (-1) : SM (List Int) Int) = Td.ret y := fun xs x y => by
    constructor
    · have hl : (xs ++ [x, y]).length = xs.length + 2 := by rw [List.length_append]; rfl
      have e : L2.atI (xs ++ [x, y]) (-2) = some x := by
        rw [atI_ng (by decide) (by rw [hl]; omega), ← List.getElem?_eq_getElem, hl, show (-2 + ((xs.length + 2 : Nat) : Int)).toNat = xs.length by omega, List.getElem?_append_right (Nat.le_refl _)]
        simp
      exact ixM_ok e
    · rw [ixM_last (d := 0) (by simp)]
      simp
  have gb : (ixM ((upI n).map fun x => front + x * apart) (lastZ mode n) : SM (List Int) Int) = Td.ret (front + lastZ mode n * apart) := by
    rw [ixM_get 0 lz.1 (by rw [List.length_map, upI_len]; omega), List.getD_eq_getElem?_getD, List.getElem?_map, upI_get (by omega)]
    rw [show (((lastZ mode n).toNat : Nat) : Int) = lastZ mode n by omega]
    rfl
  rw [way_eq F, way_kind hm hn0 hc0 hs0 ha0 hb0, lft_ret, bnd_ret, mulM_sm (show Sml 2 by unfold Sml; decide), bnd_ret, (x2 _ _ _).1, (x2 _ _ _).2, gb, List.length_append, fl2]
  have e0 : decide (((2 * (kindRow mode n).length + [front, front + lastZ mode n * apart + size].length : Nat) : Int) = 2 * ((kindRow mode n).length : Int) + 2) = true := decide_eq_true (by simp only [List.length_cons, List.length_nil]; omega)
  rw [e0]
  simp only [bnd_ret, Bool.not_true, Bool.false_eq_true, if_false, decide_true, runB_bnd]
  have rg : ∀ a b : Int, -1 ≤ a → a ≤ 60 → -1 ≤ b → b ≤ 60 → (grd (RgOk a b) : SM (List Int) Unit) = Td.ret () := fun a b h1 h2 h3 h4 => grd_t (by unfold RgOk; omega)
  rw [rg _ _ (by omega) (by omega) (by omega) (by omega), rg _ _ (by omega) (by omega) (by omega) (by omega), rg _ _ (by omega) (by omega) (by omega) (by omega)]
  simp only [bnd_ret, ite_ret]
  have eup : upto 1 ((n : Int) - 1).toNat = (upI (n - 1)).map (· + 1) := by rw [up1]; congr 2; omega
  have edn : dnto ((n : Int) - 1) ((n : Int) - 1 - -1).toNat = dnI (n - 1) := by
    obtain ⟨m, rfl⟩ : ∃ m, n = m + 1 := ⟨n - 1, by omega⟩
    rw [show ((m + 1 : Nat) : Int) - 1 = (m : Int) by omega, show ((m : Int) - -1).toNat = m + 1 by omega]
    exact dnto_dn m
  rw [eup, edn, lenG_ok (hz_small (k := 1) (Nat.le_refl _) (by omega)), bnd_ret, catM_ok (hz_small (k := 61) (by rw [List.length_map, upI_len]; simp only [List.length_cons, List.length_nil]; omega) (by omega)), bnd_ret, ite_ret, ]
  have eo : (if decide (mode = 2) = true then (Fl.nx ((upI (n - 1)).map (· + 1) ++ [0]) : Fl (List Int) Empty Bool) else Fl.nx (if decide (mode = 1 ∨ mode = 3) = true then dnI (n - 1) else upI n)) = Fl.nx (kindOrd mode n) := by
    unfold kindOrd
    match mode, hm with
    | 0, _ => rfl
    | 1, _ => rfl
    | 2, _ => rfl
    | 3, _ => rfl
  have efr : fr (askedL ((upI n).map fun _ => count)) (kindRow mode n) = kindRuns mode n := by rw [asked_all hc0]; exact fr_kind hm hn0
  have eix : (ixM [0, 1, 2, 1] (mode : Int) : SM (List Int) Int) = Td.ret (((if mode = 3 then 1 else mode : Nat) : Int)) := by
    match mode, hm with
    | 0, _ => rfl
    | 1, _ => rfl
    | 2, _ => rfl
    | 3, _ => rfl
  rw [eo, thn_nx, trimmed_eq F, lft_ret, bnd_ret, lenG_ok (hz_small (k := 4) (Nat.le_refl _) (by omega)), bnd_ret, eix, bnd_ret, kind_row_eq (by split <;> omega) hn0 hn2, lft_ret, bnd_ret, efr, trim_kind hm hn0]
  rw [((ed_int.P ed_int).L).neD (by decide), bnd_ret, decide_eq_true rfl]
  simp only [Bool.not_true, Bool.false_eq_true, if_false, runB_bnd]
  rw [order_eq F, lft_ret, bnd_ret, efr, ord_kind hm hn0, ed_int.L.eqD (by decide), bnd_ret, runB_rt, decide_eq_true rfl]
  exact hw_ret rfl
theorem law_true (ns : List Int) (h : ns.length ≤ 63) : ∃ s, m_law ns () = .ok true s := by
  have main : Hw (m_law ns) () fun b _ => b = true := by
    unfold m_law o_law
    simp only [bnd_assoc, bnd_ret]
    have hr : ∀ r : Int, (rngG (if (if (ns.length : Int) < 4 then (ns.length : Int) else 4) > 1 then (if (ns.length : Int) < 4 then (ns.length : Int) else 4) else 1) : SM Unit Unit) = Td.ret () := fun _ => rngG_ok (by split <;> split <;> omega)
    rw [hr 0, bnd_ret, upto_up]
    generalize (Int.toNat _) = k
    unfold runB lpM
    refine hw_bnd (hw_bnd (hw_mono (hw_for (fun _ _ _ => True) (fun _ _ => False) (upI k) 0 () () trivial fun j a l s ha _ => ?_) fun e s he => ?_))
    · have ha0 : 0 ≤ a := (mem_upI.mp (List.mem_of_getElem? ha)).1
      obtain ⟨sk, s1, e1, hg⟩ := hw_ok (hw_sack (ns := ns) ha0)
      have e2 : (lft (m__law_td_sack (ns, a)) : SM Unit (List Int)) = Td.ret sk := by
        funext s
        unfold lft
        rw [e1]
        rfl
      obtain ⟨b, s2, e3, hb⟩ := hw_ok (hw_right hg)
      have e4 : (subM (m__law_td_right ()) sk : SM Unit (Bool × List Int)) = Td.ret (b, s2) := by
        funext s
        unfold subM
        rw [e3]
        rfl
      subst hb
      rw [e2, bnd_ret, e4, bnd_ret]
      simp only [Bool.not_true, Bool.false_eq_true, if_false]
      exact hw_ret trivial
    · cases e with
      | dn l => exact hw_ret (hw_ret rfl)
      | rt b => exact he.elim
  obtain ⟨a, s, e, h⟩ := hw_ok main
  subst h
  exact ⟨s, e⟩
end Tk

set_option Elab.async false
set_option linter.all false
set_option maxRecDepth 100000
set_option maxHeartbeats 0
namespace Tk
open PySem PySem.Spec PyProof.Rows L2 He Td
theorem facts {P : Program} {w : World} {K : PySem.W.Frag} {h : Heap} {mg : Str → Option Value} {f : Addr} (X : K.In h) (G : h.Ns mainGlobals mg) (hfa : mg ("law" : Str) = some (.ref f)) (c : SaysTd Hd.exs Hd.fs K) :
    ∃ fd : FuncData, (∀ (s : Shared) (u : Value), BindsTo s fd ⟨[u], []⟩ [("_law_script", u)]) ∧ ∀ base : Heap, K.In base → base.Ns mainGlobals mg → FnG P w K mg base 8 f fd ["_law_script"] (SpP K 1 (fun u : List Int => [.is rScr u]) rBool m_law) := by
  have E := c.more
  obtain ⟨e1, E⟩ := ba E
  obtain ⟨e2, E⟩ := ba E
  obtain ⟨e3, E⟩ := ba E
  obtain ⟨e4, E⟩ := ba E
  obtain ⟨e5, E⟩ := ba E
  obtain ⟨e6, E⟩ := ba E
  obtain ⟨e7, E⟩ := ba E
  obtain ⟨e8, E⟩ := ba E
  obtain ⟨e9, E⟩ := ba E
  obtain ⟨e10, E⟩ := ba E
  have gl : ∀ x, x ∈ Hd.glos → mg x = some (.ref (ga K x)) := fun x hx => glo_ok X G (List.all_eq_true.mp e1 x hx)
  have fr : ∀ x, x ∈ Hd.frees → mg x = none := fun x hx => free_ok X G (List.all_eq_true.mp e2 x hx)
  have t_cls : TapeCls K := ⟨slcB_ok e3, slotB_ok e4, slotB_ok e5⟩
  have t_length : Prp K (tapeC K) "length" := prpB_ok e6
  have t_files : Prp K (tapeC K) "files" := prpB_ok e7
  have t_len : Mth K "__len__" := ⟨eqO_ok (ba e8).1, (ba (ba e8).2).1⟩
  have t_ix : Mth K "__getitem__" := ⟨eqO_ok (ba e9).1, (ba (ba e9).2).1⟩
  have t_mk : Mk K (tapeC K) (He.ma K (tapeC K) "__init__") := mkr_ok e10
  have g_Tape : mg "Tape" = some (.ref (tapeC K)) := gl "Tape" (by decide +kernel)
  have f_abs : mg "abs" = none := fr "abs" (by decide +kernel)
  have f_all : mg "all" = none := fr "all" (by decide +kernel)
  have f_enumerate : mg "enumerate" = none := fr "enumerate" (by decide +kernel)
  have f_int : mg "int" = none := fr "int" (by decide +kernel)
  have f_len : mg "len" = none := fr "len" (by decide +kernel)
  have f_list : mg "list" = none := fr "list" (by decide +kernel)
  have f_max : mg "max" = none := fr "max" (by decide +kernel)
  have f_min : mg "min" = none := fr "min" (by decide +kernel)
  have f_range : mg "range" = none := fr "range" (by decide +kernel)
  have f_repr : mg "repr" = none := fr "repr" (by decide +kernel)
  have f_sum : mg "sum" = none := fr "sum" (by decide +kernel)
  have f_tuple : mg "tuple" = none := fr "tuple" (by decide +kernel)
  have f_zip : mg "zip" = none := fr "zip" (by decide +kernel)
  obtain ⟨fd_Tape_DinitD, F_Tape_DinitD⟩ := c.df 19 (d := Hd.d_Tape_DinitD) rfl
  have b_Tape_DinitD : Binds K fd_Tape_DinitD ["self", "length", "files"] [] := F_Tape_DinitD.bindsN fun _ _ _ _ _ _ us hl => match us, hl with | [_, _, _], _ => rfl
  obtain ⟨fd_Tape_length, F_Tape_length⟩ := c.df 20 (d := Hd.d_Tape_length) rfl
  have b_Tape_length : Binds K fd_Tape_length ["self"] [] := F_Tape_length.bindsN fun _ _ _ _ _ _ us hl => match us, hl with | [_], _ => rfl
  obtain ⟨fd_Tape_files, F_Tape_files⟩ := c.df 21 (d := Hd.d_Tape_files) rfl
  have b_Tape_files : Binds K fd_Tape_files ["self"] [] := F_Tape_files.bindsN fun _ _ _ _ _ _ us hl => match us, hl with | [_], _ => rfl
  obtain ⟨fd_Tape_DlenD, F_Tape_DlenD⟩ := c.df 22 (d := Hd.d_Tape_DlenD) rfl
  have b_Tape_DlenD : Binds K fd_Tape_DlenD ["self"] [] := F_Tape_DlenD.bindsN fun _ _ _ _ _ _ us hl => match us, hl with | [_], _ => rfl
  obtain ⟨fd_Tape_DgetitemD, F_Tape_DgetitemD⟩ := c.df 25 (d := Hd.d_Tape_DgetitemD) rfl
  have b_Tape_DgetitemD : Binds K fd_Tape_DgetitemD ["self", "index"] [] := F_Tape_DgetitemD.bindsN fun _ _ _ _ _ _ us hl => match us, hl with | [_, _], _ => rfl
  obtain ⟨fd_lowest, F_lowest⟩ := c.df 1 (d := Hd.d_lowest) rfl
  have b_lowest : Binds K fd_lowest ["above", "below"] [] := F_lowest.bindsN fun _ _ _ _ _ _ us hl => match us, hl with | [_, _], _ => rfl
  have g_lowest : mg "lowest" = some (.ref (ga K "lowest")) := gl "lowest" (by decide +kernel)
  obtain ⟨fd_is_fraction, F_is_fraction⟩ := c.df 2 (d := Hd.d_is_fraction) rfl
  have b_is_fraction : Binds K fd_is_fraction ["pair"] [] := F_is_fraction.bindsN fun _ _ _ _ _ _ us hl => match us, hl with | [_], _ => rfl
  have g_is_fraction : mg "is_fraction" = some (.ref (ga K "is_fraction")) := gl "is_fraction" (by decide +kernel)
  obtain ⟨fd_is_less, F_is_less⟩ := c.df 3 (d := Hd.d_is_less) rfl
  have b_is_less : Binds K fd_is_less ["one", "other"] [] := F_is_less.bindsN fun _ _ _ _ _ _ us hl => match us, hl with | [_, _], _ => rfl
  have g_is_less : mg "is_less" = some (.ref (ga K "is_less")) := gl "is_less" (by decide +kernel)
  obtain ⟨fd_worth, F_worth⟩ := c.df 4 (d := Hd.d_worth) rfl
  have b_worth : Binds K fd_worth ["form", "cost"] [] := F_worth.bindsN fun _ _ _ _ _ _ us hl => match us, hl with | [_, _], _ => rfl
  have g_worth : mg "worth" = some (.ref (ga K "worth")) := gl "worth" (by decide +kernel)
  obtain ⟨fd_asked_files, F_asked_files⟩ := c.df 5 (d := Hd.d_asked_files) rfl
  have b_asked_files : Binds K fd_asked_files ["asks"] [] := F_asked_files.bindsN fun _ _ _ _ _ _ us hl => match us, hl with | [_], _ => rfl
  have g_asked_files : mg "asked_files" = some (.ref (ga K "asked_files")) := gl "asked_files" (by decide +kernel)
  obtain ⟨fd_are_asks, F_are_asks⟩ := c.df 6 (d := Hd.d_are_asks) rfl
  have b_are_asks : Binds K fd_are_asks ["many", "asks"] [] := F_are_asks.bindsN fun _ _ _ _ _ _ us hl => match us, hl with | [_, _], _ => rfl
  have g_are_asks : mg "are_asks" = some (.ref (ga K "are_asks")) := gl "are_asks" (by decide +kernel)
  obtain ⟨fd_is_row, F_is_row⟩ := c.df 7 (d := Hd.d_is_row) rfl
  have b_is_row : Binds K fd_is_row ["asks", "row"] [] := F_is_row.bindsN fun _ _ _ _ _ _ us hl => match us, hl with | [_, _], _ => rfl
  have g_is_row : mg "is_row" = some (.ref (ga K "is_row")) := gl "is_row" (by decide +kernel)
  obtain ⟨fd_is_cost, F_is_cost⟩ := c.df 8 (d := Hd.d_is_cost) rfl
  have b_is_cost : Binds K fd_is_cost ["cost"] [] := F_is_cost.bindsN fun _ _ _ _ _ _ us hl => match us, hl with | [_], _ => rfl
  have g_is_cost : mg "is_cost" = some (.ref (ga K "is_cost")) := gl "is_cost" (by decide +kernel)
  obtain ⟨fd_check_row, F_check_row⟩ := c.df 10 (d := Hd.d_check_row) rfl
  have b_check_row : Binds K fd_check_row ["asks", "row"] [] := F_check_row.bindsN fun _ _ _ _ _ _ us hl => match us, hl with | [_, _], _ => rfl
  have g_check_row : mg "check_row" = some (.ref (ga K "check_row")) := gl "check_row" (by decide +kernel)
  obtain ⟨fd_check_cost, F_check_cost⟩ := c.df 11 (d := Hd.d_check_cost) rfl
  have b_check_cost : Binds K fd_check_cost ["cost"] [] := F_check_cost.bindsN fun _ _ _ _ _ _ us hl => match us, hl with | [_], _ => rfl
  have g_check_cost : mg "check_cost" = some (.ref (ga K "check_cost")) := gl "check_cost" (by decide +kernel)
  obtain ⟨fd_check_asks, F_check_asks⟩ := c.df 9 (d := Hd.d_check_asks) rfl
  have b_check_asks : Binds K fd_check_asks ["tape", "asks"] [] := F_check_asks.bindsN fun _ _ _ _ _ _ us hl => match us, hl with | [_, _], _ => rfl
  have g_check_asks : mg "check_asks" = some (.ref (ga K "check_asks")) := gl "check_asks" (by decide +kernel)
  obtain ⟨fd_fresh_runs, F_fresh_runs⟩ := c.df 12 (d := Hd.d_fresh_runs) rfl
  have b_fresh_runs : Binds K fd_fresh_runs ["asks", "row"] [] := F_fresh_runs.bindsN fun _ _ _ _ _ _ us hl => match us, hl with | [_, _], _ => rfl
  have g_fresh_runs : mg "fresh_runs" = some (.ref (ga K "fresh_runs")) := gl "fresh_runs" (by decide +kernel)
  obtain ⟨fd_way, F_way⟩ := c.df 13 (d := Hd.d_way) rfl
  have b_way : Binds K fd_way ["tape", "asks", "row"] [] := F_way.bindsN fun _ _ _ _ _ _ us hl => match us, hl with | [_, _, _], _ => rfl
  have g_way : mg "way" = some (.ref (ga K "way")) := gl "way" (by decide +kernel)
  obtain ⟨fd_waits, F_waits⟩ := c.df 14 (d := Hd.d_waits) rfl
  have b_waits : Binds K fd_waits ["tape", "asks", "row"] [] := F_waits.bindsN fun _ _ _ _ _ _ us hl => match us, hl with | [_, _, _], _ => rfl
  have g_waits : mg "waits" = some (.ref (ga K "waits")) := gl "waits" (by decide +kernel)
  obtain ⟨fd_total, F_total⟩ := c.df 15 (d := Hd.d_total) rfl
  have b_total : Binds K fd_total ["tape", "asks", "row"] [] := F_total.bindsN fun _ _ _ _ _ _ us hl => match us, hl with | [_, _, _], _ => rfl
  have g_total : mg "total" = some (.ref (ga K "total")) := gl "total" (by decide +kernel)
  obtain ⟨fd_longest, F_longest⟩ := c.df 16 (d := Hd.d_longest) rfl
  have b_longest : Binds K fd_longest ["tape", "asks", "row", "cost"] [] := F_longest.bindsN fun _ _ _ _ _ _ us hl => match us, hl with | [_, _, _, _], _ => rfl
  have g_longest : mg "longest" = some (.ref (ga K "longest")) := gl "longest" (by decide +kernel)
  obtain ⟨fd_trimmed, F_trimmed⟩ := c.df 17 (d := Hd.d_trimmed) rfl
  have b_trimmed : Binds K fd_trimmed ["tape", "asks", "row"] [] := F_trimmed.bindsN fun _ _ _ _ _ _ us hl => match us, hl with | [_, _, _], _ => rfl
  have g_trimmed : mg "trimmed" = some (.ref (ga K "trimmed")) := gl "trimmed" (by decide +kernel)
  obtain ⟨fd_reading_order, F_reading_order⟩ := c.df 18 (d := Hd.d_reading_order) rfl
  have b_reading_order : Binds K fd_reading_order ["tape", "asks", "row"] [] := F_reading_order.bindsN fun _ _ _ _ _ _ us hl => match us, hl with | [_, _, _], _ => rfl
  have g_reading_order : mg "reading_order" = some (.ref (ga K "reading_order")) := gl "reading_order" (by decide +kernel)
  obtain ⟨fd__law_td_sack, F__law_td_sack⟩ := c.df 26 (d := Hd.d__law_td_sack) rfl
  have b__law_td_sack : Binds K fd__law_td_sack ["_law_script", "_law_rank"] [] := F__law_td_sack.bindsN fun _ _ _ _ _ _ us hl => match us, hl with | [_, _], _ => rfl
  have g__law_td_sack : mg "_law_td_sack" = some (.ref (ga K "_law_td_sack")) := gl "_law_td_sack" (by decide +kernel)
  obtain ⟨fd__law_td_pick, F__law_td_pick⟩ := c.df 27 (d := Hd.d__law_td_pick) rfl
  have b__law_td_pick : Binds K fd__law_td_pick ["_law_sack", "_law_many"] [] := F__law_td_pick.bindsN fun _ _ _ _ _ _ us hl => match us, hl with | [_, _], _ => rfl
  have g__law_td_pick : mg "_law_td_pick" = some (.ref (ga K "_law_td_pick")) := gl "_law_td_pick" (by decide +kernel)
  obtain ⟨fd__law_td_ratio, F__law_td_ratio⟩ := c.df 28 (d := Hd.d__law_td_ratio) rfl
  have b__law_td_ratio : Binds K fd__law_td_ratio ["_law_above", "_law_below"] [] := F__law_td_ratio.bindsN fun _ _ _ _ _ _ us hl => match us, hl with | [_, _], _ => rfl
  have g__law_td_ratio : mg "_law_td_ratio" = some (.ref (ga K "_law_td_ratio")) := gl "_law_td_ratio" (by decide +kernel)
  obtain ⟨fd__law_td_comes, F__law_td_comes⟩ := c.df 29 (d := Hd.d__law_td_comes) rfl
  have b__law_td_comes : Binds K fd__law_td_comes ["_law_form", "_law_price"] [] := F__law_td_comes.bindsN fun _ _ _ _ _ _ us hl => match us, hl with | [_, _], _ => rfl
  have g__law_td_comes : mg "_law_td_comes" = some (.ref (ga K "_law_td_comes")) := gl "_law_td_comes" (by decide +kernel)
  obtain ⟨fd__law_td_price, F__law_td_price⟩ := c.df 30 (d := Hd.d__law_td_price) rfl
  have b__law_td_price : Binds K fd__law_td_price ["_law_sack"] [] := F__law_td_price.bindsN fun _ _ _ _ _ _ us hl => match us, hl with | [_], _ => rfl
  have g__law_td_price : mg "_law_td_price" = some (.ref (ga K "_law_td_price")) := gl "_law_td_price" (by decide +kernel)
  obtain ⟨fd__law_td_kind_row, F__law_td_kind_row⟩ := c.df 31 (d := Hd.d__law_td_kind_row) rfl
  have b__law_td_kind_row : Binds K fd__law_td_kind_row ["_law_mode", "_law_many"] [] := F__law_td_kind_row.bindsN fun _ _ _ _ _ _ us hl => match us, hl with | [_, _], _ => rfl
  have g__law_td_kind_row : mg "_law_td_kind_row" = some (.ref (ga K "_law_td_kind_row")) := gl "_law_td_kind_row" (by decide +kernel)
  obtain ⟨fd__law_td_kind_wait, F__law_td_kind_wait⟩ := c.df 32 (d := Hd.d__law_td_kind_wait) rfl
  have b__law_td_kind_wait : Binds K fd__law_td_kind_wait ["_law_mode", "_law_many", "_law_size", "_law_apart", "_law_front", "_law_behind", "_law_number"] [] := F__law_td_kind_wait.bindsN fun _ _ _ _ _ _ us hl => match us, hl with | [_, _, _, _, _, _, _], _ => rfl
  have g__law_td_kind_wait : mg "_law_td_kind_wait" = some (.ref (ga K "_law_td_kind_wait")) := gl "_law_td_kind_wait" (by decide +kernel)
  obtain ⟨fd__law_td_right, F__law_td_right⟩ := c.df 33 (d := Hd.d__law_td_right) rfl
  have b__law_td_right : Binds K fd__law_td_right ["_law_sack"] [] := F__law_td_right.bindsN fun _ _ _ _ _ _ us hl => match us, hl with | [_], _ => rfl
  have g__law_td_right : mg "_law_td_right" = some (.ref (ga K "_law_td_right")) := gl "_law_td_right" (by decide +kernel)
  obtain ⟨fd_law, F_law⟩ := c.df 34 (d := Hd.d_law) rfl
  have g_law : mg "law" = some (.ref (ga K "law")) := gl "law" (by decide +kernel)
  have h_ix : PySem.W.fnIn K (He.ma K (tapeC K) "__getitem__") = true := fnIn_of F_Tape_DgetitemD
  have ee := hfa.symm.trans g_law
  cases ee
  have bl := FunD.bindsA (ps := ["_law_script"]) F_law fun _ _ _ _ _ _ us hl => match us, hl with | [_], _ => rfl
  refine ⟨fd_law, fun s v => bl s [v] rfl, fun base _ _ => ?_⟩
  have C_Tape_DinitD := ok_Tape_DinitD (P := P) (w := w) (K := K) (mg := mg) (base := base) (f_tuple := f_tuple) (t_cls := t_cls) (FD := F_Tape_DinitD)
  have C_Tape_length := ok_Tape_length (P := P) (w := w) (K := K) (mg := mg) (base := base) (t_cls := t_cls) (FD := F_Tape_length)
  have C_Tape_files := ok_Tape_files (P := P) (w := w) (K := K) (mg := mg) (base := base) (f_list := f_list) (t_cls := t_cls) (FD := F_Tape_files)
  have C_Tape_DlenD := ok_Tape_DlenD (P := P) (w := w) (K := K) (mg := mg) (base := base) (f_len := f_len) (t_cls := t_cls) (FD := F_Tape_DlenD)
  have C_Tape_DgetitemD := ok_Tape_DgetitemD (P := P) (w := w) (K := K) (mg := mg) (base := base) (f_len := f_len) (t_cls := t_cls) (FD := F_Tape_DgetitemD)
  have C_lowest := ok_lowest (P := P) (w := w) (K := K) (mg := mg) (base := base) (f_abs := f_abs) (f_int := f_int) (FD := F_lowest)
  have C_is_fraction := ok_is_fraction (P := P) (w := w) (K := K) (mg := mg) (base := base) (c_lowest := C_lowest) (b_lowest := b_lowest) (g_lowest := g_lowest) (k_lowest := F_lowest.kp) (FD := F_is_fraction)
  have C_is_less := ok_is_less (P := P) (w := w) (K := K) (mg := mg) (base := base) (FD := F_is_less)
  have C_worth := ok_worth (P := P) (w := w) (K := K) (mg := mg) (base := base) (c_lowest := C_lowest) (b_lowest := b_lowest) (g_lowest := g_lowest) (k_lowest := F_lowest.kp) (FD := F_worth)
  have C_asked_files := ok_asked_files (P := P) (w := w) (K := K) (mg := mg) (base := base) (f_enumerate := f_enumerate) (FD := F_asked_files)
  have C_are_asks := ok_are_asks (P := P) (w := w) (K := K) (mg := mg) (base := base) (f_all := f_all) (f_len := f_len) (FD := F_are_asks)
  have C_is_row := ok_is_row (P := P) (w := w) (K := K) (mg := mg) (base := base) (f_len := f_len) (c_asked_files := C_asked_files) (b_asked_files := b_asked_files) (g_asked_files := g_asked_files) (k_asked_files := F_asked_files.kp) (FD := F_is_row)
  have C_is_cost := ok_is_cost (P := P) (w := w) (K := K) (mg := mg) (base := base) (c_is_fraction := C_is_fraction) (b_is_fraction := b_is_fraction) (g_is_fraction := g_is_fraction) (k_is_fraction := F_is_fraction.kp) (FD := F_is_cost)
  have C_check_row := ok_check_row (P := P) (w := w) (K := K) (mg := mg) (base := base) (c_is_row := C_is_row) (b_is_row := b_is_row) (g_is_row := g_is_row) (k_is_row := F_is_row.kp) (FD := F_check_row)
  have C_check_cost := ok_check_cost (P := P) (w := w) (K := K) (mg := mg) (base := base) (c_is_cost := C_is_cost) (b_is_cost := b_is_cost) (g_is_cost := g_is_cost) (k_is_cost := F_is_cost.kp) (FD := F_check_cost)
  have C_check_asks := ok_check_asks (P := P) (w := w) (K := K) (mg := mg) (base := base) (f_len := f_len) (t_len := t_len) (c_Tape_DlenD := C_Tape_DlenD) (b_Tape_DlenD := b_Tape_DlenD) (c_are_asks := C_are_asks) (b_are_asks := b_are_asks) (g_are_asks := g_are_asks) (k_are_asks := F_are_asks.kp) (FD := F_check_asks)
  have C_fresh_runs := ok_fresh_runs (P := P) (w := w) (K := K) (mg := mg) (base := base) (c_asked_files := C_asked_files) (b_asked_files := b_asked_files) (g_asked_files := g_asked_files) (k_asked_files := F_asked_files.kp) (FD := F_fresh_runs)
  have C_way := ok_way (P := P) (w := w) (K := K) (mg := mg) (base := base) (t_cls := t_cls) (t_length := t_length) (t_ix := t_ix) (h_ix := h_ix) (c_Tape_DgetitemD := C_Tape_DgetitemD) (b_Tape_DgetitemD := b_Tape_DgetitemD) (c_Tape_length := C_Tape_length) (b_Tape_length := b_Tape_length) (c_asked_files := C_asked_files) (b_asked_files := b_asked_files) (g_asked_files := g_asked_files) (k_asked_files := F_asked_files.kp) (c_check_asks := C_check_asks) (b_check_asks := b_check_asks) (g_check_asks := g_check_asks) (k_check_asks := F_check_asks.kp) (c_check_row := C_check_row) (b_check_row := b_check_row) (g_check_row := g_check_row) (k_check_row := F_check_row.kp) (c_fresh_runs := C_fresh_runs) (b_fresh_runs := b_fresh_runs) (g_fresh_runs := g_fresh_runs) (k_fresh_runs := F_fresh_runs.kp) (FD := F_way)
  have C_waits := ok_waits (P := P) (w := w) (K := K) (mg := mg) (base := base) (f_abs := f_abs) (f_enumerate := f_enumerate) (t_cls := t_cls) (t_length := t_length) (t_ix := t_ix) (h_ix := h_ix) (c_Tape_DgetitemD := C_Tape_DgetitemD) (b_Tape_DgetitemD := b_Tape_DgetitemD) (c_Tape_length := C_Tape_length) (b_Tape_length := b_Tape_length) (c_fresh_runs := C_fresh_runs) (b_fresh_runs := b_fresh_runs) (g_fresh_runs := g_fresh_runs) (k_fresh_runs := F_fresh_runs.kp) (c_way := C_way) (b_way := b_way) (g_way := g_way) (k_way := F_way.kp) (FD := F_waits)
  have C_total := ok_total (P := P) (w := w) (K := K) (mg := mg) (base := base) (f_zip := f_zip) (c_waits := C_waits) (b_waits := b_waits) (g_waits := g_waits) (k_waits := F_waits.kp) (FD := F_total)
  have C_longest := ok_longest (P := P) (w := w) (K := K) (mg := mg) (base := base) (c_check_cost := C_check_cost) (b_check_cost := b_check_cost) (g_check_cost := g_check_cost) (k_check_cost := F_check_cost.kp) (c_is_less := C_is_less) (b_is_less := b_is_less) (g_is_less := g_is_less) (k_is_less := F_is_less.kp) (c_waits := C_waits) (b_waits := b_waits) (g_waits := g_waits) (k_waits := F_waits.kp) (c_worth := C_worth) (b_worth := b_worth) (g_worth := g_worth) (k_worth := F_worth.kp) (FD := F_longest)
  have C_trimmed := ok_trimmed (P := P) (w := w) (K := K) (mg := mg) (base := base) (f_len := f_len) (c_check_asks := C_check_asks) (b_check_asks := b_check_asks) (g_check_asks := g_check_asks) (k_check_asks := F_check_asks.kp) (c_check_row := C_check_row) (b_check_row := b_check_row) (g_check_row := g_check_row) (k_check_row := F_check_row.kp) (c_fresh_runs := C_fresh_runs) (b_fresh_runs := b_fresh_runs) (g_fresh_runs := g_fresh_runs) (k_fresh_runs := F_fresh_runs.kp) (FD := F_trimmed)
  have C_reading_order := ok_reading_order (P := P) (w := w) (K := K) (mg := mg) (base := base) (c_check_asks := C_check_asks) (b_check_asks := b_check_asks) (g_check_asks := g_check_asks) (k_check_asks := F_check_asks.kp) (c_check_row := C_check_row) (b_check_row := b_check_row) (g_check_row := g_check_row) (k_check_row := F_check_row.kp) (c_fresh_runs := C_fresh_runs) (b_fresh_runs := b_fresh_runs) (g_fresh_runs := g_fresh_runs) (k_fresh_runs := F_fresh_runs.kp) (FD := F_reading_order)
  have C__law_td_sack := ok__law_td_sack (P := P) (w := w) (K := K) (mg := mg) (base := base) (f_abs := f_abs) (f_int := f_int) (f_len := f_len) (f_max := f_max) (FD := F__law_td_sack)
  have C__law_td_pick := ok__law_td_pick (P := P) (w := w) (K := K) (mg := mg) (base := base) (f_int := f_int) (FD := F__law_td_pick)
  have C__law_td_ratio := ok__law_td_ratio (P := P) (w := w) (K := K) (mg := mg) (base := base) (f_abs := f_abs) (f_int := f_int) (f_range := f_range) (FD := F__law_td_ratio)
  have C__law_td_comes := ok__law_td_comes (P := P) (w := w) (K := K) (mg := mg) (base := base) (c__law_td_ratio := C__law_td_ratio) (b__law_td_ratio := b__law_td_ratio) (g__law_td_ratio := g__law_td_ratio) (k__law_td_ratio := F__law_td_ratio.kp) (FD := F__law_td_comes)
  have C__law_td_price := ok__law_td_price (P := P) (w := w) (K := K) (mg := mg) (base := base) (c__law_td_pick := C__law_td_pick) (b__law_td_pick := b__law_td_pick) (g__law_td_pick := g__law_td_pick) (k__law_td_pick := F__law_td_pick.kp) (c__law_td_ratio := C__law_td_ratio) (b__law_td_ratio := b__law_td_ratio) (g__law_td_ratio := g__law_td_ratio) (k__law_td_ratio := F__law_td_ratio.kp) (FD := F__law_td_price)
  have C__law_td_kind_row := ok__law_td_kind_row (P := P) (w := w) (K := K) (mg := mg) (base := base) (f_range := f_range) (FD := F__law_td_kind_row)
  have C__law_td_kind_wait := ok__law_td_kind_wait (P := P) (w := w) (K := K) (mg := mg) (base := base) (FD := F__law_td_kind_wait)
  have C__law_td_right := ok__law_td_right (P := P) (w := w) (K := K) (mg := mg) (base := base) (f_len := f_len) (f_list := f_list) (f_range := f_range) (f_repr := f_repr) (f_sum := f_sum) (t_mk := t_mk) (g_Tape := g_Tape) (c_Tape_DinitD := C_Tape_DinitD) (b_Tape_DinitD := b_Tape_DinitD) (c__law_td_comes := C__law_td_comes) (b__law_td_comes := b__law_td_comes) (g__law_td_comes := g__law_td_comes) (k__law_td_comes := F__law_td_comes.kp) (c__law_td_kind_row := C__law_td_kind_row) (b__law_td_kind_row := b__law_td_kind_row) (g__law_td_kind_row := g__law_td_kind_row) (k__law_td_kind_row := F__law_td_kind_row.kp) (c__law_td_kind_wait := C__law_td_kind_wait) (b__law_td_kind_wait := b__law_td_kind_wait) (g__law_td_kind_wait := g__law_td_kind_wait) (k__law_td_kind_wait := F__law_td_kind_wait.kp) (c__law_td_pick := C__law_td_pick) (b__law_td_pick := b__law_td_pick) (g__law_td_pick := g__law_td_pick) (k__law_td_pick := F__law_td_pick.kp) (c__law_td_price := C__law_td_price) (b__law_td_price := b__law_td_price) (g__law_td_price := g__law_td_price) (k__law_td_price := F__law_td_price.kp) (c_longest := C_longest) (b_longest := b_longest) (g_longest := g_longest) (k_longest := F_longest.kp) (c_reading_order := C_reading_order) (b_reading_order := b_reading_order) (g_reading_order := g_reading_order) (k_reading_order := F_reading_order.kp) (c_total := C_total) (b_total := b_total) (g_total := g_total) (k_total := F_total.kp) (c_trimmed := C_trimmed) (b_trimmed := b_trimmed) (g_trimmed := g_trimmed) (k_trimmed := F_trimmed.kp) (c_waits := C_waits) (b_waits := b_waits) (g_waits := g_waits) (k_waits := F_waits.kp) (c_way := C_way) (b_way := b_way) (g_way := g_way) (k_way := F_way.kp) (FD := F__law_td_right)
  have C_law := ok_law (P := P) (w := w) (K := K) (mg := mg) (base := base) (f_len := f_len) (f_max := f_max) (f_min := f_min) (f_range := f_range) (c__law_td_right := C__law_td_right) (b__law_td_right := b__law_td_right) (g__law_td_right := g__law_td_right) (k__law_td_right := F__law_td_right.kp) (c__law_td_sack := C__law_td_sack) (b__law_td_sack := b__law_td_sack) (g__law_td_sack := g__law_td_sack) (k__law_td_sack := F__law_td_sack.kp) (FD := F_law)
  exact C_law
end Tk
open PySem PySem.W PySem.Calls PyProof.Rows
theorem PySem.Challenge.cw_tapedetours_k13_rows_of_equal_files_of (hlaw : ∀ ns : List Int, ns.length ≤ 63 → ∃ s, Tk.m_law ns () = .ok true s) : PySem.Challenge.rw_tapedetours_k13_rows_of_equal_files.Holds := by
  w_on; o_law
  refine HandSHeadRun.head_any (r := OpenLaw.row PySem.Challenge.rw_tapedetours_k13_rows_of_equal_files) (q := view (OpenLaw.row PySem.Challenge.rw_tapedetours_k13_rows_of_equal_files).prog [41]) (H := Hd.hk) (ob := Hd.ob) (M := 20000) (loose := Hd.loose) (d := HandSHeadRun.topDef (OpenLaw.row PySem.Challenge.rw_tapedetours_k13_rows_of_equal_files).prog 41) (kwd := []) Hd.ob_eq
    (by kernel_rfl) (fun s => by kernel_rfl) Hd.run (by kernel_rfl) (by kernel_rfl) (by kernel_rfl) (by rfl) (by first | assumption | decide +kernel) (by decide +kernel) ⟨rfl, rfl, rfl, rfl, rfl, by decide +kernel⟩ ?hw ?hc
  case hw => w_witness2
  case hc =>
    refine Td.walk_ofG (l := PySem.Challenge.rw_tapedetours_k13_rows_of_equal_files) (n := 63) (k := 8) (x := "_law_script") rfl (by decide) (by kernel_rfl) ⟨rfl, by decide, by decide⟩ ?F
    intro w mg fa h Y G hmg0
    obtain ⟨K, KX, c⟩ := Y
    have hmg : mg ("law" : PySem.Str) = some (.ref fa) := by
      have e : (HandSHeadRun.topDef (OpenLaw.row PySem.Challenge.rw_tapedetours_k13_rows_of_equal_files).prog 41).name = ("law" : PySem.Str) := by kernel_rfl
      rw [← e]
      exact hmg0
    obtain ⟨fd, hb, hF⟩ := Tk.facts (P := (PySem.Challenge.rw_tapedetours_k13_rows_of_equal_files).prog) (w := w) KX G hmg c
    exact ⟨K, fd, _, KX, hb, fun H a ns hl hO hS => Td.law_sp hO hS (hlaw ns hl), hF⟩

open PySem PySem.W PyProof.Rows
theorem PySem.Challenge.cw_tapedetours_k13_rows_of_equal_files_holds : PySem.Challenge.rw_tapedetours_k13_rows_of_equal_files.Holds := by
  exact PySem.Challenge.cw_tapedetours_k13_rows_of_equal_files_of Tk.law_true
