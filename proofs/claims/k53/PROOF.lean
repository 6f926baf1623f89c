import PyProof.Rows.All
import Wide.All
import OpenK.AllK
import Wide.FinOn
import HandS.ForMost
import HandS.ForExc
import HandS.Slots
import HandS.SlotsOwn
import HandS.ExcInit
import HandS.Star
import HandS.Wide
import HandS.Style
import HandS.Flow
import HandS.MakeKw
import HandS.TryOnly
import HandS.Conv
import KE.KStateDown
import HandS.Ends
import HandS.Defaults
import HandS.Head0
import HandS.Head1
import HandS.Head2
import HandS.HeadEnd
import HandS.HeadHook1
import HandS.HeadHook2
import HandS.CallSlots
import KE.KNestM
import HandS.EndTab
import HandS.TupAny
import HandS.MakeKwOnly
import KE.KExcIs
import HandS.ExcOwn
import HandS.IsInst
import HandS.TupLe
import HandS.SortInts
import KE.KCallOwn
import HandS.DictComp
import HandS.FStr
import HandS.Text
import HandS.Iter
import HandS.NoneIn
import KE.KUnpackStar
import HandS.Lambda
import KE.SortKeyHeap
import KE.DataMinMax
import HandS.SortKw
import HandS.SetBool
import HandS.TupSets
import HandS.Strs
import HandS.Deep
import PySem.Challenge.RW_tapedetours_k53_texts_both_ways
set_option Elab.async false
set_option linter.all false
set_option maxRecDepth 100000
set_option maxHeartbeats 4000000
namespace Td
open PySem PySem.Spec PyProof.Rows L2
inductive Pay where
  | non | int (i : Int) | pair (a b : Int) | lsI (l : List Int) | lsP (l : List (Int × Int)) | str (x : Str)
structure Exn where
  cls : Str
  pay : Pay
inductive Rs (S T : Type) where
  | ok (a : T) (s : S)
  | exc (e : Exn) (s : S)
  | stuck
def SM (S T : Type) : Type := S → Rs S T
def Rs.wp {S T : Type} : Rs S T → (T → S → Prop) → (Exn → S → Prop) → Prop
  | .ok a s, P, _ => P a s
  | .exc e s, _, E => E e s
  | .stuck, _, _ => False
def ret {S T : Type} (a : T) : SM S T := fun s => .ok a s
def stk {S T : Type} : SM S T := fun _ => .stuck
def bnd {S T U : Type} (m : SM S T) (k : T → SM S U) : SM S U := fun s => match m s with
  | .ok a s' => k a s'
  | .exc e s' => .exc e s'
  | .stuck => .stuck
/-- a pure computation within one with a state -/
def lft {S T : Type} (m : SM Unit T) : SM S T := fun s => match m () with
  | .ok a _ => .ok a s
  | .exc e _ => .exc e s
  | .stuck => .stuck
/-- only if c holds -/
def grd {S : Type} (c : Prop) [Decidable c] : SM S Unit := fun s => if c then .ok () s else .stuck
theorem wp_mono {S T : Type} {r : Rs S T} {P P' : T → S → Prop} {E E' : Exn → S → Prop} (h : r.wp P E) (hp : ∀ a s, P a s → P' a s) (he : ∀ e s, E e s → E' e s) : r.wp P' E' := by
  cases r with
  | ok a s => exact hp a s h
  | exc e s => exact he e s h
  | stuck => exact h
theorem wp_bnd {S T U : Type} {m : SM S T} {k : T → SM S U} {s : S} {P : U → S → Prop} {E : Exn → S → Prop} (h : (bnd m k s).wp P E) : (m s).wp (fun a s' => (k a s').wp P E) E := by
  unfold bnd at h
  cases hm : m s with
  | ok a s' => rw [hm] at h; exact h
  | exc e s' => rw [hm] at h; exact h
  | stuck => rw [hm] at h; exact h
theorem bnd_wp {S T U : Type} {m : SM S T} {k : T → SM S U} {s : S} {P : U → S → Prop} {E : Exn → S → Prop} (h : (m s).wp (fun a s' => (k a s').wp P E) E) : (bnd m k s).wp P E := by
  unfold bnd
  cases hm : m s with
  | ok a s' => rw [hm] at h; exact h
  | exc e s' => rw [hm] at h; exact h
  | stuck => rw [hm] at h; exact h
theorem wp_grd {S : Type} {c : Prop} [Decidable c] {s : S} {P : Unit → S → Prop} {E : Exn → S → Prop} (h : (grd c s).wp P E) : c ∧ P () s := by
  unfold grd at h
  by_cases hc : c
  · rw [if_pos hc] at h; exact ⟨hc, h⟩
  · rw [if_neg hc] at h; exact h.elim
theorem wp_lft {S T : Type} {m : SM Unit T} {s : S} {P : T → S → Prop} {E : Exn → S → Prop} (h : ((lft m : SM S T) s).wp P E) : (m ()).wp (fun a _ => P a s) (fun e _ => E e s) := by
  unfold lft at h
  cases hm : m () with
  | ok a s' => rw [hm] at h; exact h
  | exc e s' => rw [hm] at h; exact h
  | stuck => rw [hm] at h; exact h

def isTup : HO → Bool
  | .tup _ => true
  | .frz _ _ => true
  | _ => false
/-- what may be owned -/
def isOwn : HO → Bool
  | .tup _ => false
  | .frz _ _ => false
  | .tbl _ => false
  | _ => true
theorem own_tup {o : HO} (h : isOwn o = true) : isTup o = false := by
  cases o <;> first | rfl | cases h
structure Rp (T : Type) where
  rel : PySem.W.Frag → List Addr → Hp → V → T → List Addr → Prop
  keep : ∀ {K M H H' v a B}, rel K M H v a B → (∀ p o, H p = some o → (p ∉ M ∨ p ∈ B ∨ isTup o = true) → H' p = some o) → rel K M H' v a B
  grow : ∀ {K M M' H v a B}, rel K M H v a B → (∀ p, p ∈ M' → p ∈ M ∨ H p = none) → rel K M' H v a B
  trk : ∀ {K M H v a B}, rel K M H v a B → ∀ p, p ∈ B → ∃ o, H p = some o ∧ isOwn o = true

/-- plain values -/
def rPl {T : Type} (f : T → V) : Rp T where
  rel := fun _ _ _ v a B => v = f a ∧ B = []
  keep := fun h _ => h
  grow := fun h _ => h
  trk := fun h p hp => by rw [h.2] at hp; cases hp
def rInt : Rp Int := rPl V.int
def rBool : Rp Bool := rPl V.bl
def rStr : Rp Str := rPl V.str
def rNon : Rp Unit := rPl fun _ => V.non

theorem sqT_keep {K : PySem.W.Frag} {M B : List Addr} {H H' : Hp} {p : Addr} {xs : List V} (h : SqT K H p xs) (k : ∀ p o, H p = some o → (p ∉ M ∨ p ∈ B ∨ isTup o = true) → H' p = some o) : SqT K H' p xs := by
  rcases h with (h | ⟨o, h⟩) | h
  · exact .inl (.inl (k _ _ h (.inr (.inr rfl))))
  · exact .inl (.inr ⟨o, k _ _ h (.inr (.inr rfl))⟩)
  · exact .inr h

def rPair {T U : Type} (r : Rp T) (q : Rp U) : Rp (T × U) where
  rel := fun K M H v a B => ∃ p v1 v2 B1 B2, v = .ref p ∧ SqT K H p [v1, v2] ∧ r.rel K M H v1 a.1 B1 ∧ q.rel K M H v2 a.2 B2 ∧ B = B1 ++ B2
  keep := by
    rintro K M H H' v a B ⟨p, v1, v2, B1, B2, e, hT, h1, h2, eB⟩ k
    subst eB
    exact ⟨p, v1, v2, B1, B2, e, sqT_keep hT k, r.keep h1 (fun p o e h => k p o e (h.imp id (Or.imp (fun z => List.mem_append_left _ z) id))), q.keep h2 (fun p o e h => k p o e (h.imp id (Or.imp (fun z => List.mem_append_right _ z) id))), rfl⟩
  grow := by
    rintro K M M' H v a B ⟨p, v1, v2, B1, B2, e, hT, h1, h2, eB⟩ k
    exact ⟨p, v1, v2, B1, B2, e, hT, r.grow h1 k, q.grow h2 k, eB⟩
  trk := by
    rintro K M H v a B ⟨p, v1, v2, B1, B2, e, hT, h1, h2, eB⟩ x hx
    subst eB
    rcases List.mem_append.mp hx with hx | hx
    · exact r.trk h1 x hx
    · exact q.trk h2 x hx
def rOpt {T : Type} (r : Rp T) : Rp (Option T) where
  rel := fun K M H v a B => match a with
    | none => v = .non ∧ B = []
    | some a => r.rel K M H v a B
  keep := by
    intro K M H H' v a B h k
    cases a with
    | none => exact h
    | some a => exact r.keep h k
  grow := by
    intro K M M' H v a B h k
    cases a with
    | none => exact h
    | some a => exact r.grow h k
  trk := by
    intro K M H v a B h x hx
    cases a with
    | none => rw [h.2] at hx; cases hx
    | some a => exact r.trk h x hx

/-- items one by one -/
inductive All3 {T : Type} (R : V → T → List Addr → Prop) : List V → List T → List Addr → Prop
  | nil : All3 R [] [] []
  | cons {v a B vs as A} (h : R v a B) (t : All3 R vs as A) : All3 R (v :: vs) (a :: as) (B ++ A)
theorem All3.length {T : Type} {R : V → T → List Addr → Prop} {vs : List V} {as : List T} {A : List Addr} (h : All3 R vs as A) : vs.length = as.length := by
  induction h with
  | nil => rfl
  | cons _ _ ih => simp [ih]
theorem All3.imp {T : Type} {R R' : V → T → List Addr → Prop} {vs : List V} {as : List T} {A : List Addr} (h : All3 R vs as A) (k : ∀ v a B, (∀ p, p ∈ B → p ∈ A) → R v a B → R' v a B) : All3 R' vs as A := by
  induction h with
  | nil => exact .nil
  | cons h t ih => exact .cons (k _ _ _ (fun p hp => List.mem_append_left _ hp) h) (ih fun v a B hB hr => k v a B (fun p hp => List.mem_append_right _ (hB p hp)) hr)
theorem All3.append {T : Type} {R : V → T → List Addr → Prop} {vs ws : List V} {as bs : List T} {A B : List Addr} (h : All3 R vs as A) (h' : All3 R ws bs B) : All3 R (vs ++ ws) (as ++ bs) (A ++ B) := by
  induction h with
  | nil => exact h'
  | cons h t ih =>
    rw [List.append_assoc]
    exact .cons h ih
theorem All3.get {T : Type} {R : V → T → List Addr → Prop} {vs : List V} {as : List T} {A : List Addr} (h : All3 R vs as A) {i : Nat} {v : V} (e : vs[i]? = some v) : ∃ a B, as[i]? = some a ∧ R v a B ∧ ∀ p, p ∈ B → p ∈ A := by
  induction h generalizing i with
  | nil => simp at e
  | cons h t ih =>
    cases i with
    | zero =>
      have e' := Option.some.inj e
      subst e'
      exact ⟨_, _, rfl, h, fun p hp => List.mem_append_left _ hp⟩
    | succ i =>
      obtain ⟨a, B, h1, h2, h3⟩ := ih (i := i) (by simpa using e)
      exact ⟨a, B, by simpa using h1, h2, fun p hp => List.mem_append_right _ (h3 p hp)⟩
theorem All3.get' {T : Type} {R : V → T → List Addr → Prop} {vs : List V} {as : List T} {A : List Addr} (h : All3 R vs as A) {i : Nat} {a : T} (e : as[i]? = some a) : ∃ v B, vs[i]? = some v ∧ R v a B ∧ ∀ p, p ∈ B → p ∈ A := by
  have hi : i < vs.length := by rw [h.length]; exact (List.getElem?_eq_some_iff.mp e).1
  obtain ⟨b, B, h1, h2, h3⟩ := h.get (i := i) (v := vs[i]) (List.getElem?_eq_getElem hi)
  rw [e] at h1
  cases h1
  exact ⟨_, B, List.getElem?_eq_getElem hi, h2, h3⟩
theorem All3.trk {T : Type} {R : V → T → List Addr → Prop} {vs : List V} {as : List T} {A : List Addr} {P : Addr → Prop} (h : All3 R vs as A) (k : ∀ v a B, R v a B → ∀ p, p ∈ B → P p) : ∀ p, p ∈ A → P p := by
  induction h with
  | nil => intro p hp; cases hp
  | cons h t ih =>
    intro p hp
    rcases List.mem_append.mp hp with hp | hp
    · exact k _ _ _ h p hp
    · exact ih p hp
def rList {T : Type} (r : Rp T) : Rp (List T) where
  rel := fun K M H v a B => ∃ p vs A, v = .ref p ∧ H p = some (.lst vs) ∧ All3 (r.rel K M H) vs a A ∧ B = p :: A
  keep := by
    rintro K M H H' v a B ⟨p, vs, A, e, hp, hA, eB⟩ k
    subst eB
    exact ⟨p, vs, A, e, k p _ hp (.inr (.inl (List.mem_cons_self ..))), hA.imp fun v a B hB h => r.keep h (fun p o e h => k p o e (h.imp id (Or.imp (fun z => List.mem_cons_of_mem _ (hB _ z)) id))), rfl⟩
  grow := by
    rintro K M M' H v a B ⟨p, vs, A, e, hp, hA, eB⟩ k
    exact ⟨p, vs, A, e, hp, hA.imp fun v a B hB h => r.grow h k, eB⟩
  trk := by
    rintro K M H v a B ⟨p, vs, A, e, hp, hA, eB⟩ x hx
    subst eB
    rcases List.mem_cons.mp hx with hx | hx
    · subst hx; exact ⟨_, hp, rfl⟩
    · exact hA.trk (P := fun x => ∃ o, H x = some o ∧ isOwn o = true) (fun v a B h => r.trk h) x hx
/-- a tuple of many -/
def rTupL {T : Type} (r : Rp T) : Rp (List T) where
  rel := fun K M H v a B => ∃ p vs, v = .ref p ∧ SqT K H p vs ∧ All3 (r.rel K M H) vs a B
  keep := by
    rintro K M H H' v a B ⟨p, vs, e, hp, hA⟩ k
    exact ⟨p, vs, e, sqT_keep hp k, hA.imp fun v a B hB h => r.keep h (fun p o e h => k p o e (h.imp id (Or.imp (fun z => hB _ z) id)))⟩
  grow := by
    rintro K M M' H v a B ⟨p, vs, e, hp, hA⟩ k
    exact ⟨p, vs, e, hp, hA.imp fun v a B hB h => r.grow h k⟩
  trk := by
    rintro K M H v a B ⟨p, vs, e, hp, hA⟩ x hx
    exact hA.trk (P := fun x => ∃ o, H x = some o ∧ isOwn o = true) (fun v a B h => r.trk h) x hx
/-- shared: nothing is owned here, and what is reached is owned by no one -/
def sh {T : Type} (r : Rp T) : Rp T where
  rel := fun K M H v a B => B = [] ∧ ∃ A, r.rel K M H v a A ∧ ∀ p, p ∈ A → p ∉ M
  keep := by
    rintro K M H H' v a B ⟨eB, A, h, hA⟩ k
    exact ⟨eB, A, r.keep h (fun p o e hp => k p o e (hp.elim .inl fun z => z.elim (fun y => .inl (hA p y)) fun y => .inr (.inr y))), hA⟩
  grow := by
    rintro K M M' H v a B ⟨eB, A, h, hA⟩ k
    refine ⟨eB, A, r.grow h k, fun p hp hM => ?_⟩
    rcases k p hM with z | z
    · exact hA p hp z
    · obtain ⟨o, ho, _⟩ := r.trk h p hp
      rw [z] at ho; cases ho
  trk := by
    rintro K M H v a B ⟨eB, A, h, hA⟩ x hx
    rw [eB] at hx; cases hx
/-- nothing owned -/
def Rp.Cp {T : Type} (r : Rp T) : Prop := ∀ {K M H v a B}, r.rel K M H v a B → B = []
theorem cp_int : rInt.Cp := fun h => h.2
theorem cp_bool : rBool.Cp := fun h => h.2
theorem cp_str : rStr.Cp := fun h => h.2
theorem cp_sh {T : Type} {r : Rp T} : (sh r).Cp := fun h => h.1
theorem cp_pair {T U : Type} {r : Rp T} {q : Rp U} (c1 : r.Cp) (c2 : q.Cp) : (rPair r q).Cp := by
  rintro K M H v a B ⟨p, v1, v2, B1, B2, e, hT, h1, h2, eB⟩
  rw [eB, c1 h1, c2 h2]; rfl
theorem cp_opt {T : Type} {r : Rp T} (c : r.Cp) : (rOpt r).Cp := by
  intro K M H v a B h
  cases a with
  | none => exact h.2
  | some a => exact c h
theorem cp_tupL {T : Type} {r : Rp T} (c : r.Cp) : (rTupL r).Cp := by
  rintro K M H v a B ⟨p, vs, e, hp, hA⟩
  clear e hp
  induction hA with
  | nil => rfl
  | cons h t ih => rw [c h, ih]; rfl
/-- what is owned becomes shared; what is shared may be read as the thing itself -/
theorem Rp.to_sh {T : Type} {r : Rp T} {K M M' H v a B} (h : r.rel K M H v a B) (hM : ∀ p, p ∈ M' → p ∈ M ∧ p ∉ B) : (sh r).rel K M' H v a [] :=
  ⟨rfl, B, r.grow h (fun p hp => .inl (hM p hp).1), fun p hp z => (hM p z).2 hp⟩

inductive Slot : Type 1 where
  | un
  | is {T : Type} (r : Rp T) (a : T)
  | pn {T : Type} (v : V) (r : Rp T) (a : T)
def Slot.ok (K : PySem.W.Frag) (M : List Addr) (H : Hp) : Slot → Option V → List Addr → Prop
  | .un, _, B => B = []
  | .is r a, x, B => ∃ v, x = some v ∧ r.rel K M H v a B
  | .pn v r a, x, B => x = some v ∧ r.rel K M H v a B
inductive AtS (K : PySem.W.Frag) (M : List Addr) (H : Hp) : List Slot → List (Option V) → List Addr → Prop
  | nil : AtS K M H [] [] []
  | cons {g x B G s A} (h : g.ok K M H x B) (t : AtS K M H G s A) : AtS K M H (g :: G) (x :: s) (B ++ A)
section
variable {K : PySem.W.Frag} {M M' : List Addr} {H H' : Hp}
theorem Slot.ok_keep {g : Slot} {x : Option V} {B : List Addr} (h : g.ok K M H x B) (k : ∀ p o, H p = some o → (p ∉ M ∨ p ∈ B ∨ isTup o = true) → H' p = some o) : g.ok K M H' x B := by
  cases g with
  | un => exact h
  | is r a => obtain ⟨v, e, h⟩ := h; exact ⟨v, e, r.keep h k⟩
  | pn v r a => exact ⟨h.1, r.keep h.2 k⟩
theorem Slot.ok_grow {g : Slot} {x : Option V} {B : List Addr} (h : g.ok K M H x B) (k : ∀ p, p ∈ M' → p ∈ M ∨ H p = none) : g.ok K M' H x B := by
  cases g with
  | un => exact h
  | is r a => obtain ⟨v, e, h⟩ := h; exact ⟨v, e, r.grow h k⟩
  | pn v r a => exact ⟨h.1, r.grow h.2 k⟩
theorem Slot.ok_trk {g : Slot} {x : Option V} {B : List Addr} (h : g.ok K M H x B) : ∀ p, p ∈ B → ∃ o, H p = some o ∧ isOwn o = true := by
  cases g with
  | un => intro p hp; rw [show B = [] from h] at hp; cases hp
  | is r a => obtain ⟨v, e, h⟩ := h; exact r.trk h
  | pn v r a => exact r.trk h.2
theorem AtS.keep {G s A} (h : AtS K M H G s A) (k : ∀ p o, H p = some o → (p ∉ M ∨ p ∈ A ∨ isTup o = true) → H' p = some o) : AtS K M H' G s A := by
  induction h with
  | nil => exact .nil
  | cons h t ih => exact .cons (Slot.ok_keep h fun p o e z => k p o e (z.imp id (Or.imp (fun y => List.mem_append_left _ y) id))) (ih fun p o e z => k p o e (z.imp id (Or.imp (fun y => List.mem_append_right _ y) id)))
theorem AtS.grow {G s A} (h : AtS K M H G s A) (k : ∀ p, p ∈ M' → p ∈ M ∨ H p = none) : AtS K M' H G s A := by
  induction h with
  | nil => exact .nil
  | cons h t ih => exact .cons (Slot.ok_grow h k) ih
theorem AtS.trk {G s A} (h : AtS K M H G s A) : ∀ p, p ∈ A → ∃ o, H p = some o ∧ isOwn o = true := by
  induction h with
  | nil => intro p hp; cases hp
  | cons h t ih =>
    intro p hp
    rcases List.mem_append.mp hp with hp | hp
    · exact Slot.ok_trk h p hp
    · exact ih p hp
theorem AtS.length {G s A} (h : AtS K M H G s A) : s.length = G.length := by
  induction h with
  | nil => rfl
  | cons _ _ ih => simp [ih]
theorem AtS.append {G s A G' s' A'} (h : AtS K M H G s A) (h' : AtS K M H G' s' A') : AtS K M H (G ++ G') (s ++ s') (A ++ A') := by
  induction h with
  | nil => exact h'
  | cons h t ih =>
    rw [List.append_assoc]
    exact .cons h ih
/-- a slot taken out: what it owns, the rest -/
theorem AtS.at_ {G s A} (h : AtS K M H G s A) {i : Nat} {g : Slot} (e : G[i]? = some g) : ∃ x B A1 A2, s[i]? = some x ∧ g.ok K M H x B ∧ A = A1 ++ (B ++ A2) ∧
    ∀ (M' : List Addr) (H' : Hp) (g' : Slot) (x' : Option V) (B' : List Addr), (∀ {g x B}, Slot.ok K M H g x B → (∀ p, p ∈ B → p ∈ A1 ∨ p ∈ A2) → Slot.ok K M' H' g x B) → g'.ok K M' H' x' B' → AtS K M' H' (G.set i g') (s.set i x') (A1 ++ (B' ++ A2)) := by
  induction h generalizing i with
  | nil => simp at e
  | @cons g1 x1 B1 G1 s1 A1 h t ih =>
    have all : ∀ {G s A}, AtS K M H G s A → ∀ (M' : List Addr) (H' : Hp), (∀ {g x B}, Slot.ok K M H g x B → (∀ p, p ∈ B → p ∈ A) → Slot.ok K M' H' g x B) → AtS K M' H' G s A := by
      intro G s A h M' H'
      induction h with
      | nil => intro _; exact .nil
      | cons h t ih => intro k; exact .cons (k h fun p hp => List.mem_append_left _ hp) (ih fun h hp => k h fun p z => List.mem_append_right _ (hp p z))
    cases i with
    | zero =>
      have e' : g1 = g := Option.some.inj e
      subst e'
      refine ⟨x1, B1, [], A1, rfl, h, rfl, fun M' H' g' x' B' k hg => ?_⟩
      show AtS K M' H' (g' :: G1) (x' :: s1) (B' ++ A1)
      exact .cons hg (all t M' H' fun h hp => k h fun p z => .inr (hp p z))
    | succ i =>
      obtain ⟨x, B, P1, P2, h1, h2, h3, h4⟩ := ih (i := i) (by simpa using e)
      refine ⟨x, B, B1 ++ P1, P2, by simpa using h1, h2, by rw [h3, List.append_assoc], fun M' H' g' x' B' k hg => ?_⟩
      rw [List.append_assoc]
      exact .cons (k h fun p hp => .inl (List.mem_append_left _ hp)) (h4 M' H' g' x' B' (fun h hp => k h fun p z => (hp p z).imp (fun y => List.mem_append_right _ y) id) hg)
end
theorem set_self {T : Type _} {l : List T} {i : Nat} {x : T} (h : l[i]? = some x) : l.set i x = l := by
  apply List.ext_getElem?
  intro j
  rw [List.getElem?_set]
  split
  · rename_i e
    subst e
    split
    · exact h.symm
    · rw [h]
      rename_i z
      exact absurd (List.getElem?_eq_some_iff.mp h).1 z
  · rfl

structure FC (K : PySem.W.Frag) (S : Type) where
  H0 : Hp
  I : List Addr
  M0 : List Addr
  io : S → List Slot
  W : WX
def lamDefs : List Str := ["rows_seen", "least_entry", "pieces", "all_standings"]
/-- the code object of a def, and its table -/
def codeNm (K : PySem.W.Frag) (nm : Str) : Option Addr := match K.lookup (He.ga K nm) with
  | some o => match o.data with
    | .func fd => match fd.code with
      | Value.ref c => some c
      | _ => none
    | _ => none
  | none => none
def tabC (K : PySem.W.Frag) (c : Addr) : Option Addr := match K.lookup c with
  | some o => match o.data with
    | .fields vs => match (vs[11]? : Option Value) with
      | some (Value.ref P) => some P
      | _ => none
    | _ => none
  | none => none
def tabNm (K : PySem.W.Frag) (nm : Str) : Option Addr := (codeNm K nm).bind (tabC K)
def tabL (K : PySem.W.Frag) : List Addr := lamDefs.filterMap (tabNm K)
/-- a code object that is known from now on -/
def CodeF (oc : Obj) : HO := .frz oc (.ext fun _ => True)
def TabGood (H : Hp) (q : Str) (ps : Array Value) : Prop := TriplesOk ps.toList ∧ ∀ (pos : Pos) (cv : Value), codeAmong pos ps.toList = some cv → ∃ (c : Addr) (oc : Obj) (vs : Array Value) (t : Tok), cv = .ref c ∧ H c = some (CodeF oc) ∧ oc.data = .fields vs ∧ vs[1]? = some (.str q t)
def Tb (K : PySem.W.Frag) (H : Hp) : Prop := ∀ nm, nm ∈ lamDefs → ∀ P, tabNm K nm = some P → ∃ ps, H P = some (.tbl ps) ∧ TabGood H (nm ++ ".<locals>.<lambda>") ps
theorem Tb.tab {K : PySem.W.Frag} {H : Hp} (h : Tb K H) {p : Addr} (hp : p ∈ tabL K) : ∃ ps, H p = some (.tbl ps) := by
  obtain ⟨nm, h1, h2⟩ := List.mem_filterMap.mp hp
  obtain ⟨ps, e, _⟩ := h nm h1 p h2
  exact ⟨ps, e⟩
theorem Tb.of {K : PySem.W.Frag} {H H' : Hp} (h : Tb K H) (k : ∀ p o, H p = some o → (p ∈ tabL K ∨ isTup o = true) → H' p = some o) : Tb K H' := fun nm hn P hP => by
  obtain ⟨ps, e, t, g⟩ := h nm hn P hP
  refine ⟨ps, k P _ e (.inl (List.mem_filterMap.mpr ⟨nm, hn, hP⟩)), t, fun pos cv hc => ?_⟩
  obtain ⟨c, oc, vs, tk, e1, e2, e3⟩ := g pos cv hc
  exact ⟨c, oc, vs, tk, e1, k c _ e2 (.inr rfl), e3⟩
theorem Tb.up {K : PySem.W.Frag} {H H' : Hp} (h : Tb K H) (k : ∀ p o, H p = some o → H' p = some o) : Tb K H' := h.of fun p o e _ => k p o e
structure Good {K : PySem.W.Frag} {S : Type} (F : FC K S) (H : Hp) (A : List Addr) : Prop where
  nd : A.Nodup
  out : ∀ p, p ∈ A → p ∉ F.M0
  new : ∀ p, p ∈ A → F.H0 p = none ∨ p ∈ F.I
  has : ∀ p, p ∈ F.I → ∃ o, H p = some o ∧ isOwn o = true
  stay : ∀ p o, F.H0 p = some o → p ∉ F.I → p ∉ tabL K → H p = some o
  m0 : ∀ p, p ∈ F.M0 → (∃ o, F.H0 p = some o ∧ isTup o = false) ∧ p ∉ F.I
  tm : ∀ p, p ∈ tabL K → p ∈ F.M0
  tb : Tb K H
theorem Good.ntab {K : PySem.W.Frag} {S : Type} {F : FC K S} {H : Hp} {A : List Addr} (g : Good F H A) {p : Addr} {o : HO} (e : H p = some o) (h : p ∉ F.M0 ∨ isTup o = true) : p ∉ tabL K := fun hp => by
  rcases h with h | h
  · exact h (g.tm p hp)
  · obtain ⟨ps, e2⟩ := g.tb.tab hp
    rw [e] at e2; cases e2
    cases h
theorem Good.nt {K : PySem.W.Frag} {S : Type} {F : FC K S} {H : Hp} {A : List Addr} (g : Good F H A) {M B : List Addr} {p : Addr} {o : HO} (e : H p = some o) (z : p ∉ M ∨ p ∈ B ∨ isTup o = true) (hM : ∀ x, x ∈ F.M0 → x ∈ M) (hB : ∀ x, x ∈ B → x ∈ A) : p ∉ tabL K :=
  g.ntab e (z.elim (fun z => .inl fun y => z (hM p y)) fun z => z.elim (fun z => .inl (g.out p (hB p z))) .inr)
theorem Good.ntI {K : PySem.W.Frag} {S : Type} {F : FC K S} {H : Hp} {A : List Addr} (g : Good F H A) {p : Addr} (hp : p ∈ F.I) : p ∉ tabL K := fun z => (g.m0 p (g.tm p z)).2 hp
/-- what is owned is no table -/
theorem Tb.own {K : PySem.W.Frag} {H : Hp} (h : Tb K H) {p : Addr} (hp : ∃ o, H p = some o ∧ isOwn o = true) : p ∉ tabL K := fun z => by
  obtain ⟨ps, e⟩ := h.tab z
  obtain ⟨o, e2, ho⟩ := hp
  rw [e] at e2; cases e2
  cases ho
theorem Tb.weak {K : PySem.W.Frag} {H : Hp} (h : Tb K H) {p : Addr} (hp : p ∈ tabL K) : ∃ o, H p = some o ∧ isTup o = false := by
  obtain ⟨ps, e⟩ := h.tab hp
  exact ⟨_, e, rfl⟩
/-- what is no one's here still stands -/
theorem Good.m0H {K : PySem.W.Frag} {S : Type} {F : FC K S} {H : Hp} {A : List Addr} (g : Good F H A) : ∀ p, p ∈ F.M0 → ∃ o, H p = some o ∧ isTup o = false := fun p hp => by
  obtain ⟨⟨o, z, zt⟩, hI⟩ := g.m0 p hp
  by_cases ht : p ∈ tabL K
  · exact g.tb.weak ht
  · exact ⟨o, g.stay p o z hI ht, zt⟩
theorem own_weak {H : Hp} {p : Addr} (h : ∃ o, H p = some o ∧ isOwn o = true) : ∃ o, H p = some o ∧ isTup o = false := h.imp fun _ z => ⟨z.1, own_tup z.2⟩
structure AtP {K : PySem.W.Frag} {S : Type} (F : FC K S) (T : List Slot) (t : List V) (G : List Slot) (s : L2.St) (H : Hp) (A1 A2 : List Addr) : Prop where
  tmp : AtS K (A1 ++ A2 ++ F.M0) H T (t.map some) A1
  loc : AtS K (A1 ++ A2 ++ F.M0) H G s A2
  good : Good F H (A1 ++ A2)
theorem Good.sub {K : PySem.W.Frag} {S : Type} {F : FC K S} {H : Hp} {A A' : List Addr} (g : Good F H A) (nd : A'.Nodup) (h : ∀ p, p ∈ A' → p ∈ A) : Good F H A' :=
  ⟨nd, fun p hp => g.out p (h p hp), fun p hp => g.new p (h p hp), g.has, g.stay, g.m0, g.tm, g.tb⟩
/-- what is untracked is new -/
theorem Good.fresh {K : PySem.W.Frag} {S : Type} {F : FC K S} {H : Hp} {A : List Addr} (g : Good F H A) {p : Addr} (hp : H p = none) : F.H0 p = none ∧ p ∉ F.M0 ∧ p ∉ F.I := by
  have hI : p ∉ F.I := fun z => by
    obtain ⟨o, ho, _⟩ := g.has p z
    rw [hp] at ho; cases ho
  have h0 : F.H0 p = none := by
    cases q : F.H0 p with
    | none => rfl
    | some o =>
      have := g.stay p o q hI fun z => by
        obtain ⟨ps, e2⟩ := g.tb.tab z
        rw [hp] at e2; cases e2
      rw [hp] at this; cases this
  refine ⟨h0, fun z => ?_, hI⟩
  obtain ⟨⟨o, ho, _⟩, _⟩ := g.m0 p z
  rw [h0] at ho; cases ho
def At {K : PySem.W.Frag} {S : Type} (F : FC K S) (T : List Slot) (t : List V) (G : List Slot) (s : L2.St) (H : Hp) : Prop := ∃ A1 A2, AtP F T t G s H A1 A2
end Td
namespace Td
open PySem PySem.Spec PyProof.Rows L2
section
variable {K : PySem.W.Frag} {S : Type} {F : FC K S} {T : List Slot} {t : List V} {G : List Slot} {s : L2.St} {H : Hp}
theorem At.len (h : At F T t G s H) : s.length = G.length := by
  obtain ⟨A1, A2, h⟩ := h
  exact h.loc.length
/-- a plain value becomes a temp -/
theorem At.push {U : Type} {r : Rp U} {a : U} {v : V} (h : At F T t G s H) (hr : ∀ M, r.rel K M H v a []) : At F (.is r a :: T) (v :: t) G s H := by
  obtain ⟨A1, A2, h⟩ := h
  exact ⟨A1, A2, .cons (B := []) ⟨v, rfl, hr _⟩ h.tmp, h.loc, h.good⟩
/-- the heap grows by an untracked thing -/
theorem At.heap {H' : Hp} (h : At F T t G s H) (k : ∀ p o, H p = some o → H' p = some o) : At F T t G s H' := by
  obtain ⟨A1, A2, h⟩ := h
  refine ⟨A1, A2, h.tmp.keep fun p o e _ => k p o e, h.loc.keep fun p o e _ => k p o e, ⟨h.good.nd, h.good.out, h.good.new, fun p hp => ?_, fun p o e hp ht => k p o (h.good.stay p o e hp ht), h.good.m0, h.good.tm, h.good.tb.up k⟩⟩
  obtain ⟨o, ho, ht⟩ := h.good.has p hp
  exact ⟨o, k p o ho, ht⟩
theorem AtS.cons_inv {K : PySem.W.Frag} {M : List Addr} {H : Hp} {g : Slot} {G : List Slot} {x : Option V} {s : List (Option V)} {A : List Addr} (h : AtS K M H (g :: G) (x :: s) A) : ∃ B A', A = B ++ A' ∧ g.ok K M H x B ∧ AtS K M H G s A' := by
  cases h with
  | cons h t => exact ⟨_, _, rfl, h, t⟩
theorem At.pop {g : Slot} {v : V} (h : At F (g :: T) (v :: t) G s H) : At F T t G s H := by
  obtain ⟨A1, A2, h⟩ := h
  obtain ⟨B, A', eA, h1, h2⟩ := AtS.cons_inv h.tmp
  subst eA
  have hs : ∀ p, p ∈ A' ++ A2 → p ∈ (B ++ A') ++ A2 := fun p hp => by simp only [List.mem_append] at *; grind
  have hM : ∀ p, p ∈ A' ++ A2 ++ F.M0 → p ∈ (B ++ A') ++ A2 ++ F.M0 ∨ H p = none := fun p hp => .inl (by simp only [List.mem_append] at *; grind)
  refine ⟨A', A2, h2.grow hM, h.loc.grow hM, h.good.sub ?_ hs⟩
  have := h.good.nd
  rw [List.append_assoc] at this
  exact (List.nodup_append.mp this).2.1
/-- what stands in slot i -/
theorem At.slot (h : At F T t G s H) {i : Nat} {U : Type} {r : Rp U} {a : U} (e : G[i]? = some (.is r a)) : ∃ v M B, s[i]? = some (some v) ∧ r.rel K M H v a B := by
  obtain ⟨A1, A2, h⟩ := h
  obtain ⟨x, B, P1, P2, e1, ⟨v, e2, hr⟩, _⟩ := h.loc.at_ e
  subst e2
  exact ⟨v, _, B, e1, hr⟩
/-- a slot that owns nothing, read -/
theorem At.copy (h : At F T t G s H) {i : Nat} {U : Type} {r : Rp U} {a : U} (c : r.Cp) (e : G[i]? = some (.is r a)) : ∃ v, s[i]? = some (some v) ∧ At F (.is r a :: T) (v :: t) G s H := by
  obtain ⟨A1, A2, h⟩ := h
  obtain ⟨x, B, P1, P2, e1, ⟨v, e2, hr⟩, _⟩ := h.loc.at_ e
  subst e2
  have eB := c hr
  subst eB
  exact ⟨v, e1, A1, A2, .cons (B := []) ⟨v, rfl, hr⟩ h.tmp, h.loc, h.good⟩
/-- a slot's thing taken out of it -/
theorem At.move (h : At F T t G s H) {i : Nat} {U : Type} {r : Rp U} {a : U} (e : G[i]? = some (.is r a)) : ∃ v, s[i]? = some (some v) ∧ At F (.is r a :: T) (v :: t) (G.set i .un) s H := by
  obtain ⟨A1, A2, h⟩ := h
  obtain ⟨x, B, P1, P2, e1, ⟨v, e2, hr⟩, eA, back⟩ := h.loc.at_ e
  subst e2 eA
  have hM : ∀ p, p ∈ (B ++ A1) ++ (P1 ++ ([] ++ P2)) ++ F.M0 → p ∈ A1 ++ (P1 ++ (B ++ P2)) ++ F.M0 ∨ H p = none := fun p hp => .inl (by simp only [List.mem_append, List.nil_append] at *; grind)
  have nd := h.good.nd
  refine ⟨v, e1, B ++ A1, P1 ++ ([] ++ P2), .cons ⟨v, rfl, r.grow hr hM⟩ (h.tmp.grow hM), ?_, h.good.sub ?_ fun p hp => by simp only [List.mem_append, List.nil_append] at *; grind⟩
  · have z := back _ H .un (some v) [] (fun h _ => Slot.ok_grow h hM) rfl
    rwa [set_self e1] at z
  · simp only [List.nodup_append, List.mem_append, List.nil_append] at *
    grind
/-- a temp goes into slot i -/
theorem At.store (h : At F (g :: T) (v :: t) G s H) {g' : Slot} (i : Nat) (e : G[i]? = some g') : At F T t (G.set i g) (s.set i (some v)) H := by
  obtain ⟨A1, A2, h⟩ := h
  obtain ⟨B, A', eA, h1, h2⟩ := AtS.cons_inv h.tmp
  obtain ⟨x, B', P1, P2, e1, hr, eA2, back⟩ := h.loc.at_ e
  subst eA eA2
  have hM : ∀ p, p ∈ A' ++ (P1 ++ (B ++ P2)) ++ F.M0 → p ∈ (B ++ A') ++ (P1 ++ (B' ++ P2)) ++ F.M0 ∨ H p = none := fun p hp => .inl (by simp only [List.mem_append] at *; grind)
  have nd := h.good.nd
  refine ⟨A', P1 ++ (B ++ P2), h2.grow hM, back _ H g (some v) B (fun h _ => Slot.ok_grow h hM) (Slot.ok_grow h1 hM), h.good.sub ?_ fun p hp => by simp only [List.mem_append] at *; grind⟩
  simp only [List.nodup_append, List.mem_append] at *
  grind

/-- less is known -/
inductive Weak : List Slot → List Slot → Prop
  | nil : Weak [] []
  | un {g G G'} (h : Weak G G') : Weak (g :: G) (.un :: G')
  | eq {g G G'} (h : Weak G G') : Weak (g :: G) (g :: G')
  | go {g g' G G'} (k : ∀ {K M H x B}, Slot.ok K M H g x B → Slot.ok K M H g' x B) (h : Weak G G') : Weak (g :: G) (g' :: G')
theorem Weak.refl : ∀ G, Weak G G
  | [] => .nil
  | _ :: G => .eq (Weak.refl G)
theorem AtS.weak {M : List Addr} {G G' : List Slot} (w : Weak G G') : ∀ {s : List (Option V)} {A : List Addr}, AtS K M H G s A → ∃ A', AtS K M H G' s A' ∧ (∀ p, p ∈ A' → p ∈ A) ∧ (A.Nodup → A'.Nodup) := by
  induction w with
  | nil => intro s A h; exact ⟨A, h, fun _ z => z, id⟩
  | @un g G G' w ih =>
    intro s A h
    cases h with
    | @cons _ x B _ s A h t =>
      obtain ⟨A', h1, h2, h3⟩ := ih t
      refine ⟨[] ++ A', .cons (B := []) rfl h1, fun p hp => List.mem_append_right _ (h2 p hp), fun nd => h3 (List.nodup_append.mp nd).2.1⟩
  | @eq g G G' w ih =>
    intro s A h
    cases h with
    | @cons _ x B _ s A h t =>
      obtain ⟨A', h1, h2, h3⟩ := ih t
      refine ⟨B ++ A', .cons h h1, fun p hp => ?_, fun nd => ?_⟩
      · rcases List.mem_append.mp hp with hp | hp
        · exact List.mem_append_left _ hp
        · exact List.mem_append_right _ (h2 p hp)
      · obtain ⟨n1, n2, n3⟩ := List.nodup_append.mp nd
        exact List.nodup_append.mpr ⟨n1, h3 n2, fun a ha b hb => n3 a ha b (h2 b hb)⟩
  | @go g g' G G' k w ih =>
    intro s A h
    cases h with
    | @cons _ x B _ s A h t =>
      obtain ⟨A', h1, h2, h3⟩ := ih t
      refine ⟨B ++ A', .cons (k h) h1, fun p hp => ?_, fun nd => ?_⟩
      · rcases List.mem_append.mp hp with hp | hp
        · exact List.mem_append_left _ hp
        · exact List.mem_append_right _ (h2 p hp)
      · obtain ⟨n1, n2, n3⟩ := List.nodup_append.mp nd
        exact List.nodup_append.mpr ⟨n1, h3 n2, fun a ha b hb => n3 a ha b (h2 b hb)⟩
theorem At.weak {G' : List Slot} (h : At F T t G s H) (w : Weak G G') : At F T t G' s H := by
  obtain ⟨A1, A2, h⟩ := h
  obtain ⟨A', h1, h2, h3⟩ := h.loc.weak w
  have nd := h.good.nd
  obtain ⟨n1, n2, n3⟩ := List.nodup_append.mp nd
  have hM : ∀ p, p ∈ A1 ++ A' ++ F.M0 → p ∈ A1 ++ A2 ++ F.M0 ∨ H p = none := fun p hp => .inl (by
    have := h2 p
    simp only [List.mem_append] at *
    grind)
  refine ⟨A1, A', h.tmp.grow hM, h1.grow hM, h.good.sub (List.nodup_append.mpr ⟨n1, h3 n2, fun a ha b hb => n3 a ha b (h2 b hb)⟩) fun p hp => ?_⟩
  have := h2 p
  simp only [List.mem_append] at *
  grind
theorem AtS.un : ∀ {M : List Addr} {s : List (Option V)}, AtS K M H (List.replicate s.length .un) s []
  | _, [] => .nil
  | _, _ :: s => .cons (B := []) rfl (AtS.un (s := s))
/-- of temps alone -/
theorem At.only (h : At F T t G s H) : At F T t (List.replicate s.length .un) s H := by
  obtain ⟨A1, A2, h⟩ := h
  have nd := h.good.nd
  have hM : ∀ p, p ∈ A1 ++ [] ++ F.M0 → p ∈ A1 ++ A2 ++ F.M0 ∨ H p = none := fun p hp => .inl (by simp only [List.mem_append] at *; grind)
  exact ⟨A1, [], h.tmp.grow hM, AtS.un, h.good.sub (by rw [List.append_nil]; exact (List.nodup_append.mp nd).1) fun p hp => by simp only [List.mem_append] at *; grind⟩
end
end Td
set_option Elab.async false
set_option linter.all false
set_option maxRecDepth 100000
set_option maxHeartbeats 4000000
namespace Td
open PySem PySem.Spec PyProof.Rows L2
/-- what an error holds -/
def rPay : Rp Pay where
  rel := fun K M H v a B => match a with
    | .non => v = .non ∧ B = []
    | .int i => rInt.rel K M H v i B
    | .pair a b => (rPair rInt rInt).rel K M H v (a, b) B
    | .lsI l => (rList rInt).rel K M H v l B
    | .lsP l => (rList (rPair rInt rInt)).rel K M H v l B
    | .str x => rStr.rel K M H v x B
  keep := by
    intro K M H H' v a B h k
    cases a with
    | non => exact h
    | int i => exact rInt.keep h k
    | pair a b => exact (rPair rInt rInt).keep h k
    | lsI l => exact (rList rInt).keep h k
    | lsP l => exact (rList (rPair rInt rInt)).keep h k
    | str x => exact rStr.keep h k
  grow := by
    intro K M M' H v a B h k
    cases a with
    | non => exact h
    | int i => exact rInt.grow h k
    | pair a b => exact (rPair rInt rInt).grow h k
    | lsI l => exact (rList rInt).grow h k
    | lsP l => exact (rList (rPair rInt rInt)).grow h k
    | str x => exact rStr.grow h k
  trk := by
    intro K M H v a B h
    cases a with
    | non => intro p hp; rw [h.2] at hp; cases hp
    | int i => exact rInt.trk h
    | pair a b => exact (rPair rInt rInt).trk h
    | lsI l => exact (rList rInt).trk h
    | lsP l => exact (rList (rPair rInt rInt)).trk h
    | str x => exact rStr.trk h

/-- an error's dict, with what it holds -/
def rXd : Rp Pay where
  rel := fun K M H v a B => ∃ d w C, v = .ref d ∧ H d = some (.xd [("value", w)]) ∧ rPay.rel K M H w a C ∧ B = d :: C
  keep := by
    rintro K M H H' v a B ⟨d, w, C, e, hd, h, eB⟩ k
    subst eB
    exact ⟨d, w, C, e, k d _ hd (.inr (.inl (List.mem_cons_self ..))), rPay.keep h (fun p o e h => k p o e (h.imp id (Or.imp (fun z => List.mem_cons_of_mem _ z) id))), rfl⟩
  grow := by
    rintro K M M' H v a B ⟨d, w, C, e, hd, h, eB⟩ k
    exact ⟨d, w, C, e, hd, rPay.grow h k, eB⟩
  trk := by
    rintro K M H v a B ⟨d, w, C, e, hd, h, eB⟩ x hx
    subst eB
    rcases List.mem_cons.mp hx with hx | hx
    · subst hx; exact ⟨_, hd, rfl⟩
    · exact rPay.trk h x hx

section
variable {K : PySem.W.Frag} {S : Type}
/-- an error may leave -/
def XP (F : FC K S) (σ : L2.St) (e : Exn) (s : S) : Prop := ∀ d H', At F [.is rXd e.pay] [.ref d] (F.io s) σ H' → F.W (.ref (He.ga K e.cls)) (some d) σ H'

def GE (F : FC K S) {U : Type} (te : TE) (G G' : S → List Slot) (r : Rp U) (m : SM S U) : Prop :=
  ∀ (T : List Slot) (t : List V) (σ : L2.St) (s : S) (H : Hp) (Q : VK), At F T t (G s) σ H →
    (m s).wp (fun a s' => ∀ v H', At F (.is r a :: T) (v :: t) (G' s') σ H' → Q v H') (XP F σ) → te σ H Q
def GT (F : FC K S) (te : TT) (G G' : S → List Slot) (m : SM S Bool) : Prop :=
  ∀ (T : List Slot) (t : List V) (σ : L2.St) (s : S) (H : Hp) (Q : Bool → Hp → Prop), At F T t (G s) σ H →
    (m s).wp (fun a s' => ∀ H', At F T t (G' s') σ H' → Q a H') (XP F σ) → te σ H Q
/-- an argument: a temp, or a name whose thing is read where it stands -/
inductive Arg : Type 1 where
  | t (g : Slot)
  | v (i : Nat)
  | u (w : V)
def tmps : List Arg → List Slot
  | [] => []
  | .t g :: L => g :: tmps L
  | .v _ :: L => tmps L
  | .u _ :: L => tmps L
inductive ArgV (σ : L2.St) : List Arg → List V → List V → Prop
  | nil : ArgV σ [] [] []
  | t {g L v ts vs} (h : ArgV σ L ts vs) : ArgV σ (.t g :: L) (v :: ts) (v :: vs)
  | v {i L v ts vs} (e : σ[i]? = some (some v)) (h : ArgV σ L ts vs) : ArgV σ (.v i :: L) ts (v :: vs)
  | u {L v ts vs} (h : ArgV σ L ts vs) : ArgV σ (.u v :: L) ts (v :: vs)
def GA (F : FC K S) {U : Type} (ta : TA) (G G' : S → List Slot) (L : U → List Arg) (m : SM S U) : Prop :=
  ∀ (T : List Slot) (t : List V) (σ : L2.St) (s : S) (H : Hp) (Q : List V → Hp → Prop), At F T t (G s) σ H →
    (m s).wp (fun a s' => ∀ ts vs H', At F ((tmps (L a)).reverse ++ T) (ts.reverse ++ t) (G' s') σ H' → ArgV σ (L a) ts vs → Q vs H') (XP F σ) → ta σ H Q

section
variable {F : FC K S} {G G1 G2 G' : S → List Slot}
theorem ga_nil : GA F tNil G G (fun _ : Unit => []) (ret ()) := fun T t σ s H Q h q => q [] [] H (by simpa [tmps] using h) .nil
/-- a pair at hand: its two values are known -/
def rBox {T U : Type} (v1 v2 : V) (r : Rp T) (q : Rp U) : Rp (T × U) where
  rel := fun K M H v a B => ∃ p B1 B2, v = .ref p ∧ SqT K H p [v1, v2] ∧ r.rel K M H v1 a.1 B1 ∧ q.rel K M H v2 a.2 B2 ∧ B = B1 ++ B2
  keep := by
    rintro K M H H' v a B ⟨p, B1, B2, e, hT, h1, h2, eB⟩ k
    subst eB
    exact ⟨p, B1, B2, e, sqT_keep hT k, r.keep h1 (fun p o e h => k p o e (h.imp id (Or.imp (fun z => List.mem_append_left _ z) id))), q.keep h2 (fun p o e h => k p o e (h.imp id (Or.imp (fun z => List.mem_append_right _ z) id))), rfl⟩
  grow := by
    rintro K M M' H v a B ⟨p, B1, B2, e, hT, h1, h2, eB⟩ k
    exact ⟨p, B1, B2, e, hT, r.grow h1 k, q.grow h2 k, eB⟩
  trk := by
    rintro K M H v a B ⟨p, B1, B2, e, hT, h1, h2, eB⟩ x hx
    subst eB
    rcases List.mem_append.mp hx with hx | hx
    · exact r.trk h1 x hx
    · exact q.trk h2 x hx
/-- how an argument may be read -/
inductive Rdd {U : Type} (G : List Slot) : Arg → Rp U → U → Prop
  | t {r a} : Rdd G (.t (.is r a)) r a
  | ts {r a} : Rdd G (.t (.is (sh r) a)) r a
  | v {i r a} (e : G[i]? = some (.is r a)) : Rdd G (.v i) r a
  | vs {i r a} (e : G[i]? = some (.is (sh r) a)) : Rdd G (.v i) r a
  | pn {i v r a} (e : G[i]? = some (.pn v r a)) : Rdd G (.v i) r a
  | b1 {i : Nat} {v1 v2 : V} {r : Rp U} {a : U} {W : Type} {q : Rp W} {b : W} (e : G[i]? = some (Slot.is (rBox v1 v2 r q) (a, b))) : Rdd G (.u v1) r a
  | b2 {i : Nat} {v1 v2 : V} {r : Rp U} {a : U} {W : Type} {q : Rp W} {b : W} (e : G[i]? = some (Slot.is (rBox v1 v2 q r) (b, a))) : Rdd G (.u v2) r a
  | ov {i : Nat} {g : Slot} {r : Rp U} {a : U} (e : G[i]? = some g) (k : ∀ {K M H v B}, Slot.ok K M H g (some v) B → ∃ B', r.rel K M H v a B') : Rdd G (.v i) r a
  | ou {i : Nat} {g : Slot} {w : V} {r : Rp U} {a : U} (e : G[i]? = some g) (k : ∀ {K M H x B}, Slot.ok K M H g x B → ∃ B', r.rel K M H w a B') : Rdd G (.u w) r a
theorem AtS.mem {M : List Addr} {H : Hp} {G : List Slot} {s : List (Option V)} {A : List Addr} (h : AtS K M H G s A) {i : Nat} {g : Slot} (e : G[i]? = some g) : ∃ x B, s[i]? = some x ∧ g.ok K M H x B ∧ ∀ p, p ∈ B → p ∈ A := by
  obtain ⟨x, B, P1, P2, e1, h1, eA, _⟩ := h.at_ e
  exact ⟨x, B, e1, h1, fun p hp => by rw [eA]; exact List.mem_append_right _ (List.mem_append_left _ hp)⟩
/-- the place of an argument's temp -/
theorem argV_tmp {σ : L2.St} : ∀ {L : List Arg} {ts vs : List V} {j : Nat} {g : Slot}, ArgV σ L ts vs → L[j]? = some (.t g) → ∃ (k : Nat) (v : V), (tmps L)[k]? = some g ∧ ts[k]? = some v ∧ vs[j]? = some v
  | _, _, _, j, g, .nil, e => by simp at e
  | _, _, _, 0, g, .t h, e => by
    have e' := Option.some.inj e
    cases e'
    exact ⟨0, _, rfl, rfl, rfl⟩
  | _, _, _, j + 1, g, .t h, e => by
    obtain ⟨k, v, h1, h2, h3⟩ := argV_tmp (j := j) h (by simpa using e)
    exact ⟨k + 1, v, by simpa [tmps] using h1, by simpa using h2, by simpa using h3⟩
  | _, _, _, 0, g, .v _ h, e => by
    have e' := Option.some.inj e
    cases e'
  | _, _, _, j + 1, g, .v _ h, e => by
    obtain ⟨k, v, h1, h2, h3⟩ := argV_tmp (j := j) h (by simpa using e)
    exact ⟨k, v, by simpa [tmps] using h1, h2, by simpa using h3⟩
  | _, _, _, 0, g, .u h, e => by
    have e' := Option.some.inj e
    cases e'
  | _, _, _, j + 1, g, .u h, e => by
    obtain ⟨k, v, h1, h2, h3⟩ := argV_tmp (j := j) h (by simpa using e)
    exact ⟨k, v, by simpa [tmps] using h1, h2, by simpa using h3⟩
theorem argV_u {σ : L2.St} : ∀ {L : List Arg} {ts vs : List V} {j : Nat} {w : V}, ArgV σ L ts vs → L[j]? = some (.u w) → vs[j]? = some w
  | _, _, _, j, w, .nil, e => by simp at e
  | _, _, _, 0, w, .t h, e => by
    have e' := Option.some.inj e
    cases e'
  | _, _, _, 0, w, .v _ h, e => by
    have e' := Option.some.inj e
    cases e'
  | _, _, _, 0, w, .u h, e => by
    have e' := Option.some.inj e
    cases e'
    rfl
  | _, _, _, j + 1, w, .t h, e => by simpa using argV_u (j := j) h (by simpa using e)
  | _, _, _, j + 1, w, .v _ h, e => by simpa using argV_u (j := j) h (by simpa using e)
  | _, _, _, j + 1, w, .u h, e => by simpa using argV_u (j := j) h (by simpa using e)
theorem argV_len {σ : L2.St} : ∀ {L : List Arg} {ts vs : List V}, ArgV σ L ts vs → vs.length = L.length ∧ ts.length = (tmps L).length
  | _, _, _, .nil => ⟨rfl, rfl⟩
  | _, _, _, .t h => by have := argV_len h; simp [tmps, this.1, this.2]
  | _, _, _, .v _ h => by have := argV_len h; simp [tmps, this.1, this.2]
  | _, _, _, .u h => by have := argV_len h; simp [tmps, this.1, this.2]
theorem argV_var {σ : L2.St} : ∀ {L : List Arg} {ts vs : List V} {j i : Nat}, ArgV σ L ts vs → L[j]? = some (.v i) → ∃ v, vs[j]? = some v ∧ σ[i]? = some (some v)
  | _, _, _, j, i, .nil, e => by simp at e
  | _, _, _, 0, i, .t h, e => by
    have e' := Option.some.inj e
    cases e'
  | _, _, _, j + 1, i, .t h, e => by
    obtain ⟨v, h1, h2⟩ := argV_var (j := j) h (by simpa using e)
    exact ⟨v, by simpa using h1, h2⟩
  | _, _, _, 0, i, .v ev h, e => by
    have e' := Option.some.inj e
    cases e'
    exact ⟨_, rfl, ev⟩
  | _, _, _, j + 1, i, .v _ h, e => by
    obtain ⟨v, h1, h2⟩ := argV_var (j := j) h (by simpa using e)
    exact ⟨v, by simpa using h1, h2⟩
  | _, _, _, 0, i, .u h, e => by
    have e' := Option.some.inj e
    cases e'
  | _, _, _, j + 1, i, .u h, e => by
    obtain ⟨v, h1, h2⟩ := argV_var (j := j) h (by simpa using e)
    exact ⟨v, by simpa using h1, h2⟩
theorem rev_get {T : Type _} {l : List T} {k : Nat} {x : T} (h : l[k]? = some x) (m : List T) : (l.reverse ++ m)[l.length - 1 - k]? = some x := by
  have hk := (List.getElem?_eq_some_iff.mp h).1
  rw [List.getElem?_append_left (by simp; omega), List.getElem?_reverse (by omega)]
  rw [show l.length - 1 - (l.length - 1 - k) = k by omega]
  exact h
/-- temps forgotten -/
theorem At.drop {T : List Slot} {t : List V} {Gs : List Slot} {σ : L2.St} {H : Hp} : ∀ {T1 : List Slot} {t1 : List V}, t1.length = T1.length → At F (T1 ++ T) (t1 ++ t) Gs σ H → At F T t Gs σ H
  | [], [], _, h => h
  | _ :: T1, _ :: t1, e, h => At.drop (T1 := T1) (t1 := t1) (by simpa using e) (At.pop h)
theorem At.drops {T : List Slot} {t ts vs : List V} {L : List Arg} {Gs : List Slot} {σ : L2.St} {H : Hp} (h : At F ((tmps L).reverse ++ T) (ts.reverse ++ t) Gs σ H) (av : ArgV σ L ts vs) : At F T t Gs σ H :=
  At.drop (by simp [(argV_len av).2]) h
end
end
end Td
set_option Elab.async false
set_option linter.all false
set_option maxRecDepth 100000
set_option maxHeartbeats 4000000
namespace Td
open PySem PySem.Spec PyProof.Rows L2
section
variable {K : PySem.W.Frag} {S : Type} {F : FC K S} {T : List Slot} {t : List V} {G : List Slot} {σ : L2.St} {H : Hp}
/-- a new tuple of two temps -/
theorem At.tup2 {U W : Type} {r : Rp U} {q : Rp W} {a : U} {b : W} {v w : V} (h : At F (.is q b :: .is r a :: T) (w :: v :: t) G σ H) {p : Addr} (hp : H p = none) : At F (.is (rPair r q) (a, b) :: T) (.ref p :: t) G σ (upd H p (.tup [v, w])) := by
  obtain ⟨A1, A2, h⟩ := h
  have k : ∀ x o, H x = some o → upd H p (.tup [v, w]) x = some o := fun x o e => by rw [upd_ne (ne_of_none e hp)]; exact e
  have nd := h.good.nd
  have hg := h.good
  obtain ⟨B2, A', eA, ⟨w', ew, h2⟩, ht⟩ := AtS.cons_inv h.tmp
  obtain ⟨B1, A'', eA', ⟨v', ev, h1⟩, ht⟩ := AtS.cons_inv ht
  cases ew; cases ev
  subst eA; subst eA'
  have hM : ∀ x, x ∈ (B1 ++ B2) ++ A'' ++ A2 ++ F.M0 → x ∈ B2 ++ (B1 ++ A'') ++ A2 ++ F.M0 ∨ H x = none := fun x hx => .inl (by simp only [List.mem_append] at *; grind)
  refine ⟨(B1 ++ B2) ++ A'', A2, .cons ⟨_, rfl, p, v, w, B1, B2, rfl, SqT.of upd_same, r.keep (r.grow h1 hM) (fun x o e _ => k x o e), q.keep (q.grow h2 hM) (fun x o e _ => k x o e), rfl⟩ ((ht.grow hM).keep fun x o e _ => k x o e), (h.loc.grow hM).keep fun x o e _ => k x o e, ?_⟩
  have hg' := hg.sub (A' := (B1 ++ B2) ++ A'' ++ A2) (by simp only [List.nodup_append, List.mem_append] at *; grind) (fun x hx => by simp only [List.mem_append] at *; grind)
  exact ⟨hg'.nd, hg'.out, hg'.new, fun x hx => let ⟨o, e, z⟩ := hg'.has x hx; ⟨o, k x o e, z⟩, fun x o e z ww => k x o (hg'.stay x o e z ww), hg'.m0, hg'.tm, hg'.tb.up k⟩
/-- temps of one kind: all pending items of a list -/
def pend {U : Type} (r : Rp U) (as : List U) : List Slot := (as.map (Slot.is r)).reverse
theorem pend_snoc {U : Type} (r : Rp U) (as : List U) (a : U) : pend r (as ++ [a]) = .is r a :: pend r as := by simp [pend]
theorem pend_len {U : Type} (r : Rp U) (as : List U) : (pend r as).length = as.length := by simp [pend]
theorem AtS.split {M : List Addr} : ∀ {G1 G2 : List Slot} {s1 s2 : List (Option V)} {A : List Addr}, s1.length = G1.length → AtS K M H (G1 ++ G2) (s1 ++ s2) A → ∃ A1 A2, A = A1 ++ A2 ∧ AtS K M H G1 s1 A1 ∧ AtS K M H G2 s2 A2
  | [], _, [], _, A, _, h => ⟨[], A, rfl, .nil, h⟩
  | _ :: G1, G2, _ :: s1, s2, _, e, h => by
    obtain ⟨B, A', eA, h1, h2⟩ := AtS.cons_inv h
    obtain ⟨A1, A2, e2, h3, h4⟩ := AtS.split (G1 := G1) (s1 := s1) (by simpa using e) h2
    exact ⟨B ++ A1, A2, by rw [eA, e2, List.append_assoc], .cons h1 h3, h4⟩
theorem AtS.all {U : Type} {r : Rp U} {M : List Addr} : ∀ {n : Nat} {as : List U} {vs : List V} {A : List Addr}, as.length = n → vs.length = n → AtS K M H (pend r as) (vs.reverse.map some) A → ∃ A', All3 (r.rel K M H) vs as A' ∧ A'.Perm A := by
  intro n
  induction n with
  | zero =>
    intro as vs A e1 e2 h
    obtain rfl : as = [] := List.eq_nil_of_length_eq_zero e1
    obtain rfl : vs = [] := List.eq_nil_of_length_eq_zero e2
    cases h
    exact ⟨[], .nil, .nil⟩
  | succ n ih =>
    intro as vs A e1 e2 h
    obtain ⟨as', a, rfl⟩ : ∃ as' a, as = as' ++ [a] := ⟨_, _, (List.dropLast_concat_getLast (l := as) (by intro z; simp [z] at e1)).symm⟩
    obtain ⟨vs', v, rfl⟩ : ∃ vs' v, vs = vs' ++ [v] := ⟨_, _, (List.dropLast_concat_getLast (l := vs) (by intro z; simp [z] at e2)).symm⟩
    rw [pend_snoc] at h
    simp only [List.reverse_append, List.reverse_cons, List.reverse_nil, List.nil_append, List.singleton_append, List.map_cons] at h
    obtain ⟨B, A', eA, ⟨v', ev, h1⟩, h2⟩ := AtS.cons_inv h
    cases ev
    obtain ⟨A2, h3, pm⟩ := ih (by simpa using e1) (by simpa using e2) h2
    refine ⟨A2 ++ (B ++ []), h3.append (.cons h1 .nil), ?_⟩
    rw [eA, List.append_nil]
    exact List.perm_append_comm.trans (pm.append_left B)
/-- a new list of pending items -/
theorem At.lst {U : Type} {r : Rp U} {as : List U} {vs : List V} (h : At F (pend r as ++ T) (vs.reverse ++ t) G σ H) (hl : vs.length = as.length) {p : Addr} (hp : H p = none) : At F (.is (rList r) as :: T) (.ref p :: t) G σ (upd H p (.lst vs)) := by
  obtain ⟨A1, A2, h⟩ := h
  have k : ∀ x o, H x = some o → upd H p (.lst vs) x = some o := fun x o e => by rw [upd_ne (ne_of_none e hp)]; exact e
  have nd := h.good.nd
  have hg := h.good
  have ht := h.tmp
  rw [List.map_append] at ht
  obtain ⟨B, A', eA, h1, ht⟩ := AtS.split (by rw [List.length_map, List.length_reverse, pend_len, hl]) ht
  obtain ⟨B', h2, pm⟩ := AtS.all (n := as.length) rfl hl h1
  subst eA
  obtain ⟨f0, f1, f2⟩ := hg.fresh hp
  have mB : ∀ x, x ∈ B' ↔ x ∈ B := fun x => pm.mem_iff
  have npA : p ∉ B ++ A' ++ A2 := fun z => by
    have tt : ∃ o, H p = some o := by
      rcases List.mem_append.mp z with z | z
      · obtain ⟨o, e, _⟩ := h.tmp.trk p z; exact ⟨o, e⟩
      · obtain ⟨o, e, _⟩ := h.loc.trk p z; exact ⟨o, e⟩
    obtain ⟨o, e⟩ := tt
    rw [hp] at e; cases e
  have hM : ∀ x, x ∈ (p :: B') ++ A' ++ A2 ++ F.M0 → x ∈ B ++ A' ++ A2 ++ F.M0 ∨ H x = none := fun x hx => by
    by_cases e : x = p
    · right; rw [e]; exact hp
    · left
      have := mB x
      simp only [List.cons_append, List.mem_cons, List.mem_append] at *
      grind
  refine ⟨(p :: B') ++ A', A2, .cons ⟨_, rfl, p, vs, B', rfl, upd_same, h2.imp fun v a B _ hr => r.keep (r.grow hr hM) (fun x o e _ => k x o e), rfl⟩ ((ht.grow hM).keep fun x o e _ => k x o e), (h.loc.grow hM).keep fun x o e _ => k x o e, ?_⟩
  have ndB : B'.Nodup := by
    rw [List.append_assoc] at nd
    exact (pm.nodup_iff).mpr (List.nodup_append.mp nd).1
  refine ⟨?_, fun x hx => ?_, fun x hx => ?_, fun x hx => let ⟨o, e, z⟩ := hg.has x hx; ⟨o, k x o e, z⟩, fun x o e z ww => k x o (hg.stay x o e z ww), hg.m0, hg.tm, hg.tb.up k⟩
  · have := fun x => mB x
    simp only [List.cons_append, List.nodup_append, List.nodup_cons, List.mem_append] at *
    grind
  · have := mB x
    have := hg.out x
    simp only [List.cons_append, List.mem_cons, List.mem_append] at *
    grind
  · have := mB x
    have := hg.new x
    simp only [List.cons_append, List.mem_cons, List.mem_append] at *
    grind
/-- parts of a pair -/
theorem At.unpair {U W : Type} {r : Rp U} {q : Rp W} {a : U × W} {v : V} (h : At F (.is (rPair r q) a :: T) (v :: t) G σ H) : ∃ p x y, v = .ref p ∧ SqT K H p [x, y] ∧ At F (.is r a.1 :: .is q a.2 :: T) (x :: y :: t) G σ H := by
  obtain ⟨A1, A2, h⟩ := h
  have nd := h.good.nd
  obtain ⟨B, A', eA, ⟨v', ev, p, x, y, B1, B2, e, hT, h1, h2, eB⟩, ht⟩ := AtS.cons_inv h.tmp
  cases ev
  subst eA eB
  refine ⟨p, x, y, e, hT, (B1 ++ (B2 ++ A')), A2, ?_, ?_, ?_⟩
  · rw [show B1 ++ (B2 ++ A') ++ A2 ++ F.M0 = B1 ++ B2 ++ A' ++ A2 ++ F.M0 by simp]
    exact .cons ⟨x, rfl, h1⟩ (.cons ⟨y, rfl, h2⟩ ht)
  · rw [show B1 ++ (B2 ++ A') ++ A2 ++ F.M0 = B1 ++ B2 ++ A' ++ A2 ++ F.M0 by simp]
    exact h.loc
  · rw [show B1 ++ (B2 ++ A') ++ A2 = B1 ++ B2 ++ A' ++ A2 by simp]
    exact h.good
/-- what is owned is let go -/
theorem At.freeze {U : Type} {r : Rp U} {a : U} {v : V} (h : At F (.is r a :: T) (v :: t) G σ H) : At F (.is (sh r) a :: T) (v :: t) G σ H := by
  obtain ⟨A1, A2, h⟩ := h
  have nd := h.good.nd
  obtain ⟨B, A', eA, ⟨v', ev, hr⟩, ht⟩ := AtS.cons_inv h.tmp
  cases ev
  subst eA
  have hM : ∀ x, x ∈ [] ++ A' ++ A2 ++ F.M0 → x ∈ B ++ A' ++ A2 ++ F.M0 ∨ H x = none := fun x hx => .inl (by simp only [List.mem_append] at *; grind)
  refine ⟨[] ++ A', A2, .cons ⟨v, rfl, Rp.to_sh hr fun x hx => ?_⟩ (ht.grow hM), h.loc.grow hM, h.good.sub (by simp only [List.nodup_append, List.nil_append, List.mem_append] at *; grind) fun x hx => by simp only [List.mem_append] at *; grind⟩
  have := h.good.out x
  simp only [List.nodup_append, List.nil_append, List.mem_append] at *
  grind
end
theorem star1 {e : Expr} {es : List Expr} {env : Env} (h : PySem.W.isStarred e = false) : starEach (e :: es) env = (false, eval e env) :: starEach es env := by
  cases e <;> first | rfl | cases h
end Td
set_option Elab.async false
set_option linter.all false
set_option maxRecDepth 100000
set_option maxHeartbeats 4000000
namespace Td
open PySem PySem.Spec PyProof.Rows L2
structure EX (X : Cx) {S : Type} (F : FC X.K S) {U : Type} (e : Expr) (te : TE) (G G' : S → List Slot) (r : Rp U) (m : SM S U) : Prop where
  pe : PE X e te
  go : GE F te G G' r m
structure ET (X : Cx) {S : Type} (F : FC X.K S) (e : Expr) (te : TT) (G G' : S → List Slot) (m : SM S Bool) : Prop where
  pt : PT X e te
  go : GT F te G G' m
structure EW (X : Cx) {S : Type} (F : FC X.K S) (e : Expr) (te : TT) (G G' : S → List Slot) (m : SM S Bool) : Prop where
  pw : PW X e te
  go : GT F te G G' m
structure EA (X : Cx) {S : Type} (F : FC X.K S) {U : Type} (es : List Expr) (ta : TA) (G G' : S → List Slot) (L : U → List Arg) (m : SM S U) : Prop where
  pa : PA X es ta
  go : GA F ta G G' L m

def VO1 (K : PySem.W.Frag) (S : Type) {U W : Type} (r1 : Rp U) (r3 : Rp W) (rr : V → Hp → VK → Prop) (f : U → SM S W) : Prop :=
  ∀ (a : U) (v : V) (M B : List Addr) (H : Hp) (Q : VK) (s : S), r1.rel K M H v a B → (f a s).wp (fun c s' => s' = s → ∀ u, (∀ M, r3.rel K M H u c []) → Q u H) (fun _ _ => False) → rr v H Q
def VO2 (K : PySem.W.Frag) (S : Type) {U W Z : Type} (r1 : Rp U) (r2 : Rp W) (r3 : Rp Z) (rr : R2) (f : U → W → SM S Z) : Prop :=
  ∀ (a : U) (b : W) (v w : V) (M B M' B' : List Addr) (H : Hp) (Q : VK) (s : S), r1.rel K M H v a B → r2.rel K M' H w b B' →
    (f a b s).wp (fun c s' => s' = s → ∀ u, (∀ M, r3.rel K M H u c []) → Q u H) (fun _ _ => False) → rr v w H Q
/-- a computation that leaves the state and raises nothing -/
def Stl {S T : Type} (m : SM S T) : Prop := ∀ s, match m s with
  | .ok _ s' => s' = s
  | .exc _ _ => False
  | .stuck => True
theorem stl_ret {S T : Type} (a : T) : Stl (ret a : SM S T) := fun _ => rfl
theorem stl_stk {S T : Type} : Stl (stk : SM S T) := fun _ => trivial
theorem stl_grd {S : Type} {c : Prop} [Decidable c] : Stl (grd c : SM S Unit) := fun s => by
  unfold grd
  by_cases h : c
  · rw [if_pos h]
  · rw [if_neg h]; trivial
theorem stl_bnd {S T U : Type} {m : SM S T} {k : T → SM S U} (h : Stl m) (h' : ∀ a, Stl (k a)) : Stl (bnd m k) := fun s => by
  unfold bnd
  have z := h s
  cases hm : m s with
  | ok a s' =>
    rw [hm] at z
    cases z
    exact h' a s
  | exc e s' => rw [hm] at z; exact z.elim
  | stuck => trivial
theorem Stl.wp {S T : Type} {m : SM S T} (h : Stl m) {s : S} {P : T → S → Prop} {E : Exn → S → Prop} {E' : Exn → S → Prop} (q : (m s).wp P E) : (m s).wp (fun a s' => s' = s ∧ P a s) E' := by
  have z := h s
  cases hm : m s with
  | ok a s' =>
    rw [hm] at z q
    cases z
    exact ⟨rfl, q⟩
  | exc e s' => rw [hm] at z; exact z.elim
  | stuck => rw [hm] at q; exact q
theorem vo_I0 {K : PySem.W.Frag} {S : Type} (g : Int → Int → Int) : VO2 K S rInt rInt rInt (rI0 fun i j => .int (g i j)) (fun i j => ret (g i j)) :=
  fun a b v w _ _ _ _ H Q s h1 h2 q => ⟨a, b, h1.1, h2.1, q rfl _ fun _ => ⟨rfl, rfl⟩⟩
theorem vo_B0 {K : PySem.W.Frag} {S : Type} (g : Int → Int → Bool) : VO2 K S rInt rInt rBool (rI0 fun i j => .bl (g i j)) (fun i j => ret (g i j)) :=
  fun a b v w _ _ _ _ H Q s h1 h2 q => ⟨a, b, h1.1, h2.1, q rfl _ fun _ => ⟨rfl, rfl⟩⟩
def grdI {S : Type} (C : Int → Int → Prop) [∀ i j, Decidable (C i j)] (g : Int → Int → Int) (i j : Int) : SM S Int := bnd (grd (C i j)) fun _ => ret (g i j)
theorem vo_I {K : PySem.W.Frag} {S : Type} (C : Int → Int → Prop) [∀ i j, Decidable (C i j)] (g : Int → Int → Int) : VO2 K S rInt rInt rInt (rI C fun i j => .int (g i j)) (grdI C g) :=
  fun a b v w _ _ _ _ H Q s h1 h2 q => by
    obtain ⟨hc, q⟩ := wp_grd (wp_bnd q)
    exact ⟨a, b, h1.1, h2.1, hc, q rfl _ fun _ => ⟨rfl, rfl⟩⟩
/-- == of plain values -/
theorem vo_eq {K : PySem.W.Frag} {S T : Type} [DecidableEq T] {f : T → V} (hf : ∀ a b, f a = f b → a = b) (hs : ∀ a b, scal (f a) (f b) = true) : VO2 K S (rPl f) (rPl f) rBool rEq (fun a b => ret (decide (a = b))) :=
  fun a b v w _ _ _ _ H Q s h1 h2 q => by
    obtain ⟨e1, _⟩ := h1
    obtain ⟨e2, _⟩ := h2
    rw [e1, e2]
    refine ⟨hs a b, q rfl _ fun _ => ⟨?_, rfl⟩⟩
    by_cases e : a = b
    · rw [decide_eq_true e, decide_eq_true (congrArg f e)]
    · rw [decide_eq_false e, decide_eq_false (fun z => e (hf _ _ z))]
theorem vo_ne {K : PySem.W.Frag} {S T : Type} [DecidableEq T] {f : T → V} (hf : ∀ a b, f a = f b → a = b) (hs : ∀ a b, scal (f a) (f b) = true) : VO2 K S (rPl f) (rPl f) rBool rNe (fun a b => ret (!decide (a = b))) :=
  fun a b v w _ _ _ _ H Q s h1 h2 q => by
    obtain ⟨e1, _⟩ := h1
    obtain ⟨e2, _⟩ := h2
    rw [e1, e2]
    refine ⟨hs a b, q rfl _ fun _ => ⟨?_, rfl⟩⟩
    by_cases e : a = b
    · rw [decide_eq_true e, decide_eq_true (congrArg f e)]
    · rw [decide_eq_false e, decide_eq_false (fun z => e (hf _ _ z))]
theorem vo_eqI {K : PySem.W.Frag} {S : Type} : VO2 K S rInt rInt rBool rEq (fun a b => ret (decide (a = b))) := vo_eq (fun _ _ e => by injection e) fun _ _ => rfl
theorem vo_neI {K : PySem.W.Frag} {S : Type} : VO2 K S rInt rInt rBool rNe (fun a b => ret (!decide (a = b))) := vo_ne (fun _ _ e => by injection e) fun _ _ => rfl
theorem vo_eqS {K : PySem.W.Frag} {S : Type} : VO2 K S rStr rStr rBool rEq (fun a b => ret (decide (a = b))) := vo_eq (fun _ _ e => by injection e) fun _ _ => rfl
theorem vo_neS {K : PySem.W.Frag} {S : Type} : VO2 K S rStr rStr rBool rNe (fun a b => ret (!decide (a = b))) := vo_ne (fun _ _ e => by injection e) fun _ _ => rfl
theorem vo_neB {K : PySem.W.Frag} {S : Type} : VO2 K S rBool rBool rBool rNe (fun a b => ret (!decide (a = b))) := vo_ne (fun _ _ e => by injection e) fun _ _ => rfl

section
variable {X : Cx} {S : Type} {F : FC X.K S} {U W Z : Type} {r r1 : Rp U} {r2 : Rp W} {r3 : Rp Z} {e a b : Expr} {te ta tb : TE} {G G1 G2 G' : S → List Slot} {m m1 : SM S U} {m2 : SM S W} {pos : Pos}
/-- the two temps used up, the answer a temp -/
theorem fin2 {T : List Slot} {t : List V} {Gs : List Slot} {σ : L2.St} {H : Hp} {g1 g2 : Slot} {v w : V} {c : Z} {u : V} (h : At F (g2 :: g1 :: T) (w :: v :: t) Gs σ H) (hr : ∀ M, r3.rel X.K M H u c []) : At F (.is r3 c :: T) (u :: t) Gs σ H := (h.pop.pop).push hr
theorem top_rel {T : List Slot} {t : List V} {Gs : List Slot} {σ : L2.St} {H : Hp} {x : U} {v : V} (h : At F (.is r x :: T) (v :: t) Gs σ H) : ∃ M B, r.rel X.K M H v x B := by
  obtain ⟨A1, A2, h⟩ := h
  obtain ⟨B, A', eA, ⟨v', ev, hr⟩, ht⟩ := AtS.cons_inv h.tmp
  cases ev
  exact ⟨_, B, hr⟩
theorem snd_rel {T : List Slot} {t : List V} {Gs : List Slot} {σ : L2.St} {H : Hp} {g : Slot} {x : U} {v w : V} (h : At F (g :: .is r x :: T) (w :: v :: t) Gs σ H) : ∃ M B, r.rel X.K M H v x B := top_rel h.pop
theorem go_op {rr : R2} {f : U → W → SM S Z} (hf : ∀ a b, Stl (f a b)) (hv : VO2 X.K S r1 r2 r3 rr f) (h1 : GE F ta G G1 r1 m1) (h2 : GE F tb G1 G2 r2 m2) : GE F (tOp rr ta tb) G G2 r3 (bnd m1 fun a => bnd m2 fun b => f a b) := by
  intro T t σ s H Q h q
  refine h1 T t σ s H _ h (wp_mono (wp_bnd q) (fun a s1 q1 v H1 at1 => ?_) fun _ _ z => z)
  refine h2 _ _ σ s1 H1 _ at1 (wp_mono (wp_bnd q1) (fun b s2 q2 w H2 at2 => ?_) fun _ _ z => z)
  obtain ⟨M1, B1, k1⟩ := snd_rel at2
  obtain ⟨M2, B2, k2⟩ := top_rel at2
  refine hv a b v w M1 B1 M2 B2 H2 Q s2 k1 k2 (wp_mono ((hf a b).wp q2) (fun c s3 q3 e u hu => ?_) fun _ _ z => z)
  exact q3.2 u H2 (fin2 at2 hu)
theorem ex_bin {op : Operator} {rr : R2} {f : U → W → SM S Z} (ho : OpR X (binaryOp op) rr) (hv : VO2 X.K S r1 r2 r3 rr f) (hf : ∀ a b, Stl (f a b)) (h1 : EX X F a ta G G1 r1 m1) (h2 : EX X F b tb G1 G2 r2 m2) :
    EX X F (.BinOp a op b pos) (tOp rr ta tb) G G2 r3 (bnd m1 fun a => bnd m2 fun b => f a b) := ⟨pe_op ho h1.pe h2.pe, go_op hf hv h1.go h2.go⟩
theorem ex_cmp {op : CmpOp} {rr : R2} {f : U → W → SM S Bool} (ho : OpR X (compareOp op) rr) (hv : VO2 X.K S r1 r2 rBool rr f) (hf : ∀ a b, Stl (f a b)) (h1 : EX X F a ta G G1 r1 m1) (h2 : EX X F b tb G1 G2 r2 m2) (hm : behindInMarks op b = false) :
    EX X F (.Compare a [op] [b] pos) (tOp rr ta tb) G G2 rBool (bnd m1 fun a => bnd m2 fun b => f a b) := ⟨pe_cmpR ho h1.pe h2.pe hm, go_op hf hv h1.go h2.go⟩
theorem go_test {te : TE} {m : SM S Bool} (h : GE F te G G' rBool m) : GT F (tTest te) G G' m := by
  intro T t σ s H Q h0 q
  refine h T t σ s H _ h0 (wp_mono q (fun c s1 q1 v H1 at1 => ?_) fun _ _ z => z)
  obtain ⟨M, B, k, _⟩ := top_rel at1
  exact ⟨c, k, q1 H1 at1.pop⟩
theorem go_B {te : TE} {m : SM S Bool} (h : GE F te G G' rBool m) : GT F (tB te) G G' m := go_test h
theorem et_cmp {op : CmpOp} {rr : R2} {f : U → W → SM S Bool} (ho : OpR X (compareOp op) rr) (hv : VO2 X.K S r1 r2 rBool rr f) (hf : ∀ a b, Stl (f a b)) (h1 : EX X F a ta G G1 r1 m1) (h2 : EX X F b tb G1 G2 r2 m2) (hm : behindInMarks op b = false) :
    ET X F (.Compare a [op] [b] pos) (tTest (tOp rr ta tb)) G G2 (bnd m1 fun a => bnd m2 fun b => f a b) := ⟨pt_cmpR ho h1.pe h2.pe hm, go_test (go_op hf hv h1.go h2.go)⟩
theorem et_val {m : SM S Bool} (h : EX X F e te G G' rBool m) (he : ∀ whole, isTrue e X.env whole = (do let v ← whole; standAt e.pos; holding [v] (truthy v)) := by intro _; rfl) : ET X F e (tB te) G G' m := ⟨pt_val h.pe he, go_B h.go⟩
/-- names, constants -/
theorem ex_var (i : Nat) {a : U} {x : Str} (c : r.Cp) (hG : ∀ s, (G s)[i]? = some (.is r a)) (hN : X.N[i]? = some x := by rfl) (hv : Vis X.env.scope x := by first | exact Or.inl rfl | exact Or.inr (Or.inl rfl) | exact Or.inr (Or.inr rfl))
    (hd : (x == ("__debug__" : Str)) = false := by decide) (hcd : (x == ("__classdict__" : Str)) = false := by decide) : EX X F (.Name x pos) (tVar i) G G r (ret a) :=
  ⟨pe_var hN hv hd hcd, fun T t σ s H Q h q => by
    obtain ⟨v, e, at1⟩ := h.copy c (hG s)
    exact ⟨v, e, q v H at1⟩⟩
/-- a name whose thing is taken out of it -/
theorem ex_mv (i : Nat) {a : U} {x : Str} (hG : ∀ s, (G s)[i]? = some (.is r a)) (hN : X.N[i]? = some x := by rfl) (hv : Vis X.env.scope x := by first | exact Or.inl rfl | exact Or.inr (Or.inl rfl) | exact Or.inr (Or.inr rfl))
    (hd : (x == ("__debug__" : Str)) = false := by decide) (hcd : (x == ("__classdict__" : Str)) = false := by decide) : EX X F (.Name x pos) (tVar i) G (fun s => (G s).set i .un) r (ret a) :=
  ⟨pe_var hN hv hd hcd, fun T t σ s H Q h q => by
    obtain ⟨v, e, at1⟩ := h.move (hG s)
    exact ⟨v, e, q v H at1⟩⟩
theorem go_c {f : U → V} {a : U} : GE F (tC (f a)) G G (rPl f) (ret a) := fun T t σ s H Q h q => q _ H (h.push fun _ => ⟨rfl, rfl⟩)
theorem ex_int {i : Int} {j : Nat} : EX X F (.Constant (.int i) j pos) (tC (.int i)) G G rInt (ret i) := ⟨pe_int, go_c⟩
theorem ex_bool {i : Bool} {j : Nat} : EX X F (.Constant (.bool i) j pos) (tC (.bl i)) G G rBool (ret i) := ⟨pe_bl, go_c⟩
theorem ex_str {i : Str} {j : Nat} : EX X F (.Constant (.str i) j pos) (tC (.str i)) G G rStr (ret i) := ⟨pe_str, go_c⟩
theorem ex_noneO {j : Nat} : EX X F (.Constant .none j pos) (tC .non) G G (rOpt r) (ret none) := ⟨pe_non, fun T t σ s H Q h q => q _ H (h.push fun _ => ⟨rfl, rfl⟩)⟩
/-- the answer read another way -/
theorem go_map {f : U → W} (h : GE F te G G' r1 m1) (k : ∀ a v M H B, r1.rel X.K M H v a B → r2.rel X.K M H v (f a) B) : GE F te G G' r2 (bnd m1 fun a => ret (f a)) := by
  intro T t σ s H Q h0 q
  refine h T t σ s H Q h0 (wp_mono (wp_bnd q) (fun a s1 q1 v H1 at1 => q1 v H1 ?_) fun _ _ z => z)
  obtain ⟨A1, A2, at1⟩ := at1
  refine ⟨A1, A2, ?_, at1.loc, at1.good⟩
  obtain ⟨B, A', eA, ⟨v', ev, hr⟩, ht⟩ := AtS.cons_inv at1.tmp
  subst eA
  exact .cons ⟨v', ev, k _ _ _ _ _ hr⟩ ht
theorem ex_some (h : EX X F e te G G' r m) : EX X F e te G G' (rOpt r) (bnd m fun a => ret (some a)) := ⟨h.pe, go_map h.go fun _ _ _ _ _ h => h⟩
theorem ex_freeze (h : EX X F e te G G' r m) : EX X F e te G G' (sh r) m := ⟨h.pe, fun T t σ s H Q h0 q => h.go T t σ s H Q h0 (wp_mono q (fun a s1 q1 v H1 at1 => q1 v H1 at1.freeze) fun _ _ z => z)⟩
/-- tuples -/
theorem ex_tup2 {x1 : Nat} (h1 : EX X F a ta G G1 r1 m1) (h2 : EX X F b tb G1 G2 r2 m2) (hs2 : PySem.W.isStarred a = false := by rfl) (hs1 : PySem.W.isStarred b = false := by rfl) : EX X F (.Tuple [a, b] x1 pos) (tTup (tCons ta (tCons tb tNil))) G G2 (rPair r1 r2) (bnd m1 fun a => bnd m2 fun b => ret (a, b)) :=
  ⟨pe_tup (pa_cons h1.pe (pa_cons h2.pe pa_nil (star1 hs1)) (star1 hs2)), fun T t σ s H Q h q => by
    refine h1.go T t σ s H _ h (wp_mono (wp_bnd q) (fun a s1 q1 v H1 at1 => ?_) fun _ _ z => z)
    refine h2.go _ _ σ s1 H1 _ at1 (wp_mono (wp_bnd q1) (fun b s2 q2 w H2 at2 => ?_) fun _ _ z => z)
    refine ⟨by show 2 ≤ sizeLine; decide, fun p hp => ?_⟩
    exact q2 _ _ (at2.tup2 hp)⟩
/-- a if t else b -/
theorem ex_if {c : Expr} {tc : TT} {mc : SM S Bool} {mb : SM S U} (hc : ET X F c tc G G1 mc) (h1 : EX X F a ta G1 G2 r m) (h2 : EX X F b tb G1 G2 r mb) : EX X F (.IfExp c a b pos) (tIf tc ta tb) G G2 r (bnd mc fun k => if k then m else mb) :=
  ⟨pe_ifExp hc.pt h1.pe h2.pe, fun T t σ s H Q h q => by
    refine hc.go T t σ s H _ h (wp_mono (wp_bnd q) (fun k s1 q1 H1 at1 => ?_) fun _ _ z => z)
    cases k with
    | true => exact h1.go T t σ s1 H1 Q at1 q1
    | false => exact h2.go T t σ s1 H1 Q at1 q1⟩
/-- and, or, not -/
theorem ew_and1 {mc : SM S Bool} {tc : TT} (h : ET X F a tc G G1 mc) : EW X F (.BoolOp .And [a] pos) tc G G1 mc := ⟨pw_and1 h.pt, h.go⟩
theorem ew_or1 {mc : SM S Bool} {tc : TT} (h : ET X F a tc G G1 mc) : EW X F (.BoolOp .Or [a] pos) tc G G1 mc := ⟨pw_or1 h.pt, h.go⟩
theorem ew_and {rest : List Expr} {mc md : SM S Bool} {tc td : TT} (h : ET X F a tc G G1 mc) (h2 : EW X F (.BoolOp .And (b :: rest) pos) td G1 G1 md) : EW X F (.BoolOp .And (a :: b :: rest) pos) (tAnd tc td) G G1 (bnd mc fun k => if k then md else ret false) :=
  ⟨pw_and h.pt h2.pw, fun T t σ s H Q h0 q => by
    refine h.go T t σ s H _ h0 (wp_mono (wp_bnd q) (fun k s1 q1 H1 at1 => ?_) fun _ _ z => z)
    cases k with
    | true => exact h2.go T t σ s1 H1 Q at1 q1
    | false => exact q1 H1 at1⟩
theorem ew_or {rest : List Expr} {mc md : SM S Bool} {tc td : TT} (h : ET X F a tc G G1 mc) (h2 : EW X F (.BoolOp .Or (b :: rest) pos) td G1 G1 md) : EW X F (.BoolOp .Or (a :: b :: rest) pos) (tOr tc td) G G1 (bnd mc fun k => if k then ret true else md) :=
  ⟨pw_or h.pt h2.pw, fun T t σ s H Q h0 q => by
    refine h.go T t σ s H _ h0 (wp_mono (wp_bnd q) (fun k s1 q1 H1 at1 => ?_) fun _ _ z => z)
    cases k with
    | true => exact q1 H1 at1
    | false => exact h2.go T t σ s1 H1 Q at1 q1⟩
theorem et_w {tc : TT} {mc : SM S Bool} (h : EW X F e tc G G1 mc) : ET X F e tc G G1 mc := ⟨h.pw.pt, h.go⟩
theorem et_not {tc : TT} {mc : SM S Bool} (h : ET X F a tc G G1 mc) : ET X F (.UnaryOp .Not a pos) (tNot tc) G G1 (bnd mc fun k => ret (!k)) :=
  ⟨pt_not h.pt, fun T t σ s H Q h0 q => h.go T t σ s H _ h0 (wp_mono (wp_bnd q) (fun k s1 q1 H1 at1 => q1 H1 at1) fun _ _ z => z)⟩
theorem ex_not {mc : SM S Bool} (h : EX X F a ta G G1 rBool mc) : EX X F (.UnaryOp .Not a pos) (tNotV ta) G G1 rBool (bnd mc fun k => ret (!k)) :=
  ⟨pe_not h.pe, fun T t σ s H Q h0 q => h.go T t σ s H _ h0 (wp_mono (wp_bnd q) (fun k s1 q1 v H1 at1 => by
    obtain ⟨M, B, e, _⟩ := top_rel at1
    exact ⟨k, e, q1 _ H1 (at1.pop.push fun _ => ⟨rfl, rfl⟩)⟩) fun _ _ z => z)⟩
theorem ex_one {op : BoolOp} {mc : SM S Bool} (h : EX X F a ta G G1 rBool mc) : EX X F (.BoolOp op [a] pos) ta G G1 rBool mc := ⟨pe_one h.pe, h.go⟩
theorem ex_and {rest : List Expr} {mc md : SM S Bool} (h : EX X F a ta G G1 rBool mc) (h2 : EX X F (.BoolOp .And (b :: rest) pos) tb G1 G1 rBool md) : EX X F (.BoolOp .And (a :: b :: rest) pos) (tAndV ta tb) G G1 rBool (bnd mc fun k => if k then md else ret false) :=
  ⟨pe_and h.pe h2.pe, fun T t σ s H Q h0 q => h.go T t σ s H _ h0 (wp_mono (wp_bnd q) (fun k s1 q1 v H1 at1 => by
    obtain ⟨M, B, e, _⟩ := top_rel at1
    refine ⟨k, e, ?_⟩
    cases k with
    | true => exact h2.go T t σ s1 H1 Q at1.pop q1
    | false => exact q1 _ H1 (at1.pop.push fun _ => ⟨rfl, rfl⟩)) fun _ _ z => z)⟩
end
end Td
set_option Elab.async false
set_option linter.all false
set_option maxRecDepth 100000
set_option maxHeartbeats 4000000
namespace Td
open PySem PySem.Spec PyProof.Rows L2
section
variable {K : PySem.W.Frag} {S : Type} {F : FC K S} {T : List Slot} {t : List V} {G : List Slot} {σ : L2.St} {H : Hp}
/-- what lies under the top temp goes -/
theorem At.dropU {g : Slot} {v : V} : ∀ {T1 : List Slot} {t1 : List V}, t1.length = T1.length → At F (g :: (T1 ++ T)) (v :: (t1 ++ t)) G σ H → At F (g :: T) (v :: t) G σ H := by
  intro T1 t1 e h
  obtain ⟨A1, A2, h⟩ := h
  have nd := h.good.nd
  obtain ⟨B, A', eA, h1, ht⟩ := AtS.cons_inv h.tmp
  rw [List.map_append] at ht
  obtain ⟨C, D, eC, h2, h3⟩ := AtS.split (by rw [List.length_map, e]) ht
  subst eA eC
  have hM : ∀ x, x ∈ B ++ D ++ A2 ++ F.M0 → x ∈ B ++ (C ++ D) ++ A2 ++ F.M0 ∨ H x = none := fun x hx => .inl (by simp only [List.mem_append] at *; grind)
  exact ⟨B ++ D, A2, .cons (Slot.ok_grow h1 hM) (h3.grow hM), h.loc.grow hM, h.good.sub (by simp only [List.nodup_append, List.mem_append] at *; grind) fun x hx => by simp only [List.mem_append] at *; grind⟩
theorem At.dropM {T0 T1 : List Slot} {t0 t1 : List V} (e0 : t0.length = T0.length) (e : t1.length = T1.length) (h : At F (T0 ++ (T1 ++ T)) (t0 ++ (t1 ++ t)) G σ H) : At F (T0 ++ T) (t0 ++ t) G σ H := by
  obtain ⟨A1, A2, h⟩ := h
  have nd := h.good.nd
  have ht := h.tmp
  rw [List.map_append, List.map_append] at ht
  obtain ⟨B, A', eA, h1, ht⟩ := AtS.split (by rw [List.length_map, e0]) ht
  obtain ⟨C, D, eC, h2, h3⟩ := AtS.split (by rw [List.length_map, e]) ht
  subst eA eC
  have hM : ∀ x, x ∈ B ++ D ++ A2 ++ F.M0 → x ∈ B ++ (C ++ D) ++ A2 ++ F.M0 ∨ H x = none := fun x hx => .inl (by simp only [List.mem_append] at *; grind)
  refine ⟨B ++ D, A2, ?_, h.loc.grow hM, h.good.sub (by simp only [List.nodup_append, List.mem_append] at *; grind) fun x hx => by simp only [List.mem_append] at *; grind⟩
  rw [List.map_append]
  exact (h1.grow hM).append (h3.grow hM)
/-- the arguments used up, a thing that owns nothing comes -/
theorem AtP.fin {L : List Arg} {ts vs : List V} {A1 A2 : List Addr} (h : AtP F ((tmps L).reverse ++ T) (ts.reverse ++ t) G σ H A1 A2) (av : ArgV σ L ts vs) {U : Type} {r : Rp U} {u : V} {a : U} (hr : r.rel K (A1 ++ A2 ++ F.M0) H u a []) : At F (.is r a :: T) (u :: t) G σ H :=
  At.dropU (by simp [(argV_len av).2]) (⟨A1, A2, .cons (B := []) ⟨u, rfl, hr⟩ h.tmp, h.loc, h.good⟩ : At F (.is r a :: ((tmps L).reverse ++ T)) (u :: (ts.reverse ++ t)) G σ H)
/-- .. and stay -/
theorem AtP.pushM {A1 A2 : List Addr} (h : AtP F T t G σ H A1 A2) {U : Type} {r : Rp U} {u : V} {a : U} (hr : r.rel K (A1 ++ A2 ++ F.M0) H u a []) : AtP F (.is r a :: T) (u :: t) G σ H A1 A2 :=
  ⟨.cons (B := []) ⟨u, rfl, hr⟩ h.tmp, h.loc, h.good⟩
theorem rddM {ts vs : List V} {L : List Arg} {j : Nat} {arg : Arg} {U : Type} {r : Rp U} {a : U} {A1 A2 : List Addr} (h : AtP F ((tmps L).reverse ++ T) (ts.reverse ++ t) G σ H A1 A2) (av : ArgV σ L ts vs) (e : L[j]? = some arg) (rd : Rdd G arg r a) :
    ∃ v B, vs[j]? = some v ∧ r.rel K (A1 ++ A2 ++ F.M0) H v a B := by
  have tmp : ∀ {g : Slot}, L[j]? = some (.t g) → ∃ v B, vs[j]? = some v ∧ g.ok K (A1 ++ A2 ++ F.M0) H (some v) B := by
    intro g e
    obtain ⟨k, v, h1, h2, h3⟩ := argV_tmp av e
    obtain ⟨x, B, e1, h4, _⟩ := h.tmp.mem (rev_get h1 T)
    rw [← (argV_len av).2, List.map_append, List.map_reverse] at e1
    have h2' : (ts.map some)[k]? = some (some v) := by rw [List.getElem?_map, h2]; rfl
    have z := rev_get h2' (t.map some)
    rw [List.length_map, e1] at z
    cases z
    exact ⟨v, B, h3, h4⟩
  have loc : ∀ {i : Nat} {g : Slot}, L[j]? = some (.v i) → G[i]? = some g → ∃ v B, vs[j]? = some v ∧ g.ok K (A1 ++ A2 ++ F.M0) H (some v) B := by
    intro i g e eg
    obtain ⟨v, h1, h2⟩ := argV_var av e
    obtain ⟨x, B, e1, h4, _⟩ := h.loc.mem eg
    rw [h2] at e1
    cases e1
    exact ⟨v, B, h1, h4⟩
  cases rd with
  | t =>
    obtain ⟨v, B, h1, v', e', h2⟩ := tmp e
    cases e'
    exact ⟨v, B, h1, h2⟩
  | ts =>
    obtain ⟨v, B, h1, v', e', h2⟩ := tmp e
    cases e'
    obtain ⟨_, A, h3, _⟩ := h2
    exact ⟨v, A, h1, h3⟩
  | v eg =>
    obtain ⟨v, B, h1, v', e', h2⟩ := loc e eg
    cases e'
    exact ⟨v, B, h1, h2⟩
  | vs eg =>
    obtain ⟨v, B, h1, v', e', h2⟩ := loc e eg
    cases e'
    obtain ⟨_, A, h3, _⟩ := h2
    exact ⟨v, A, h1, h3⟩
  | pn eg =>
    obtain ⟨v, B, h1, e', h2⟩ := loc e eg
    cases e'
    exact ⟨_, B, h1, h2⟩
  | b1 eg =>
    obtain ⟨x, B, e1, h4, _⟩ := h.loc.mem eg
    obtain ⟨v, _, p, B1, B2, _, _, h5, _⟩ := h4
    exact ⟨_, B1, argV_u av e, h5⟩
  | b2 eg =>
    obtain ⟨x, B, e1, h4, _⟩ := h.loc.mem eg
    obtain ⟨v, _, p, B1, B2, _, _, _, h5, _⟩ := h4
    exact ⟨_, B2, argV_u av e, h5⟩
  | ov eg k =>
    obtain ⟨v, B, h1, h2⟩ := loc e eg
    obtain ⟨B', h3⟩ := k h2
    exact ⟨v, B', h1, h3⟩
  | ou eg k =>
    obtain ⟨x, B, e1, h4, _⟩ := h.loc.mem eg
    obtain ⟨B', h3⟩ := k h4
    exact ⟨_, B', argV_u av e, h3⟩
/-- shared arguments -/
inductive RdS {U : Type} (G : List Slot) : Arg → Rp U → U → Prop
  | t {r a} : RdS G (.t (.is (sh r) a)) r a
  | v {i r a} (e : G[i]? = some (.is (sh r) a)) : RdS G (.v i) r a
  | tc {r a} (c : r.Cp) : RdS G (.t (.is r a)) r a
  | vc {i r a} (c : r.Cp) (e : G[i]? = some (.is r a)) : RdS G (.v i) r a
theorem rdS {ts vs : List V} {L : List Arg} {j : Nat} {arg : Arg} {U : Type} {r : Rp U} {a : U} {A1 A2 : List Addr} (h : AtP F ((tmps L).reverse ++ T) (ts.reverse ++ t) G σ H A1 A2) (av : ArgV σ L ts vs) (e : L[j]? = some arg) (rd : RdS G arg r a) :
    ∃ v, vs[j]? = some v ∧ (sh r).rel K (A1 ++ A2 ++ F.M0) H v a [] := by
  cases rd with
  | t =>
    obtain ⟨v, B, h1, eB, A, h3⟩ := rddM (r := sh r) h av e .t
    exact ⟨v, h1, rfl, A, h3⟩
  | v eg =>
    obtain ⟨v, B, h1, eB, A, h3⟩ := rddM (r := sh r) h av e (.v eg)
    exact ⟨v, h1, rfl, A, h3⟩
  | tc c =>
    obtain ⟨v, B, h1, h3⟩ := rddM h av e .t
    have eB := c h3
    subst eB
    exact ⟨v, h1, rfl, [], h3, fun _ z => by cases z⟩
  | vc c eg =>
    obtain ⟨v, B, h1, h3⟩ := rddM h av e (.v eg)
    have eB := c h3
    subst eB
    exact ⟨v, h1, rfl, [], h3, fun _ z => by cases z⟩
/-- an operand -/
def GO (F : FC K S) {U : Type} (te : TE) (G G' : S → List Slot) (arg : U → Arg) (m : SM S U) : Prop :=
  ∀ (T : List Slot) (t : List V) (σ : L2.St) (s : S) (H : Hp) (Q : VK), At F T t (G s) σ H →
    (m s).wp (fun a s' => ∀ ts v H', At F ((tmps [arg a]).reverse ++ T) (ts.reverse ++ t) (G' s') σ H' → ArgV σ [arg a] ts [v] → Q v H') (XP F σ) → te σ H Q
end
structure EO (X : Cx) {S : Type} (F : FC X.K S) {U : Type} (e : Expr) (te : TE) (G G' : S → List Slot) (arg : U → Arg) (m : SM S U) : Prop where
  pe : PE X e te
  go : GO F te G G' arg m
section
variable {X : Cx} {S : Type} {F : FC X.K S} {U W Z : Type} {r r1 : Rp U} {r2 : Rp W} {r3 : Rp Z} {e a b : Expr} {es : List Expr} {te ta tb : TE} {tr : TA} {G G1 G2 G' : S → List Slot} {m m1 : SM S U} {m2 : SM S W} {pos : Pos} {arg : U → Arg} {L : W → List Arg}
theorem eo_t (h : EX X F e te G G' r m) : EO X F e te G G' (fun a => .t (.is r a)) m :=
  ⟨h.pe, fun T t σ s H Q h0 q => h.go T t σ s H Q h0 (wp_mono q (fun a s1 q1 v H1 at1 => q1 [v] v H1 (by simpa [tmps] using at1) (.t .nil)) fun _ _ z => z)⟩
theorem eo_v (i : Nat) {g : S → Slot} {x : Str} {a : U} (hG : ∀ s, (G s)[i]? = some (g s)) (hs : ∀ s v, v = none → ∀ M H B, ¬ (g s).ok X.K M H v B) (hN : X.N[i]? = some x := by rfl) (hv : Vis X.env.scope x := by first | exact Or.inl rfl | exact Or.inr (Or.inl rfl) | exact Or.inr (Or.inr rfl))
    (hd : (x == ("__debug__" : Str)) = false := by decide) (hcd : (x == ("__classdict__" : Str)) = false := by decide) : EO X F (.Name x pos) (tVar i) G G (fun _ : U => .v i) (ret a) :=
  ⟨pe_var hN hv hd hcd, fun T t σ s H Q h q => by
    obtain ⟨A1, A2, h0⟩ := id h
    obtain ⟨x, B, e1, h1, _⟩ := h0.loc.mem (hG s)
    cases x with
    | none => exact (hs s none rfl _ _ _ h1).elim
    | some v => exact ⟨v, e1, q [] v H (by simpa [tmps] using h) (.v e1 .nil)⟩⟩
theorem is_some {r : Rp U} {a : U} {K : PySem.W.Frag} : ∀ v, v = none → ∀ M H B, ¬ (Slot.is r a).ok K M H v B := fun v e M H B z => by
  obtain ⟨u, z, _⟩ := z
  rw [e] at z; cases z
theorem pn_some {r : Rp U} {a : U} {w : V} {K : PySem.W.Frag} : ∀ v, v = none → ∀ M H B, ¬ (Slot.pn w r a).ok K M H v B := fun v e M H B z => by
  obtain ⟨z, _⟩ := z
  rw [e] at z; cases z
theorem eo_own (i : Nat) {b : Z} {a : U} {x : Str} (hG : ∀ s, (G s)[i]? = some (.is r3 b)) (hN : X.N[i]? = some x := by rfl) (hv : Vis X.env.scope x := by first | exact Or.inl rfl | exact Or.inr (Or.inl rfl) | exact Or.inr (Or.inr rfl))
    (hd : (x == ("__debug__" : Str)) = false := by decide) (hcd : (x == ("__classdict__" : Str)) = false := by decide) : EO X F (.Name x pos) (tVar i) G G (fun _ : U => .v i) (ret a) := eo_v i hG (fun _ => is_some) hN hv hd hcd
theorem eo_pn (i : Nat) {w : S → V} {f : S → Z} {a : U} {x : Str} (hG : ∀ s, (G s)[i]? = some (.pn (w s) r3 (f s))) (hN : X.N[i]? = some x := by rfl) (hv : Vis X.env.scope x := by first | exact Or.inl rfl | exact Or.inr (Or.inl rfl) | exact Or.inr (Or.inr rfl))
    (hd : (x == ("__debug__" : Str)) = false := by decide) (hcd : (x == ("__classdict__" : Str)) = false := by decide) : EO X F (.Name x pos) (tVar i) G G (fun _ : U => .v i) (ret a) := eo_v i hG (fun _ => pn_some) hN hv hd hcd
theorem ea_nil : EA X F [] tNil G G (fun _ : Unit => []) (ret ()) := ⟨pa_nil, ga_nil⟩
theorem tmps_cons (g : Arg) (L : List Arg) : tmps (g :: L) = tmps [g] ++ tmps L := by cases g <;> rfl
theorem argV_cons {σ : L2.St} {g : Arg} {L : List Arg} {ts us ws : List V} {v : V} (h : ArgV σ [g] ts [v]) (h2 : ArgV σ L us ws) : ArgV σ (g :: L) (ts ++ us) (v :: ws) := by
  cases h with
  | t h => cases h; exact .t h2
  | v e h => cases h; exact .v e h2
  | u h => cases h; exact .u h2
theorem ea_cons (h1 : EO X F e te G G1 arg m1) (h2 : EA X F es tr G1 G2 L m2) (hs : PySem.W.isStarred e = false := by rfl) :
    EA X F (e :: es) (tCons te tr) G G2 (fun p : U × W => arg p.1 :: L p.2) (bnd m1 fun a => bnd m2 fun b => ret (a, b)) :=
  ⟨pa_cons h1.pe h2.pa (star1 hs), fun T t σ s H Q h q => by
    refine h1.go T t σ s H _ h (wp_mono (wp_bnd q) (fun a s1 q1 ts v H1 at1 av1 => ?_) fun _ _ z => z)
    refine h2.go _ _ σ s1 H1 _ at1 (wp_mono (wp_bnd q1) (fun b s2 q2 us ws H2 at2 av2 => ?_) fun _ _ z => z)
    refine q2 (ts ++ us) (v :: ws) H2 ?_ (argV_cons av1 av2)
    rw [tmps_cons]
    simpa using at2⟩
def ixM {S T : Type} (xs : List T) (i : Int) : SM S T := match atI xs i with
  | some a => ret a
  | none => stk
theorem stl_ixM {T : Type} (xs : List T) (i : Int) : Stl (ixM xs i : SM S T) := by
  unfold ixM
  cases atI xs i with
  | none => exact stl_stk
  | some a => exact stl_ret a
theorem wp_ixM {T : Type} {xs : List T} {i : Int} {s : S} {P : T → S → Prop} {E : Exn → S → Prop} (h : (ixM xs i s).wp P E) : ∃ a, atI xs i = some a ∧ P a s := by
  unfold ixM at h
  cases e : atI xs i with
  | none => rw [e] at h; exact h.elim
  | some a => rw [e] at h; exact ⟨a, rfl, h⟩
theorem atI_all {K : PySem.W.Frag} {T : Type} {R : V → T → List Addr → Prop} {vs : List V} {as : List T} {A : List Addr} (h : All3 R vs as A) {i : Int} {a : T} (e : atI as i = some a) : ∃ v B, atI vs i = some v ∧ R v a B ∧ ∀ p, p ∈ B → p ∈ A := by
  unfold atI at e ⊢
  rw [h.length]
  cases q : ixN as.length i with
  | none => rw [q] at e; cases e
  | some j =>
    rw [q] at e
    exact h.get' (i := j) e
section
variable {A : Type} {LA : A → List Arg} {mA : SM S A} {xs : A → List Z} {ix : A → Int} {argX argI : A → Arg}
end
/-- a place of a tuple: R says at which place stands what -/
def Plc (K : PySem.W.Frag) {U W : Type} (R : Rp U) (i : Int) (r : Rp W) (f : U → W) : Prop :=
  ∀ {M H v a B}, R.rel K M H v a B → ∃ p vs u B', v = .ref p ∧ SqT K H p vs ∧ atI vs i = some u ∧ r.rel K M H u (f a) B' ∧ ∀ x, x ∈ B' → x ∈ B
theorem plc2_0 {K : PySem.W.Frag} : Plc K (rPair r1 r2) 0 r1 (fun p => p.1) := by
  rintro M H v a B ⟨p, v1, v2, B1, B2, e, hT, h1, h2, eB⟩
  exact ⟨p, _, v1, B1, e, hT, rfl, h1, fun x hx => by rw [eB]; exact List.mem_append_left _ hx⟩
theorem plc2_1 {K : PySem.W.Frag} : Plc K (rPair r1 r2) 1 r2 (fun p => p.2) := by
  rintro M H v a B ⟨p, v1, v2, B1, B2, e, hT, h1, h2, eB⟩
  exact ⟨p, _, v2, B2, e, hT, rfl, h2, fun x hx => by rw [eB]; exact List.mem_append_right _ hx⟩
section
variable {R : Rp W} {f : W → Z} {xs : U → W} {i : Int} {j : Nat} {p1 : Pos}
/-- t[0], t[1], .. of a tuple -/
theorem ex_plc (h : EO X F a ta G G' arg m) (hp : Plc X.K R i r3 f) (c : r3.Cp) (hx : ∀ a s, Rdd (G' s) (arg a) R (xs a)) :
    EX X F (.Subscript a (.Constant (.int i) j p1) pos) (tOp (rIxT X.K) ta (tC (.int i))) G G' r3 (bnd m fun a => ret (f (xs a))) :=
  ⟨pe_ix ix_tup h.pe pe_int fun _ _ => rfl, fun T t σ s H Q h0 q => h.go T t σ s H _ h0 (wp_mono (wp_bnd q) (fun a s1 q1 ts v H1 at1 av => by
    obtain ⟨A1, A2, at1⟩ := at1
    obtain ⟨v', B, e1, hr⟩ := rddM (j := 0) at1 av rfl (hx a s1)
    cases e1
    obtain ⟨p, vs, u, B', ev, hT, ei, hu, sub⟩ := hp hr
    have eB := c hu
    subst eB
    exact ⟨p, vs, i, u, ev, rfl, hT, ei, q1 u H1 (at1.fin av hu)⟩) fun _ _ z => z)⟩
end
end
end Td
set_option Elab.async false
set_option linter.all false
set_option maxRecDepth 100000
set_option maxHeartbeats 4000000
namespace Td
open PySem PySem.Spec PyProof.Rows L2
section
variable {K : PySem.W.Frag} {S : Type} {F : FC K S} {T : List Slot} {t : List V} {G : List Slot} {σ : L2.St} {H : Hp}
/-- the heap with one owned list changed: what does not own it stays -/
theorem keep_upd {M B : List Addr} {D : Addr} {vs : List V} {o' : HO} (hD : H D = some (.lst vs)) (hM : D ∈ M) (hB : D ∉ B) : ∀ p o, H p = some o → (p ∉ M ∨ p ∈ B ∨ isTup o = true) → upd H D o' p = some o := by
  intro p o e hp
  have ne : p ≠ D := by
    rintro rfl
    rcases hp with z | z | z
    · exact z hM
    · exact hB z
    · rw [hD] at e; cases e; cases z
  rw [upd_ne ne]; exact e
theorem good_upd {D : Addr} {vs ws : List V} {A A' : List Addr} (g : Good F H A) (hD : H D = some (.lst vs)) (hA : D ∈ A) (nd : A'.Nodup) (sub : ∀ p, p ∈ A' → p ∈ A) : Good F (upd H D (.lst ws)) A' := by
  have g' := g.sub nd sub
  refine ⟨g'.nd, g'.out, g'.new, fun p hp => ?_, fun p o e hI ht => ?_, g'.m0, g'.tm, g'.tb.of fun p o e hz => ?_⟩
  · obtain ⟨o, ho, z⟩ := g.has p hp
    by_cases h : p = D
    · subst h; exact ⟨_, upd_same, rfl⟩
    · exact ⟨o, by rw [upd_ne h]; exact ho, z⟩
  · have ne : p ≠ D := by
      rintro rfl
      rcases g.new p hA with z | z
      · rw [z] at e; cases e
      · exact hI z
    rw [upd_ne ne]
    exact g.stay p o e hI ht
  · have ne : p ≠ D := by
      rintro rfl
      rcases hz with z | z
      · exact g.out p hA (g.tm p z)
      · rw [hD] at e; cases e; cases z
    rw [upd_ne ne]; exact e
/-- a list in slot i is changed: what its items and the temps own is given anew -/
theorem AtP.mutS {i : Nat} {U : Type} {r : Rp U} {xs : List U} {A1 A2 : List Addr} (h : AtP F T t G σ H A1 A2) (e : G[i]? = some (.is (rList r) xs)) :
    ∃ D vs B, σ[i]? = some (some (.ref D)) ∧ H D = some (.lst vs) ∧ All3 (r.rel K (A1 ++ A2 ++ F.M0) H) vs xs B ∧ vs.length = xs.length ∧ (B ++ A1).Nodup ∧
      ∀ (ws : List V) (ys : List U) (B' : List Addr) (T' : List Slot) (t' : List V) (A1' : List Addr), All3 (r.rel K (A1 ++ A2 ++ F.M0) H) ws ys B' → AtS K (A1 ++ A2 ++ F.M0) H T' (t'.map some) A1' →
        (B' ++ A1').Nodup → (∀ p, p ∈ B' ++ A1' → p ∈ B ++ A1) → At F T' t' (G.set i (.is (rList r) ys)) σ (upd H D (.lst ws)) := by
  obtain ⟨x, C, P1, P2, e1, ⟨v, ev, D, vs, B, ed, hD, hA, eC⟩, eA, back⟩ := h.loc.at_ e
  subst ev ed eC eA
  have nd := h.good.nd
  refine ⟨D, vs, B, e1, hD, hA, hA.length, by simp only [List.cons_append, List.nodup_append, List.nodup_cons, List.mem_cons, List.mem_append] at *; grind, fun ws ys B' T' t' A1' h1 h2 nd' sub => ?_⟩
  have hM : ∀ x, x ∈ A1' ++ (P1 ++ ((D :: B') ++ P2)) ++ F.M0 → x ∈ A1 ++ (P1 ++ ((D :: B) ++ P2)) ++ F.M0 ∨ H x = none := fun x hx => .inl (by
    have := sub x
    simp only [List.cons_append, List.mem_cons, List.mem_append] at *
    grind)
  have hMD : D ∈ A1' ++ (P1 ++ ((D :: B') ++ P2)) ++ F.M0 := by simp
  have hDB : D ∉ B' ++ A1' := fun z => by
    have := sub D z
    simp only [List.cons_append, List.nodup_append, List.nodup_cons, List.mem_cons, List.mem_append] at *
    grind
  have hDP : D ∉ P1 ++ P2 := fun z => by
    simp only [List.cons_append, List.nodup_append, List.nodup_cons, List.mem_cons, List.mem_append] at *
    grind
  refine ⟨A1', P1 ++ ((D :: B') ++ P2), (h2.grow hM).keep (keep_upd hD hMD fun z => hDB (List.mem_append_right _ z)), ?_, good_upd h.good hD (by simp) ?_ fun p hp => ?_⟩
  · have z := back (A1' ++ (P1 ++ ((D :: B') ++ P2)) ++ F.M0) (upd H D (.lst ws)) (.is (rList r) ys) (some (.ref D)) (D :: B')
      (fun h sub => Slot.ok_keep (Slot.ok_grow h hM) (keep_upd hD hMD fun z => hDP (by
        rcases sub D z with q | q
        · exact List.mem_append_left _ q
        · exact List.mem_append_right _ q)))
      ⟨_, rfl, D, ws, B', rfl, upd_same, h1.imp fun v a C hC hr => r.keep (r.grow hr hM) (keep_upd hD hMD fun z => hDB (List.mem_append_left _ (hC D z))), rfl⟩
    rwa [set_self e1] at z
  · have hsub := sub
    simp only [List.cons_append, List.nodup_append, List.nodup_cons, List.mem_cons, List.mem_append] at *
    grind
  · have := sub p
    simp only [List.cons_append, List.mem_cons, List.mem_append] at *
    grind
/-- a thing at the end of a list in a slot -/
theorem At.appendS {i : Nat} {U : Type} {r : Rp U} {xs : List U} {y : U} {v : V} (h : At F (.is r y :: T) (v :: t) G σ H) (e : G[i]? = some (.is (rList r) xs)) :
    ∃ D vs, σ[i]? = some (some (.ref D)) ∧ H D = some (.lst vs) ∧ vs.length = xs.length ∧ At F T t (G.set i (.is (rList r) (xs ++ [y]))) σ (upd H D (.lst (vs ++ [v]))) := by
  obtain ⟨A1, A2, h⟩ := h
  obtain ⟨D, vs, B, e1, hD, hA, hl, nd0, k⟩ := h.mutS e
  obtain ⟨C, A', eA, ⟨v', ev, hr⟩, ht⟩ := AtS.cons_inv h.tmp
  cases ev
  refine ⟨D, vs, e1, hD, hl, k (vs ++ [v]) (xs ++ [y]) (B ++ (C ++ [])) T t A' (hA.append (.cons hr .nil)) ht ?_ fun p hp => ?_⟩
  · rw [eA] at nd0
    simpa using nd0
  · rw [eA]
    simpa using hp
theorem At.appendT {U : Type} {r : Rp U} {xs : List U} {y : U} {v : V} {D : Addr} (h : At F (.is r y :: .is (rList r) xs :: T) (v :: .ref D :: t) G σ H) :
    ∃ vs, H D = some (.lst vs) ∧ vs.length = xs.length ∧ At F (.is (rList r) (xs ++ [y]) :: T) (.ref D :: t) G σ (upd H D (.lst (vs ++ [v]))) := by
  obtain ⟨A1, A2, h⟩ := h
  obtain ⟨C, A', eA, ⟨v', ev, hr⟩, ht⟩ := AtS.cons_inv h.tmp
  obtain ⟨C', A'', eA', ⟨v2, ev2, p, vs, B, ed, hD, hA, eC⟩, ht'⟩ := AtS.cons_inv ht
  cases ev
  cases ev2
  cases ed
  subst eA eA' eC
  have nd := h.good.nd
  have hM : ∀ x, x ∈ (D :: (B ++ (C ++ []))) ++ A'' ++ A2 ++ F.M0 → x ∈ C ++ ((D :: B) ++ A'') ++ A2 ++ F.M0 ∨ H x = none := fun x hx => .inl (by
    simp only [List.cons_append, List.mem_cons, List.mem_append, List.append_nil] at *
    grind)
  have hMD : D ∈ (D :: (B ++ (C ++ []))) ++ A'' ++ A2 ++ F.M0 := by simp
  have ndx : D ∉ B ∧ D ∉ C ∧ D ∉ A'' ∧ D ∉ A2 := by
    simp only [List.cons_append, List.nodup_append, List.nodup_cons, List.mem_cons, List.mem_append] at nd
    grind
  refine ⟨vs, hD, hA.length, (D :: (B ++ (C ++ []))) ++ A'', A2, .cons ⟨_, rfl, D, vs ++ [v], B ++ (C ++ []), rfl, upd_same, ?_, rfl⟩ ?_, ?_, good_upd h.good hD (by simp) ?_ fun p hp => ?_⟩
  · refine All3.imp (hA.append (.cons hr .nil)) fun w a E hE hw => r.keep (r.grow hw hM) (keep_upd hD hMD fun z => ?_)
    have := hE D z
    simp only [List.append_nil, List.mem_append] at this
    grind
  · exact (ht'.grow hM).keep (keep_upd hD hMD ndx.2.2.1)
  · exact (h.loc.grow hM).keep (keep_upd hD hMD ndx.2.2.2)
  · simp only [List.cons_append, List.nodup_append, List.nodup_cons, List.mem_cons, List.mem_append, List.append_nil] at *
    grind
  · simp only [List.cons_append, List.mem_cons, List.mem_append, List.append_nil] at *
    grind
/-- all pushed -/
theorem AtP.pushAll {U : Type} {r : Rp U} {A1 A2 : List Addr} : ∀ {vs : List V} {as : List U} {A : List Addr}, All3 (r.rel K (A1 ++ A2 ++ F.M0) H) vs as A → A = [] → ∀ {T : List Slot} {t : List V}, AtP F T t G σ H A1 A2 → AtP F (pend r as ++ T) (vs.reverse ++ t) G σ H A1 A2 := by
  intro vs as A h
  induction h with
  | nil => intro _ T t h0; exact h0
  | @cons v a B vs as A h ht ih =>
    intro e T t h0
    have e1 : B = [] := (List.append_eq_nil_iff.mp e).1
    have e2 : A = [] := (List.append_eq_nil_iff.mp e).2
    subst e1
    have z := ih e2 (h0.pushM h)
    simpa [pend] using z
theorem cp_all {U : Type} {r : Rp U} (c : r.Cp) {M : List Addr} {vs : List V} {as : List U} {A : List Addr} (h : All3 (r.rel K M H) vs as A) : A = [] := by
  induction h with
  | nil => rfl
  | cons h t ih => rw [c h, ih]; rfl
/-- a new list of things that own nothing, the arguments used up -/
theorem AtP.newL {L : List Arg} {ts vs : List V} {A1 A2 : List Addr} (h : AtP F ((tmps L).reverse ++ T) (ts.reverse ++ t) G σ H A1 A2) (av : ArgV σ L ts vs) {U : Type} {r : Rp U} {as : List U} {ws : List V} (hr : All3 (r.rel K (A1 ++ A2 ++ F.M0) H) ws as []) {p : Addr} (hp : H p = none) :
    At F (.is (rList r) as :: T) (.ref p :: t) G σ (upd H p (.lst ws)) := by
  have z := h.pushAll hr rfl
  exact At.dropU (by simp [(argV_len av).2]) (At.lst ⟨A1, A2, z⟩ hr.length hp)
end
def GL {K : PySem.W.Frag} {S : Type} (F : FC K S) {U : Type} (ta : TA) (G G' : S → List Slot) (r : Rp U) (m : SM S (List U)) : Prop :=
  ∀ (T : List Slot) (t : List V) (σ : L2.St) (s : S) (H : Hp) (Q : List V → Hp → Prop), At F T t (G s) σ H →
    (m s).wp (fun as s' => ∀ vs H', At F (pend r as ++ T) (vs.reverse ++ t) (G' s') σ H' → vs.length = as.length → Q vs H') (XP F σ) → ta σ H Q
structure EL (X : Cx) {S : Type} (F : FC X.K S) {U : Type} (es : List Expr) (ta : TA) (G G' : S → List Slot) (r : Rp U) (m : SM S (List U)) : Prop where
  pa : PA X es ta
  go : GL F ta G G' r m
section
variable {X : Cx} {S : Type} {F : FC X.K S} {U W Z : Type} {r r1 : Rp U} {r2 : Rp W} {r3 : Rp Z} {e a b : Expr} {es : List Expr} {te ta tb : TE} {tr : TA} {G G1 G2 G' : S → List Slot} {m m1 : SM S U} {m2 : SM S W} {ml : SM S (List U)} {pos : Pos} {arg : U → Arg} {argW : W → Arg}
theorem el_nil : EL X F [] tNil G G r (ret []) := ⟨pa_nil, fun T t σ s H Q h q => q [] H (by simpa [pend] using h) rfl⟩
theorem el_cons (h1 : EX X F e te G G1 r m1) (h2 : EL X F es tr G1 G2 r ml) (hs : PySem.W.isStarred e = false := by rfl) : EL X F (e :: es) (tCons te tr) G G2 r (bnd m1 fun a => bnd ml fun l => ret (a :: l)) :=
  ⟨pa_cons h1.pe h2.pa (star1 hs), fun T t σ s H Q h q => by
    refine h1.go T t σ s H _ h (wp_mono (wp_bnd q) (fun a s1 q1 v H1 at1 => ?_) fun _ _ z => z)
    refine h2.go _ _ σ s1 H1 _ at1 (wp_mono (wp_bnd q1) (fun l s2 q2 vs H2 at2 hl => ?_) fun _ _ z => z)
    exact q2 (v :: vs) H2 (by simpa [pend] using at2) (by simp [hl])⟩
/-- *e: the items own nothing -/
theorem el_star {p : Pos} {xs : W → List U} (h1 : EO X F e te G G1 argW m2) (c : r.Cp) (hx : ∀ a s, Rdd (G1 s) (argW a) (rList r) (xs a)) (h2 : EL X F es tr G1 G2 r ml) (hs : starEach (.Starred e p :: es) X.env = (true, eval e X.env) :: starEach es X.env := by rfl) :
    EL X F (.Starred e p :: es) (StX.tStar X.K te tr) G G2 r (bnd m2 fun a => bnd ml fun l => ret (xs a ++ l)) :=
  ⟨StX.pa_star h1.pe h2.pa hs, fun T t σ s H Q h q => by
    refine h1.go T t σ s H _ h (wp_mono (wp_bnd q) (fun a s1 q1 ts v H1 at1 av => ?_) fun _ _ z => z)
    obtain ⟨A1, A2, at1⟩ := at1
    obtain ⟨v', B, e1, p, vs, A, ev, hp, hA, eB⟩ := rddM (j := 0) at1 av rfl (hx a s1)
    cases e1
    have eA := cp_all c hA
    subst eA
    refine ⟨p, vs, ev, .inr (SqL.of hp), ?_⟩
    have at2 := at1.pushAll hA rfl
    have at3 : At F (pend r (xs a) ++ T) (vs.reverse ++ t) (G1 s1) σ H1 := At.dropM (by rw [List.length_reverse, pend_len, hA.length]) (by simp [(argV_len av).2]) ⟨A1, A2, at2⟩
    refine h2.go _ _ σ s1 H1 _ at3 (wp_mono (wp_bnd q1) (fun l s2 q2 ws H2 at4 hl => ?_) fun _ _ z => z)
    exact q2 (vs ++ ws) H2 (by simpa [pend] using at4) (by simp [hl, hA.length])⟩
end
end Td
set_option Elab.async false
set_option linter.all false
set_option maxRecDepth 100000
set_option maxHeartbeats 4000000
namespace Td
open PySem PySem.Spec PyProof.Rows L2
section
variable {X : Cx} {S : Type} {F : FC X.K S} {U W Z : Type} {r r1 : Rp U} {r2 : Rp W} {r3 : Rp Z} {e a b : Expr} {es : List Expr} {te ta tb : TE} {tr : TA} {G G1 G2 G' : S → List Slot} {m m1 : SM S U} {m2 : SM S W} {ml : SM S (List U)} {pos p0 : Pos} {arg : U → Arg} {argW : W → Arg}
def lenG {S T : Type} (xs : List T) : SM S Unit := grd (xs.length ≤ sizeLine)
theorem ex_lst (h : EL X F es tr G G' r ml) : EX X F (.List es pos) (tLst tr) G G' (rList r) (bnd ml fun xs => bnd (lenG xs) fun _ => ret xs) :=
  ⟨pe_lst h.pa, fun T t σ s H Q h0 q => h.go T t σ s H _ h0 (wp_mono (wp_bnd q) (fun xs s1 q1 vs H1 at1 hl => by
    obtain ⟨hz, q1⟩ := wp_grd (wp_bnd q1)
    exact ⟨by rw [hl]; exact hz, fun p hp => q1 _ _ (at1.lst hl hp)⟩) fun _ _ z => z)⟩
/-- one argument read -/
theorem go_call1 {rr : List V → Hp → VK → Prop} {f : U → SM S Z} (h : GO F te G G' arg m) (hf : ∀ a, Stl (f a))
    (hv : ∀ (a : U) (s : S) (T : List Slot) (t ts : List V) (v : V) (σ : L2.St) (H : Hp) (Q : VK) (A1 A2 : List Addr), AtP F ((tmps [arg a]).reverse ++ T) (ts.reverse ++ t) (G' s) σ H A1 A2 → ArgV σ [arg a] ts [v] →
      (f a s).wp (fun c s' => s' = s ∧ ∀ u H', At F (.is r3 c :: T) (u :: t) (G' s) σ H' → Q u H') (fun _ _ => True) → rr [v] H Q) : GE F (tCB rr (tCons te tNil)) G G' r3 (bnd m f) := by
  intro T t σ s H Q h0 q
  refine h T t σ s H _ h0 (wp_mono (wp_bnd q) (fun a s1 q1 ts v H1 at1 av => ?_) fun _ _ z => z)
  obtain ⟨A1, A2, at1⟩ := at1
  refine hv a s1 T t ts v σ H1 Q A1 A2 at1 av (wp_mono ((hf a).wp (E' := fun _ _ => True) q1) (fun c s2 q2 => ?_) fun _ _ _ => trivial)
  obtain ⟨e, q2⟩ := q2
  subst e
  exact ⟨rfl, q2⟩
theorem ex_callB1 {id : String} {x : Str} {rr : List V → Hp → VK → Prop} {f : U → SM S Z} (hc : CallR X (.builtin id) rr) (hg : Gl X x) (hm : X.mg x = none) (hv : bootBuiltins x = some (.builtin id)) (h : EO X F e te G G' arg m) (hgo : GE F (tCB rr (tCons te tNil)) G G' r3 (bnd m f))
    (hs : PySem.W.isStarred e = false := by rfl) (hn : x ≠ "__name__" := by decide) (hdb : (x == ("__debug__" : Str)) = false := by decide) : EX X F (.Call (.Name x p0) [e] [] pos) (tCB rr (tCons te tNil)) G G' r3 (bnd m f) :=
  ⟨pe_callB hc hg hm hv (pa_cons h.pe pa_nil (star1 hs)) hn hdb (star1 hs), hgo⟩
theorem ex_len {xs : U → List Z} (h : EO X F e te G G' arg m) (hx : ∀ a s, Rdd (G' s) (arg a) (rList r3) (xs a)) (hg : Gl X "len") (hm : X.mg "len" = none) (hs : PySem.W.isStarred e = false := by rfl) :
    EX X F (.Call (.Name "len" p0) [e] [] pos) (tCB (fun xs H Q => ∃ p ys, xs = [.ref p] ∧ (SqL X.K H p ys ∨ SqT X.K H p ys) ∧ Q (.int ys.length) H) (tCons te tNil)) G G' rInt (bnd m fun a => ret ((xs a).length : Int)) :=
  ex_callB1 call_len_seq hg hm PySem.boot_len h (go_call1 h.go (fun _ => stl_ret _) fun a s T t ts v σ H Q A1 A2 at1 av q => by
    obtain ⟨v', B, e1, p, vs, A, ev, hp, hA, eB⟩ := rddM (j := 0) at1 av rfl (hx a s)
    cases e1
    obtain ⟨_, q⟩ := q
    exact ⟨p, vs, by rw [ev], .inl (SqL.of hp), q _ H (at1.fin av ⟨by rw [hA.length], rfl⟩)⟩) hs
theorem ex_lenT {xs : U → List Z} (h : EO X F e te G G' arg m) (hx : ∀ a s, Rdd (G' s) (arg a) (rTupL r3) (xs a)) (hg : Gl X "len") (hm : X.mg "len" = none) (hs : PySem.W.isStarred e = false := by rfl) :
    EX X F (.Call (.Name "len" p0) [e] [] pos) (tCB (fun xs H Q => ∃ p ys, xs = [.ref p] ∧ (SqL X.K H p ys ∨ SqT X.K H p ys) ∧ Q (.int ys.length) H) (tCons te tNil)) G G' rInt (bnd m fun a => ret ((xs a).length : Int)) :=
  ex_callB1 call_len_seq hg hm PySem.boot_len h (go_call1 h.go (fun _ => stl_ret _) fun a s T t ts v σ H Q A1 A2 at1 av q => by
    obtain ⟨v', B, e1, p, vs, ev, hp, hA⟩ := rddM (j := 0) at1 av rfl (hx a s)
    cases e1
    obtain ⟨_, q⟩ := q
    exact ⟨p, vs, by rw [ev], .inr hp, q _ H (at1.fin av ⟨by rw [hA.length], rfl⟩)⟩) hs
/-- list(xs): a new list of things that own nothing -/
theorem ex_list {xs : U → List Z} (h : EO X F e te G G' arg m) (c : r3.Cp) (hx : ∀ a s, Rdd (G' s) (arg a) (rList r3) (xs a)) (hg : Gl X "list") (hm : X.mg "list" = none) (hs : PySem.W.isStarred e = false := by rfl) :
    EX X F (.Call (.Name "list" p0) [e] [] pos) (tCB (fun xs H Q => ∃ p ys, xs = [.ref p] ∧ (SqL X.K H p ys ∨ SqT X.K H p ys) ∧ ∀ l, H l = none → Q (.ref l) (upd H l (.lst ys))) (tCons te tNil)) G G' (rList r3) (bnd m fun a => ret (xs a)) :=
  ⟨pe_callTy call_list_of hg hm PyProof.Rows.boot_list (pa_cons h.pe pa_nil (star1 hs)) (he := star1 hs), go_call1 h.go (fun _ => stl_ret _) fun a s T t ts v σ H Q A1 A2 at1 av q => by
    obtain ⟨v', B, e1, p, vs, A, ev, hp, hA, eB⟩ := rddM (j := 0) at1 av rfl (hx a s)
    cases e1
    obtain ⟨_, q⟩ := q
    have eA := cp_all c hA
    subst eA
    exact ⟨p, vs, by rw [ev], .inl (SqL.of hp), fun l hl => q _ _ (at1.newL av hA hl)⟩⟩
theorem ex_listT {xs : U → List Z} (h : EO X F e te G G' arg m) (c : r3.Cp) (hx : ∀ a s, Rdd (G' s) (arg a) (rTupL r3) (xs a)) (hg : Gl X "list") (hm : X.mg "list" = none) (hs : PySem.W.isStarred e = false := by rfl) :
    EX X F (.Call (.Name "list" p0) [e] [] pos) (tCB (fun xs H Q => ∃ p ys, xs = [.ref p] ∧ (SqL X.K H p ys ∨ SqT X.K H p ys) ∧ ∀ l, H l = none → Q (.ref l) (upd H l (.lst ys))) (tCons te tNil)) G G' (rList r3) (bnd m fun a => ret (xs a)) :=
  ⟨pe_callTy call_list_of hg hm PyProof.Rows.boot_list (pa_cons h.pe pa_nil (star1 hs)) (he := star1 hs), go_call1 h.go (fun _ => stl_ret _) fun a s T t ts v σ H Q A1 A2 at1 av q => by
    obtain ⟨v', B, e1, p, vs, ev, hp, hA⟩ := rddM (j := 0) at1 av rfl (hx a s)
    cases e1
    obtain ⟨_, q⟩ := q
    have eA := cp_all c hA
    subst eA
    exact ⟨p, vs, by rw [ev], .inr hp, fun l hl => q _ _ (at1.newL av hA hl)⟩⟩
/-- calls of built-ins on plain values -/
theorem go_callP1 {rr : List V → Hp → VK → Prop} {f : U → SM S Z} (h : GE F te G G' r m) (hf : ∀ a, Stl (f a)) (hv : VO1 X.K S r r3 (fun v H Q => rr [v] H Q) f) : GE F (tCB rr (tCons te tNil)) G G' r3 (bnd m f) := by
  intro T t σ s H Q h0 q
  refine h T t σ s H _ h0 (wp_mono (wp_bnd q) (fun a s1 q1 v H1 at1 => ?_) fun _ _ z => z)
  obtain ⟨M, B, k⟩ := top_rel at1
  refine hv a v M B H1 Q s1 k (wp_mono ((hf a).wp q1) (fun c s2 q2 e u hu => ?_) fun _ _ z => z)
  exact q2.2 u H1 (at1.pop.push hu)
theorem go_callP2 {rr : List V → Hp → VK → Prop} {f : U → W → SM S Z} (h1 : GE F ta G G1 r m) (h2 : GE F tb G1 G2 r2 m2) (hf : ∀ a b, Stl (f a b)) (hv : VO2 X.K S r r2 r3 (fun v w H Q => rr [v, w] H Q) f) : GE F (tCB rr (tCons ta (tCons tb tNil))) G G2 r3 (bnd m fun a => bnd m2 fun b => f a b) := by
  intro T t σ s H Q h0 q
  refine h1 T t σ s H _ h0 (wp_mono (wp_bnd q) (fun a s1 q1 v H1 at1 => ?_) fun _ _ z => z)
  refine h2 _ _ σ s1 H1 _ at1 (wp_mono (wp_bnd q1) (fun b s2 q2 w H2 at2 => ?_) fun _ _ z => z)
  obtain ⟨M1, B1, k1⟩ := snd_rel at2
  obtain ⟨M2, B2, k2⟩ := top_rel at2
  refine hv a b v w M1 B1 M2 B2 H2 Q s2 k1 k2 (wp_mono ((hf a b).wp q2) (fun c s3 q3 e u hu => ?_) fun _ _ z => z)
  exact q3.2 u H2 (fin2 at2 hu)
end
section
variable {X : Cx} {S : Type} {F : FC X.K S} {e a b : Expr} {te ta tb : TE} {G G1 G2 G' : S → List Slot} {m m1 m2 : SM S Int} {mb : SM S Bool} {pos p0 : Pos}
theorem ex_abs (h : EX X F e te G G' rInt m) (hg : Gl X "abs") (hm : X.mg "abs" = none) (hs : PySem.W.isStarred e = false := by rfl) :
    EX X F (.Call (.Name "abs" p0) [e] [] pos) (tCB (fun xs H Q => ∃ i, xs = [.int i] ∧ Q (.int (if i < 0 then -i else i)) H) (tCons te tNil)) G G' rInt (bnd m fun i => ret (if i < 0 then -i else i)) :=
  ⟨pe_callB call_abs hg hm PyProof.Rows.boot_abs (pa_cons h.pe pa_nil (star1 hs)) (he := star1 hs), go_callP1 h.go (fun _ => stl_ret _) fun a v M B H Q s k q => ⟨a, by rw [k.1], q rfl _ fun _ => ⟨rfl, rfl⟩⟩⟩
theorem ex_intI (h : EX X F e te G G' rInt m) (hg : Gl X "int") (hm : X.mg "int" = none) (hs : PySem.W.isStarred e = false := by rfl) :
    EX X F (.Call (.Name "int" p0) [e] [] pos) (tCB (fun xs H Q => (∃ i, xs = [.int i] ∧ Q (.int i) H) ∨ ∃ k, xs = [.bl k] ∧ Q (.int (if k then 1 else 0)) H) (tCons te tNil)) G G' rInt (bnd m fun i => ret i) :=
  ⟨pe_callTy call_int1 hg hm PyProof.Rows.boot_int (pa_cons h.pe pa_nil (star1 hs)) (he := star1 hs), go_callP1 h.go (fun _ => stl_ret _) fun a v M B H Q s k q => .inl ⟨a, by rw [k.1], q rfl _ fun _ => ⟨rfl, rfl⟩⟩⟩
theorem ex_max2 (h1 : EX X F a ta G G1 rInt m1) (h2 : EX X F b tb G1 G2 rInt m2) (hg : Gl X "max") (hm : X.mg "max" = none) (hc : X.calm = true := by rfl) (hs : PySem.W.isStarred a = false := by rfl) (hs2 : PySem.W.isStarred b = false := by rfl) :
    EX X F (.Call (.Name "max" p0) [a, b] [] pos) (tCB (fun xs H Q => ∃ i j, xs = [.int i, .int j] ∧ Q (.int (if j > i then j else i)) H) (tCons ta (tCons tb tNil))) G G2 rInt (bnd m1 fun i => bnd m2 fun j => ret (if j > i then j else i)) :=
  ⟨pe_callB (call_max2 hc) hg hm PyProof.Rows.boot_max (pa_cons h1.pe (pa_cons h2.pe pa_nil (star1 hs2)) (star1 hs)) (he := star1 hs) (hpl := by rw [star1 hs2]; rfl), go_callP2 h1.go h2.go (fun _ _ => stl_ret _) fun a b v w M B M' B' H Q s k k' q => ⟨a, b, by rw [k.1, k'.1], q rfl _ fun _ => ⟨rfl, rfl⟩⟩⟩
theorem ex_min2 (h1 : EX X F a ta G G1 rInt m1) (h2 : EX X F b tb G1 G2 rInt m2) (hg : Gl X "min") (hm : X.mg "min" = none) (hc : X.calm = true := by rfl) (hs : PySem.W.isStarred a = false := by rfl) (hs2 : PySem.W.isStarred b = false := by rfl) :
    EX X F (.Call (.Name "min" p0) [a, b] [] pos) (tCB (fun xs H Q => ∃ i j, xs = [.int i, .int j] ∧ Q (.int (if j < i then j else i)) H) (tCons ta (tCons tb tNil))) G G2 rInt (bnd m1 fun i => bnd m2 fun j => ret (if j < i then j else i)) :=
  ⟨pe_callB (call_min2 hc) hg hm PyProof.Rows.boot_min (pa_cons h1.pe (pa_cons h2.pe pa_nil (star1 hs2)) (star1 hs)) (he := star1 hs) (hpl := by rw [star1 hs2]; rfl), go_callP2 h1.go h2.go (fun _ _ => stl_ret _) fun a b v w M B M' B' H Q s k k' q => ⟨a, b, by rw [k.1, k'.1], q rfl _ fun _ => ⟨rfl, rfl⟩⟩⟩
/-- unary minus -/
theorem ex_neg (h : EX X F e te G G' rInt m) : EX X F (.UnaryOp .USub e pos) (tUn (rU fun i => .int (-i)) te) G G' rInt (bnd m fun i => ret (-i)) :=
  ⟨pe_un un_neg h.pe, fun T t σ s H Q h0 q => h.go T t σ s H _ h0 (wp_mono (wp_bnd q) (fun i s1 q1 v H1 at1 => by
    obtain ⟨M, B, k, _⟩ := top_rel at1
    exact ⟨i, k, q1 _ H1 (at1.pop.push fun _ => ⟨rfl, rfl⟩)⟩) fun _ _ z => z)⟩
end
structure Src {K : PySem.W.Frag} {S : Type} (F : FC K S) (C : List Slot → Prop) (J : It) (g : List Slot) (hv : List V) {A : Type} (rx : Rp A) (xs : List A) : Prop where
  len : hv.length = g.length
  go : ∀ {i T1 t1 T t G σ H}, C G → t1.length = T1.length → At F (T1 ++ (g ++ T)) (t1 ++ (hv ++ t)) G σ H → i < xs.length → J.go i H
  stop : ∀ {i T1 t1 T t G σ H}, C G → t1.length = T1.length → At F (T1 ++ (g ++ T)) (t1 ++ (hv ++ t)) G σ H → xs.length ≤ i → J.stop i H
  yld : ∀ {i a x T1 t1 T t G σ H H'}, C G → t1.length = T1.length → At F (T1 ++ (g ++ T)) (t1 ++ (hv ++ t)) G σ H → J.yld i H x H' → xs[i]? = some a → At F (.is rx a :: (T1 ++ (g ++ T))) (x :: (t1 ++ (hv ++ t))) G σ H'
def GI {K : PySem.W.Frag} {S : Type} (F : FC K S) {A : Type} (wi : TI) (G G' : S → List Slot) (C : List Slot → Prop) (rx : Rp A) (m : SM S (List A)) : Prop :=
  ∀ (T : List Slot) (t : List V) (σ : L2.St) (s : S) (H : Hp) (R : It → Hp → Prop), At F T t (G s) σ H →
    (m s).wp (fun xs s' => ∀ J g hv H', Src F C J g hv rx xs → At F (g ++ T) (hv ++ t) (G' s') σ H' → R J H') (XP F σ) → wi σ H R
structure EI (X : Cx) {S : Type} (F : FC X.K S) {A : Type} (tg e : Expr) (wi : TI) (G G' : S → List Slot) (C : List Slot → Prop) (rx : Rp A) (m : SM S (List A)) : Prop where
  pi : PI X tg e wi
  go : GI F wi G G' C rx m
section
variable {K : PySem.W.Frag} {S : Type} {F : FC K S} {T : List Slot} {t : List V} {G : List Slot} {σ : L2.St} {H : Hp} {A : Type} {rx : Rp A} {xs : List A}
theorem rev_get' {T : Type _} (l1 l2 : List T) (k : Nat) : (l1 ++ l2)[l1.length + k]? = l2[k]? := by
  rw [List.getElem?_append_right (by omega)]
  congr 1; omega
/-- a held temp, wherever it stands -/
theorem held {T1 : List Slot} {t1 : List V} {g : Slot} {v : V} {A1 A2 : List Addr} (e : t1.length = T1.length) (h : AtP F (T1 ++ ([g] ++ T)) (t1 ++ ([v] ++ t)) G σ H A1 A2) : ∃ B, g.ok K (A1 ++ A2 ++ F.M0) H (some v) B := by
  obtain ⟨x, B, e1, h1, _⟩ := h.tmp.mem (i := T1.length + 0) (g := g) (by rw [rev_get']; rfl)
  rw [List.map_append, show T1.length + 0 = (t1.map some).length + 0 by rw [List.length_map, e], rev_get'] at e1
  cases e1
  exact ⟨B, h1⟩
/-- a shared list -/
theorem src_sh {a : Addr} (c : rx.Cp) : Src F (fun _ => True) (Itl K a) [.is (sh (rList rx)) xs] [.ref a] rx xs where
  len := rfl
  go := by
    intro i T1 t1 T t G σ H _ e h hi
    obtain ⟨A1, A2, h⟩ := h
    obtain ⟨B, v, ev, _, C, ⟨p, vs, A, ep, hp, hA, _⟩, _⟩ := held e h
    cases ev
    cases ep
    have hi' : i < vs.length := by rw [hA.length]; exact hi
    exact ⟨vs, vs[i], SqL.of hp, List.getElem?_eq_getElem hi'⟩
  stop := by
    intro i T1 t1 T t G σ H _ e h hi
    obtain ⟨A1, A2, h⟩ := h
    obtain ⟨B, v, ev, _, C, ⟨p, vs, A, ep, hp, hA, _⟩, _⟩ := held e h
    cases ev
    cases ep
    exact ⟨vs, SqL.of hp, by rw [hA.length]; exact hi⟩
  yld := by
    intro i a x T1 t1 T t G σ H H' _ e h hy ha
    obtain ⟨A1, A2, h⟩ := h
    obtain ⟨B, v, ev, _, C, ⟨p, vs, A, ep, hp, hA, _⟩, _⟩ := held e h
    cases ev
    cases ep
    obtain ⟨rfl, hy⟩ := hy
    obtain ⟨w, D, e1, hr, _⟩ := hA.get' ha
    have e2 := hy vs (SqL.of hp)
    rw [e1] at e2
    cases e2
    have eD := c hr
    subst eD
    exact ⟨A1, A2, h.pushM hr⟩
/-- lo, lo + 1, .. -/
def upto (lo : Int) (n : Nat) : List Int := (List.range n).map fun (i : Nat) => lo + (i : Int)
theorem upto_len (lo : Int) (n : Nat) : (upto lo n).length = n := by simp [upto]
theorem upto_get {lo : Int} {n i : Nat} {a : Int} (h : (upto lo n)[i]? = some a) : a = lo + (i : Int) := by
  unfold upto at h
  rw [List.getElem?_map] at h
  cases e : (List.range n)[i]? with
  | none => rw [e] at h; cases h
  | some j =>
    rw [e] at h
    have e2 : j = i := by
      rw [List.getElem?_range] at e
      · cases e; rfl
      · have := (List.getElem?_eq_some_iff.mp e).1
        simpa using this
    subst e2
    exact (Option.some.inj h).symm
theorem src_rng {lo : Int} {n : Nat} : Src F (fun _ => True) (Itr lo n) [] [] rInt (upto lo n) where
  len := rfl
  go := fun _ _ _ hi => by rw [upto_len] at hi; exact hi
  stop := fun _ _ _ hi => by rw [upto_len] at hi; exact hi
  yld := by
    intro i a x T1 t1 T t G σ H H' _ e h hy ha
    obtain ⟨rfl, rfl⟩ := hy
    rw [upto_get ha]
    exact At.push h fun _ => ⟨rfl, rfl⟩
end
end Td
set_option Elab.async false
set_option linter.all false
set_option maxRecDepth 100000
set_option maxHeartbeats 4000000
namespace Td
open PySem PySem.Spec PyProof.Rows L2
def GG {K : PySem.W.Frag} {S : Type} (F : FC K S) (g : TG) (ws : List Nat) {A : Type} (rx : Rp A) (G : List Slot) (Gt : A → List Slot) : Prop :=
  ∀ (T : List Slot) (t : List V) (σ : L2.St) (H : Hp) (v : V) (a : A) (Q : L2.St → Hp → Prop), At F (.is rx a :: T) (v :: t) G σ H →
    (∀ σ', At F T t (Gt a) σ' H → σ'.length = σ.length → (∀ j, j ∉ ws → σ'[j]? = σ[j]?) → Q σ' H) → g v σ H Q
structure EG (X : Cx) {S : Type} (F : FC X.K S) (tg : Expr) (g : TG) (ws : List Nat) {A : Type} (rx : Rp A) (G : List Slot) (Gt : A → List Slot) : Prop where
  pg : PG X tg g
  go : GG F g ws rx G Gt
section
variable {X : Cx} {S : Type} {F : FC X.K S} {A B C : Type} {rx : Rp A} {ry : Rp B} {rz : Rp C} {G : List Slot} {pos : Pos}
theorem gg_name {K : PySem.W.Frag} {F : FC K S} {i : Nat} {g' : Slot} (e : G[i]? = some g') : GG F (gName i) [i] rx G (fun a => G.set i (.is rx a)) := by
  intro T t σ H v a Q h q
  refine q _ (h.store i e) (by simp) fun j hj => ?_
  rw [List.getElem?_set_ne (by intro z; exact hj (by simp [z]))]
theorem eg_name {i : Nat} {x : Str} {g' : Slot} (e : G[i]? = some g') (hN : X.N.Nodup) (hi : X.N[i]? = some x := by rfl) (hx : Loc X.env.scope x := by first | exact Or.inl rfl | exact Or.inr rfl) (hf : X.fn x = true ∨ X.env.scope.names.lookup x = some .local := by first | exact .inl rfl | exact .inr rfl) :
    EG X F (.Name x pos) (gName i) [i] rx G (fun a => G.set i (.is rx a)) := ⟨pg_name hN hi hx hf, gg_name e⟩
theorem eg_pair {e1 e2 : Expr} {g1 g2 : TG} {w1 w2 : List Nat} {k : Nat} {ws : List Nat} {Gt : A × B → List Slot} {G1 : A → List Slot} {G2 : A → B → List Slot} (hc : X.calm = true) (h1 : EG X F e1 g1 w1 rx G G1) (h2 : ∀ a, EG X F e2 g2 w2 ry (G1 a) (G2 a))
    (ha : Inhabited A) (hws : ws = w1 ++ w2 := by rfl) (hGt : ∀ p, Gt p = G2 p.1 p.2 := by intro _; rfl) (hs1 : (assignEach [e1, e2] X.env).map (·.2) = assign e1 X.env :: (assignEach [e2] X.env).map (·.2) := by rfl) (hs2 : (assignEach [e2] X.env).map (·.2) = assign e2 X.env :: (assignEach [] X.env).map (·.2) := by rfl)
    (hn : (assignEach [e1, e2] X.env).length = 2 := by rfl) (hst : (assignEach [e1, e2] X.env).findIdx? (·.1) = none := by rfl) :
    EG X F (.Tuple [e1, e2] k pos) (gTup X.K 2 (gCons g1 (gCons g2 gNil))) ws (rPair rx ry) G Gt :=
  ⟨pg_tup hc (pgs_cons h1.pg (pgs_cons (h2 ha.default).pg pgs_nil hs2) hs1) hn hst, fun T t σ H v a Q h q => by
    have eG : Gt = fun p => G2 p.1 p.2 := funext hGt
    subst hws eG
    obtain ⟨p, x, y, ev, hT, h⟩ := h.unpair
    refine ⟨p, [x, y], ev, hT, rfl, x, [y], rfl, ?_⟩
    refine h1.go _ _ σ H x a.1 _ h fun σ1 at1 l1 k1 => ?_
    refine ⟨y, [], rfl, ?_⟩
    refine (h2 a.1).go _ _ σ1 H y a.2 _ at1 fun σ2 at2 l2 k2 => ?_
    exact ⟨rfl, q σ2 at2 (l2.trans l1) fun j hj => (k2 j fun z => hj (List.mem_append_right _ z)).trans (k1 j fun z => hj (List.mem_append_left _ z))⟩⟩
end
/-- how a block ends: on its end with n, at a return with b, at break or continue with l -/
inductive Fl (N L R : Type) where
  | nx (n : N)
  | rt (b : R)
  | bk (l : L)
  | ct (l : L)
def FlP {K : PySem.W.Frag} {S : Type} (F : FC K S) {N L R : Type} (T : List Slot) (t : List V) (GN : N → S → List Slot) (GL : L → S → List Slot) (r : Rp R) (D : Ends) : Fl N L R → S → Prop
  | .nx n, s => ∀ σ' H', At F T t (GN n s) σ' H' → D.nx σ' H'
  | .ct l, s => ∀ σ' H', At F T t (GL l s) σ' H' → D.ct σ' H'
  | .bk l, s => ∀ σ' H', At F T t (GL l s) σ' H' → D.bk σ' H'
  | .rt b, s => ∀ v σ' H', At F [.is r b] [v] (F.io s) σ' H' → D.rt v H'
def XA {K : PySem.W.Frag} {S : Type} (F : FC K S) (e : Exn) (s : S) : Prop := ∀ σ, XP F σ e s
def GB {K : PySem.W.Frag} {S : Type} (F : FC K S) {N L R : Type} (ts : TS) (G : S → List Slot) (GN : N → S → List Slot) (GL : L → S → List Slot) (r : Rp R) (out : SM S (Fl N L R)) : Prop :=
  ∀ (T : List Slot) (t : List V) (σ : L2.St) (s : S) (H : Hp) (D : Ends), At F T t (G s) σ H → (out s).wp (FlP F T t GN GL r D) (XA F) → ts D σ H
structure BX (X : Cx) {S : Type} (F : FC X.K S) {N L R : Type} (sts : List Stmt) (ts : TS) (G : S → List Slot) (GN : N → S → List Slot) (GL : L → S → List Slot) (r : Rp R) (out : SM S (Fl N L R)) : Prop where
  ps : PSs X sts ts
  go : GB F ts G GN GL r out
def thn_ {S N N' L R : Type} (m : SM S (Fl N L R)) (k : N → SM S (Fl N' L R)) : SM S (Fl N' L R) := bnd m fun fl => match fl with
  | .nx n => k n
  | .rt b => ret (.rt b)
  | .bk l => ret (.bk l)
  | .ct l => ret (.ct l)
/-- a block that does not come to its end -/
def esc {S N L R : Type} (m : SM S (Fl Empty L R)) : SM S (Fl N L R) := bnd m fun fl => match fl with
  | .nx n => n.elim
  | .rt b => ret (.rt b)
  | .bk l => ret (.bk l)
  | .ct l => ret (.ct l)
inductive Lp (L R : Type) where
  | dn (l : L)
  | rt (b : R)
/-- for: the items, the body, the loop's state -/
def forM_ {S A L R : Type} : List A → (L → A → SM S (Fl L L R)) → L → SM S (Lp L R)
  | [], _, l => ret (.dn l)
  | x :: xs, f, l => bnd (f l x) fun fl => match fl with
    | .nx l' => forM_ xs f l'
    | .ct l' => forM_ xs f l'
    | .bk l' => ret (.dn l')
    | .rt b => ret (.rt b)
def lpM {S N L L' R : Type} (m : SM S (Lp L R)) (k : L → SM S (Fl N L' R)) : SM S (Fl N L' R) := bnd m fun fl => match fl with
  | .dn l => k l
  | .rt b => ret (.rt b)
section
variable {X : Cx} {S : Type} {F : FC X.K S} {N N' L L' R : Type} {G G1 G2 : S → List Slot} {GN : N → S → List Slot} {GJ : N' → S → List Slot} {GL : L → S → List Slot} {GP : L' → S → List Slot} {r : Rp R} {pos p0 p1 : Pos} {rest : List Stmt} {tr : TS}
theorem bx_end (n : N) (hw : ∀ s, Weak (G s) (GN n s)) : BX X F [] tNext G GN GL r (ret (.nx n)) :=
  ⟨pss_nil, fun T t σ s H D h q => q σ H (h.weak (hw s))⟩
theorem bx_asg {U : Type} {r1 : Rp U} {e : Expr} {te : TE} {m : SM S U} {out : U → SM S (Fl N L R)} {x : Str} (i : Nat) {gs : S → Slot} (hN : X.N.Nodup) (h : EX X F e te G G1 r1 m) (hb : ∀ a, BX X F rest tr (fun s => (G1 s).set i (.is r1 a)) GN GL r (out a)) (ha : Inhabited U)
    (he : ∀ s, (G1 s)[i]? = some (gs s)) (hs : swapsWith e (some (.Name x p0)) pos.line X.env = pure false := by rfl) (hi : X.N[i]? = some x := by rfl) (hx : Loc X.env.scope x := by first | exact Or.inl rfl | exact Or.inr rfl) (hf : X.fn x = true ∨ X.env.scope.names.lookup x = some .local := by first | exact .inl rfl | exact .inr rfl) :
    BX X F (.Assign [.Name x p0] e pos :: rest) (tSeq (tAsg te (gName i)) tr) G GN GL r (bnd m out) :=
  ⟨pss_cons (ps_set hN hi hx h.pe hs hf) (hb ha.default).ps, fun T t σ s H D h0 q =>
    h.go T t σ s H _ h0 (wp_mono (wp_bnd q) (fun a s1 q1 v H1 at1 => (hb a).go T t _ s1 H1 D (at1.store i (he s1)) q1) fun e s z => z σ)⟩
/-- a comprehension given to a name on one line -/
theorem bx_asgW {U : Type} {r1 : Rp U} {st : Stmt} {te : TE} {m : SM S U} {out : U → SM S (Fl N L R)} (i : Nat) {gs : S → Slot} (hp : PS X st (tAsg te (gName i))) (h : GE F te G G1 r1 m) (hb : ∀ a, BX X F rest tr (fun s => (G1 s).set i (.is r1 a)) GN GL r (out a)) (ha : Inhabited U)
    (he : ∀ s, (G1 s)[i]? = some (gs s)) : BX X F (st :: rest) (tSeq (tAsg te (gName i)) tr) G GN GL r (bnd m out) :=
  ⟨pss_cons hp (hb ha.default).ps, fun T t σ s H D h0 q =>
    h T t σ s H _ h0 (wp_mono (wp_bnd q) (fun a s1 q1 v H1 at1 => (hb a).go T t _ s1 H1 D (at1.store i (he s1)) q1) fun e s z => z σ)⟩
/-- a, b = e1, e2 -/
theorem bx_par {U W : Type} {r1 : Rp U} {r2 : Rp W} {a b : Expr} {ta tb : TE} {m1 : SM S U} {m2 : SM S W} {out : U → W → SM S (Fl N L R)} {x y : Str} {px py pt pt2 : Pos} {kt k2 : Nat} (i j : Nat) {gs gs' : S → Slot} (hN : X.N.Nodup) (hc : X.calm = true) (hij : i ≠ j)
    (h1 : EX X F a ta G G1 r1 m1) (h2 : EX X F b tb G1 G2 r2 m2) (hb : ∀ a b, BX X F rest tr (fun s => ((G2 s).set j (.is r2 b)).set i (.is r1 a)) GN GL r (out a b)) (ha : Inhabited U) (ha2 : Inhabited W) (he : ∀ s, (G2 s)[i]? = some (gs s)) (he2 : ∀ s, (G2 s)[j]? = some (gs' s))
    (hw : swappedStores [.Tuple [.Name x px, .Name y py] kt pt] (.Tuple [a, b] k2 pt2) X.env = pure (some [x, y]) := by rfl) (hs : swapsWithSole [.Tuple [.Name x px, .Name y py] kt pt] (.Tuple [a, b] k2 pt2) pos.line X.env = pure false := by rfl)
    (hi : X.N[i]? = some x := by rfl) (hj : X.N[j]? = some y := by rfl) (hx : X.env.scope.names.lookup x = some .local := by rfl) (hy : X.env.scope.names.lookup y = some .local := by rfl) (hsa : PySem.W.isStarred a = false := by rfl) (hsb : PySem.W.isStarred b = false := by rfl) :
    BX X F (.Assign [.Tuple [.Name x px, .Name y py] kt pt] (.Tuple [a, b] k2 pt2) pos :: rest) (tSeq (tPar i j (tCons ta (tCons tb tNil))) tr) G GN GL r (bnd m1 fun a => bnd m2 fun b => out a b) :=
  ⟨pss_cons (ps_par hc hN hi hj hij hx hy (pa_cons h1.pe (pa_cons h2.pe pa_nil (star1 hsb)) (star1 hsa)) hw hs) (hb ha.default ha2.default).ps, fun T t σ s H D h0 q => by
    refine h1.go T t σ s H _ h0 (wp_mono (wp_bnd q) (fun a s1 q1 v H1 at1 => ?_) fun e s z => z σ)
    refine h2.go _ _ σ s1 H1 _ at1 (wp_mono (wp_bnd q1) (fun b s2 q2 w H2 at2 => ?_) fun e s z => z σ)
    refine ⟨v, w, rfl, (hb a b).go T t _ s2 H2 D ?_ q2⟩
    have z := (at2.store j (he2 s2)).store i (by rw [List.getElem?_set_ne (Ne.symm hij)]; exact he s2)
    rwa [List.set_comm (l := σ) _ _ (Ne.symm hij)] at z⟩
theorem bx_ret {e : Expr} {te : TE} {m : SM S R} (h : EX X F e te G G1 r m) (hw : ∀ s, Weak (G1 s) (F.io s)) : BX X F (.Return (some e) pos :: rest) (tSeq (tRet te) tNever) G GN GL r (bnd m fun a => ret (.rt a)) :=
  ⟨pss_cons (ps_ret h.pe) pss_never, fun T t σ s H D h0 q =>
    h.go T t σ s H _ h0 (wp_mono (wp_bnd q) (fun a s1 q1 v H1 at1 => q1 v σ H1 (by
      have z := at1.weak (hw s1)
      exact At.dropM (T0 := [_]) (t0 := [v]) (T := []) (t := []) rfl (T1 := T) (t1 := t) (by obtain ⟨A1, A2, hz⟩ := h0; have := hz.tmp.length; simpa using this) (by simpa using z))) fun e s z => z σ)⟩
theorem bx_expr {U : Type} {r1 : Rp U} {e : Expr} {te : TE} {m : SM S U} {out : SM S (Fl N L R)} (h : EX X F e te G G1 r1 m) (hb : BX X F rest tr G1 GN GL r out) (hs : swapsWith e none pos.line X.env = pure false := by rfl) :
    BX X F (.Expr e pos :: rest) (tSeq (tDrop te) tr) G GN GL r (bnd m fun _ => out) :=
  ⟨pss_cons (ps_expr h.pe hs) hb.ps, fun T t σ s H D h0 q =>
    h.go T t σ s H _ h0 (wp_mono (wp_bnd q) (fun a s1 q1 v H1 at1 => hb.go T t σ s1 H1 D at1.pop q1) fun e s z => z σ)⟩
theorem bx_if {c : Expr} {A B : List Stmt} {tc : TT} {ta tb : TS} {mc : SM S Bool} {oA oB : SM S (Fl N' L R)} {out : N' → SM S (Fl N L R)} (hc : ET X F c tc G G1 mc) (h1 : BX X F A ta G1 GJ GL r oA) (h2 : BX X F B tb G1 GJ GL r oB) (hr : ∀ n, BX X F rest tr (GJ n) GN GL r (out n)) (ha : Inhabited N') :
    BX X F (.If c A B pos :: rest) (tSeq (tIfS tc ta tb) tr) G GN GL r (bnd mc fun k => thn_ (if k then oA else oB) out) :=
  ⟨pss_cons (ps_if hc.pt h1.ps h2.ps) (hr ha.default).ps, fun T t σ s H D h0 q => by
    refine hc.go T t σ s H _ h0 (wp_mono (wp_bnd q) (fun k s1 q1 H1 at1 => ?_) fun e s z => z σ)
    have fin : ∀ {fl : Fl N' L R} {s2 : S}, ((match fl with | .nx n => out n | .rt b => ret (.rt b) | .bk l => ret (.bk l) | .ct l => ret (.ct l) : SM S (Fl N L R)) s2).wp (FlP F T t GN GL r D) (XA F) → FlP F T t GJ GL r { D with nx := tr D } fl s2 := fun {fl s2} q2 => by
      cases fl with
      | nx n => exact fun σ' H' at2 => (hr n).go T t σ' s2 H' D at2 q2
      | rt b => exact q2
      | bk l => exact q2
      | ct l => exact q2
    cases k with
    | true => exact h1.go T t σ s1 H1 { D with nx := tr D } at1 (wp_mono (wp_bnd q1) (fun fl s2 q2 => fin q2) fun _ _ z => z)
    | false => exact h2.go T t σ s1 H1 { D with nx := tr D } at1 (wp_mono (wp_bnd q1) (fun fl s2 q2 => fin q2) fun _ _ z => z)⟩
/-- if whose suite does not come to its end, without else -/
theorem bx_ifr {c : Expr} {A : List Stmt} {tc : TT} {ta : TS} {mc : SM S Bool} {oA : SM S (Fl Empty L R)} {out : SM S (Fl N L R)} {GE_ : Empty → S → List Slot} (hc : ET X F c tc G G1 mc) (h1 : BX X F A ta G1 GE_ GL r oA) (hr : BX X F rest tr G1 GN GL r out) :
    BX X F (.If c A [] pos :: rest) (tSeq (tIfS tc ta tNext) tr) G GN GL r (bnd mc fun k => if k then esc oA else out) :=
  ⟨pss_cons (ps_if hc.pt h1.ps pss_nil) hr.ps, fun T t σ s H D h0 q => by
    refine hc.go T t σ s H _ h0 (wp_mono (wp_bnd q) (fun k s1 q1 H1 at1 => ?_) fun e s z => z σ)
    cases k with
    | true =>
      refine h1.go T t σ s1 H1 { D with nx := tr D } at1 (wp_mono (wp_bnd q1) (fun fl s2 q2 => ?_) fun _ _ z => z)
      cases fl with
      | nx n => exact n.elim
      | rt b => exact q2
      | bk l => exact q2
      | ct l => exact q2
    | false => exact hr.go T t σ s1 H1 D at1 q1⟩
/-- for -/
theorem bx_for {A : Type} {rx : Rp A} {tg e : Expr} {body : List Stmt} {wi : TI} {g : TG} {ws : List Nat} {tb : TS} {mi : SM S (List A)} {f : L' → A → SM S (Fl L' L' R)} {out : L' → SM S (Fl N L R)} {Gt : L' → S → A → List Slot} {C : List Slot → Prop}
    (hp : PassesOwn (model X.prog X.w) X.A X.env X.xe) (hc : X.calm = true) (GP : L' → S → List Slot) (l0 : L') (hi : EI X F tg e wi G G1 C rx mi) (hw : ∀ s, Weak (G1 s) (GP l0 s)) (hC : ∀ l s, C (GP l s)) (hg : ∀ l s, EG X F tg g ws rx (GP l s) (Gt l s))
    (hb : ∀ l x, BX X F body tb (fun s => Gt l s x) GP GP r (f l x)) (hr : ∀ l, BX X F rest tr (GP l) GN GL r (out l)) (hA : Inhabited A) (hS : Inhabited S) (hs : ∀ x, foldedSetIterable e X.env x = pure x := by intro _; rfl) :
    BX X F (.For tg e body [] pos :: rest) (tSeq (tFor wi g tb) tr) G GN GL r (bnd mi fun xs => lpM (forM_ xs f l0) out) :=
  ⟨pss_cons (ps_for hp hc hi.pi (hg l0 hS.default).pg (hb l0 hA.default).ps hs) (hr l0).ps, fun T t σ s H D h0 q => by
    refine hi.go T t σ s H _ h0 (wp_mono (wp_bnd q) (fun xs s1 q1 J gv hv H1 src at1 => ?_) fun e s z => z σ)
    refine ⟨fun i m σ H => m = xs.length - i ∧ i ≤ xs.length ∧ ∃ l s, At F (gv ++ T) (hv ++ t) (GP l s) σ H ∧ ((lpM (forM_ (xs.drop i) f l) out : SM S (Fl N L R)) s).wp (FlP F T t GN GL r D) (XA F),
      ⟨xs.length, by simp, Nat.zero_le _, l0, s1, at1.weak (hw s1), by simpa using q1⟩, ?_⟩
    rintro i m σ H ⟨rfl, hi, l, s, at2, q2⟩
    by_cases hlt : i < xs.length
    · refine .inr ⟨src.go (T1 := []) (t1 := []) (hC l s) rfl at2 hlt, fun σ' H' => ∃ l s, At F (gv ++ T) (hv ++ t) (GP l s) σ' H' ∧ ((lpM (forM_ (xs.drop (i + 1)) f l) out : SM S (Fl N L R)) s).wp (FlP F T t GN GL r D) (XA F),
        fun σ' H' ⟨l, s, at3, q3⟩ => ⟨xs.length - (i + 1), by omega, rfl, hlt, l, s, at3, q3⟩, fun x H' hy => ?_⟩
      have at3 := src.yld (T1 := []) (t1 := []) (hC l s) rfl at2 hy (List.getElem?_eq_getElem hlt)
      refine (hg l s).go _ _ σ H' x xs[i] _ at3 fun σ2 at4 _ _ => ?_
      rw [List.drop_eq_getElem_cons hlt] at q2
      refine (hb l xs[i]).go (gv ++ T) (hv ++ t) σ2 s H' _ at4 ?_
      refine wp_mono (wp_bnd (wp_bnd q2)) (fun fl s3 q3 => ?_) fun _ _ z => z
      cases fl with
      | nx l' => exact fun σ' H' z => ⟨l', s3, z, bnd_wp q3⟩
      | ct l' => exact fun σ' H' z => ⟨l', s3, z, bnd_wp q3⟩
      | bk l' => exact fun σ' H' z => (hr l').go T t σ' s3 H' D (At.drop src.len z) q3
      | rt b => exact q3
    · have e : i = xs.length := by omega
      subst e
      refine .inl ⟨src.stop (T1 := []) (t1 := []) (hC l s) rfl at2 (Nat.le_refl _), ?_⟩
      rw [List.drop_length] at q2
      exact (hr l).go T t σ s H D (At.drop src.len at2) (wp_bnd q2)⟩
end
end Td
set_option Elab.async false
set_option linter.all false
set_option maxRecDepth 100000
set_option maxHeartbeats 4000000
namespace Td
open PySem PySem.Spec PyProof.Rows L2
def FC.c {K : PySem.W.Frag} {S : Type} (H : Hp) (I M0 : List Addr) : FC K S := ⟨H, I, M0, fun _ => [], fun _ _ _ _ => True⟩
theorem At.re {K : PySem.W.Frag} {S S' : Type} {F : FC K S} {F' : FC K S'} {T : List Slot} {t : List V} {G : List Slot} {σ : L2.St} {H : Hp} (h : At F T t G σ H) (e1 : F'.H0 = F.H0) (e2 : F'.I = F.I) (e3 : F'.M0 = F.M0) : At F' T t G σ H := by
  obtain ⟨A1, A2, h⟩ := h
  obtain ⟨h1, h2, h3⟩ := h
  exact ⟨A1, A2, by rw [e3]; exact h1, by rw [e3]; exact h2, ⟨h3.nd, by rw [e3]; exact h3.out, by rw [e1, e2]; exact h3.new, by rw [e2]; exact h3.has, by rw [e1, e2]; exact h3.stay, by rw [e1, e2, e3]; exact h3.m0, by rw [e3]; exact h3.tm, h3.tb⟩⟩
def SpG (K : PySem.W.Frag) {S U W : Type} (n : Nat) (Ps : U → S → List V → List Slot) (ioT : S → List Slot) (iov : List V → List V) (r : Rp W) (f : U → SM S W) : Sp := fun vs H Q E =>
  ∃ (u : U) (s : S) (I M0 : List Addr), vs.length = n ∧ At (FC.c (K := K) (S := S) H I M0) [] [] (Ps u s vs) (vs.map some) H ∧
    (f u s).wp (fun b s' => ∀ v H', At (FC.c (K := K) (S := S) H I M0) (.is r b :: ioT s') (v :: iov vs) [] [] H' → Q v H')
      (fun e s' => ∀ d H', At (FC.c (K := K) (S := S) H I M0) (.is rXd e.pay :: ioT s') (.ref d :: iov vs) [] [] H' → E (.ref (He.ga K e.cls)) (some d) H')
/-- a def without an in/out argument -/
abbrev SpP (K : PySem.W.Frag) {U W : Type} (n : Nat) (Ps : U → List Slot) (r : Rp W) (f : U → SM Unit W) : Sp := SpG K (S := Unit) n (fun u _ _ => Ps u) (fun _ => []) (fun _ => []) r f

/-- what stands in a representation does not hang on M -/
def Rp.Clo {T : Type} (r : Rp T) : Prop := ∀ {K M M' H v a B}, r.rel K M H v a B → r.rel K M' H v a B
theorem clo_int : rInt.Clo := fun h => h
theorem clo_bool : rBool.Clo := fun h => h
theorem clo_str : rStr.Clo := fun h => h
theorem clo_non : rNon.Clo := fun h => h
theorem clo_pair {T U : Type} {r : Rp T} {q : Rp U} (c1 : r.Clo) (c2 : q.Clo) : (rPair r q).Clo := by
  rintro K M M' H v a B ⟨p, v1, v2, B1, B2, e, hT, h1, h2, eB⟩
  exact ⟨p, v1, v2, B1, B2, e, hT, c1 h1, c2 h2, eB⟩
theorem clo_opt {T : Type} {r : Rp T} (c : r.Clo) : (rOpt r).Clo := by
  intro K M M' H v a B h
  cases a with
  | none => exact h
  | some a => exact c h
theorem clo_list {T : Type} {r : Rp T} (c : r.Clo) : (rList r).Clo := by
  rintro K M M' H v a B ⟨p, vs, A, e, hp, hA, eB⟩
  exact ⟨p, vs, A, e, hp, hA.imp fun _ _ _ _ h => c h, eB⟩
theorem clo_pay : rPay.Clo := by
  intro K M M' H v a B h
  cases a with
  | non => exact h
  | int i => exact h
  | pair a b => exact clo_pair clo_int clo_int h
  | lsI l => exact clo_list clo_int h
  | lsP l => exact clo_list (clo_pair clo_int clo_int) h
  | str x => exact h

theorem clo_xd : rXd.Clo := by
  rintro K M M' H v a B ⟨d, w, C, e, hd, h, eB⟩
  exact ⟨d, w, C, e, hd, clo_pay h, eB⟩

section
variable {K : PySem.W.Frag} {S S' : Type} {F : FC K S} {T : List Slot} {t : List V} {G : List Slot} {σ : L2.St} {H H' : Hp}
/-- behind a call: what it gave, and all that stood -/
theorem At.back {U : Type} {r : Rp U} {b : U} {v : V} {M0' : List Addr} {A1 A2 : List Addr} (h : AtP F T t G σ H A1 A2) (hx : At (FC.c (K := K) (S := S') H [] M0') [.is r b] [v] [] [] H')
    (hM : r.Clo ∨ ∀ p, p ∈ A1 ++ A2 ++ F.M0 → p ∈ M0') : At F (.is r b :: T) (v :: t) G σ H' := by
  obtain ⟨X1, X2, hx⟩ := hx
  obtain ⟨B, A', eA, ⟨v', ev, hr⟩, ht⟩ := AtS.cons_inv hx.tmp
  cases ev
  cases ht
  have e2 : X2 = [] := by
    have := hx.loc
    cases this; rfl
  subst e2 eA
  have gx := hx.good
  have nB : ∀ p, p ∈ B → H p = none := fun p hp => (gx.new p (by simpa using hp)).resolve_right (by intro z; cases z)
  have st : ∀ p o, H p = some o → p ∉ tabL K → H' p = some o := fun p o e nt => gx.stay p o e (by intro z; cases z) nt
  have ndB : B.Nodup := by simpa using gx.nd
  have tr : ∀ p, p ∈ A1 ++ A2 ++ F.M0 → H p ≠ none := fun p hp e => by
    rcases List.mem_append.mp hp with hp | hp
    · rcases List.mem_append.mp hp with hp | hp
      · obtain ⟨o, z, _⟩ := h.tmp.trk p hp; rw [e] at z; cases z
      · obtain ⟨o, z, _⟩ := h.loc.trk p hp; rw [e] at z; cases z
    · obtain ⟨o, z, _⟩ := h.good.m0H p hp
      rw [e] at z; cases z
  have dis : ∀ p, p ∈ B → p ∉ A1 ++ A2 ++ F.M0 := fun p hp z => tr p z (nB p hp)
  have hM' : ∀ x, x ∈ (B ++ A1) ++ A2 ++ F.M0 → x ∈ A1 ++ A2 ++ F.M0 ∨ H x = none := fun x hx => by
    by_cases hB : x ∈ B
    · exact .inr (nB x hB)
    · left
      simp only [List.mem_append] at *
      grind
  refine ⟨B ++ A1, A2, .cons ⟨v, rfl, ?_⟩ ((h.tmp.grow hM').keep fun p o e z => st p o e (h.good.nt e z (fun x hx => List.mem_append_right _ hx) fun x hx => List.mem_append_left _ hx)), (h.loc.grow hM').keep fun p o e z => st p o e (h.good.nt e z (fun x hx => List.mem_append_right _ hx) fun x hx => List.mem_append_right _ hx), ?_⟩
  · rcases hM with c | hM
    · exact c hr
    · refine r.grow hr fun p hp => .inl ?_
      have z := hM p
      show p ∈ (B ++ []) ++ [] ++ M0'
      simp only [List.mem_append] at *
      grind
  · refine ⟨?_, fun p hp => ?_, fun p hp => ?_, fun p hp => ?_, fun p o e hI ht => st p o (h.good.stay p o e hI ht) ht, h.good.m0, h.good.tm, gx.tb⟩
    · have := h.good.nd
      have d := dis
      simp only [List.nodup_append, List.mem_append] at *
      grind
    · have := h.good.out p
      have d := dis p
      simp only [List.mem_append] at *
      grind
    · by_cases hB : p ∈ B
      · exact .inl (h.good.fresh (nB p hB)).1
      · exact h.good.new p (by simp only [List.mem_append] at *; grind)
    · obtain ⟨o, e, z⟩ := h.good.has p hp
      exact ⟨o, st p o e (h.good.ntI hp), z⟩
/-- arguments as a callee's slots -/
inductive Ent (G : List Slot) : List Arg → List Slot → Prop
  | nil : Ent G [] []
  | sh {arg L P U} {r : Rp U} {a : U} (rd : Rdd G arg r a) (h : Ent G L P) : Ent G (arg :: L) (.is (sh r) a :: P)
  | cp {arg L P U} {r : Rp U} {a : U} (c : r.Cp) (rd : Rdd G arg r a) (h : Ent G L P) : Ent G (arg :: L) (.is r a :: P)
inductive EntS (G : List Slot) : List Arg → List Slot → Prop
  | nil : EntS G [] []
  | sh {arg L P U} {r : Rp U} {a : U} (rd : RdS G arg r a) (h : EntS G L P) : EntS G (arg :: L) (.is (sh r) a :: P)
  | cp {arg L P U} {r : Rp U} {a : U} (c : r.Cp) (rd : RdS G arg r a) (h : EntS G L P) : EntS G (arg :: L) (.is r a :: P)
theorem rel_tab {U : Type} {r : Rp U} {v : V} {a : U} {B A1 A2 : List Addr} (g : Good F H (A1 ++ A2)) (h : r.rel K (A1 ++ A2 ++ F.M0) H v a B) : r.rel K (tabL K) H v a B := r.grow h fun p hp => .inl (List.mem_append_right _ (g.tm p hp))
theorem ent_at {ts vs : List V} {L : List Arg} {A1 A2 : List Addr} (h : AtP F ((tmps L).reverse ++ T) (ts.reverse ++ t) G σ H A1 A2) (av : ArgV σ L ts vs) {P : List Slot} (he : Ent G L P) : AtS K (tabL K) H P (vs.map some) [] := by
  have key : ∀ {L1 : List Arg} {P : List Slot}, Ent G L1 P → ∀ (k : Nat), L1 = L.drop k → AtS K (tabL K) H P ((vs.drop k).map some) [] := by
    intro L1 P he
    induction he with
    | nil =>
      intro k e
      have hk : L.length ≤ k := by
        have := congrArg List.length e
        simp at this
        omega
      rw [List.drop_of_length_le (by rw [(argV_len av).1]; exact hk)]
      exact .nil
    | @sh arg L1 P U r a rd _ ih =>
      intro k e
      have ek : L[k]? = some arg := by
        have := congrArg (fun l => l[0]?) e
        simpa using this.symm
      obtain ⟨v, B, ev, hr⟩ := rddM h av ek rd
      have e2 : L1 = L.drop (k + 1) := by
        have := congrArg List.tail e
        simpa using this
      have z := ih (k + 1) e2
      obtain ⟨hk, ev'⟩ := List.getElem?_eq_some_iff.mp ev
      rw [List.drop_eq_getElem_cons hk, ev']
      exact .cons (B := []) ⟨v, rfl, rfl, B, rel_tab h.good hr, fun p hp => h.good.tb.own (r.trk hr p hp)⟩ z
    | @cp arg L1 P U r a c rd _ ih =>
      intro k e
      have ek : L[k]? = some arg := by
        have := congrArg (fun l => l[0]?) e
        simpa using this.symm
      obtain ⟨v, B, ev, hr⟩ := rddM h av ek rd
      have e2 : L1 = L.drop (k + 1) := by
        have := congrArg List.tail e
        simpa using this
      have z := ih (k + 1) e2
      obtain ⟨hk, ev'⟩ := List.getElem?_eq_some_iff.mp ev
      rw [List.drop_eq_getElem_cons hk, ev']
      have eB := c hr
      subst eB
      exact .cons (B := []) ⟨v, rfl, rel_tab h.good hr⟩ z
  exact key he 0 rfl
theorem entS_at {ts vs : List V} {L : List Arg} {A1 A2 : List Addr} (h : AtP F ((tmps L).reverse ++ T) (ts.reverse ++ t) G σ H A1 A2) (av : ArgV σ L ts vs) {P : List Slot} (he : EntS G L P) : AtS K (A1 ++ A2 ++ F.M0) H P (vs.map some) [] := by
  have key : ∀ {L1 : List Arg} {P : List Slot}, EntS G L1 P → ∀ (k : Nat), L1 = L.drop k → AtS K (A1 ++ A2 ++ F.M0) H P ((vs.drop k).map some) [] := by
    intro L1 P he
    induction he with
    | nil =>
      intro k e
      have hk : L.length ≤ k := by
        have := congrArg List.length e
        simp at this
        omega
      rw [List.drop_of_length_le (by rw [(argV_len av).1]; exact hk)]
      exact .nil
    | @sh arg L1 P U r a rd _ ih =>
      intro k e
      have ek : L[k]? = some arg := by
        have := congrArg (fun l => l[0]?) e
        simpa using this.symm
      obtain ⟨v, ev, hr⟩ := rdS h av ek rd
      have e2 : L1 = L.drop (k + 1) := by
        have := congrArg List.tail e
        simpa using this
      have z := ih (k + 1) e2
      obtain ⟨hk, ev'⟩ := List.getElem?_eq_some_iff.mp ev
      rw [List.drop_eq_getElem_cons hk, ev']
      exact .cons (B := []) ⟨v, rfl, hr⟩ z
    | @cp arg L1 P U r a c rd _ ih =>
      intro k e
      have ek : L[k]? = some arg := by
        have := congrArg (fun l => l[0]?) e
        simpa using this.symm
      obtain ⟨v, ev, _, B, hr, _⟩ := rdS h av ek rd
      have e2 : L1 = L.drop (k + 1) := by
        have := congrArg List.tail e
        simpa using this
      have z := ih (k + 1) e2
      obtain ⟨hk, ev'⟩ := List.getElem?_eq_some_iff.mp ev
      rw [List.drop_eq_getElem_cons hk, ev']
      have eB := c hr
      subst eB
      exact .cons (B := []) ⟨v, rfl, hr⟩ z
  exact key he 0 rfl
theorem good_c {M0 : List Addr} (h : ∀ p, p ∈ M0 → ∃ o, H p = some o ∧ isTup o = false) (tm : ∀ p, p ∈ tabL K → p ∈ M0) (tb : Tb K H) : Good (FC.c (K := K) (S := S') H [] M0) H [] :=
  ⟨.nil, fun _ z => (nomatch z), fun _ z => (nomatch z), fun _ z => (nomatch z), fun _ _ e _ _ => e, fun p hp => ⟨h p hp, fun z => (nomatch z)⟩, tm, tb⟩
theorem AtP.m_trk {A1 A2 : List Addr} (h : AtP F T t G σ H A1 A2) : ∀ p, p ∈ A1 ++ A2 ++ F.M0 → ∃ o, H p = some o ∧ isTup o = false := fun p hp => by
  rcases List.mem_append.mp hp with hp | hp
  · rcases List.mem_append.mp hp with hp | hp
    · exact own_weak (h.tmp.trk p hp)
    · exact own_weak (h.loc.trk p hp)
  · exact h.good.m0H p hp
/-- the reading of a call of a def without an in/out argument -/
theorem go_call {U W A : Type} {n : Nat} {Ps : U → List Slot} {r : Rp W} {f : U → SM Unit W} {fa : A → SM Unit W} {E : L2.St → XK} {ta : TA} {G G' : S → List Slot} {LA : A → List Arg} {mA : SM S A} (u : A → U) (hf : ∀ a, fa a = f (u a)) (h : GA F ta G G' LA mA) (hn : ∀ a, (LA a).length = n)
    (he : (r.Clo ∧ ∀ a s, Ent (G' s) (LA a) (Ps (u a))) ∨ ∀ a s, EntS (G' s) (LA a) (Ps (u a))) (hW : ∀ c d σ H, F.W c d σ H → E σ c d H) (hw : ∀ s, Weak (G' s) (F.io s)) :
    GE F (tCallSD (SpP K n Ps r f) [] E ta) G G' r (bnd mA fun a => lft (fa a)) := by
  intro T t σ s H Q h0 q
  have ef : fa = fun a => f (u a) := funext hf
  subst ef
  refine h T t σ s H _ h0 (wp_mono (wp_bnd q) (fun a s1 q1 ts vs H1 at1 av => ?_) fun _ _ z => z)
  have q2 := wp_lft q1
  have lv : (vs ++ ([] : List V)).length = n := by rw [List.append_nil, (argV_len av).1, hn]
  obtain ⟨A1, A2, at1⟩ := at1
  have run : ∀ (M0 : List Addr), (∀ p, p ∈ M0 → ∃ o, H1 p = some o ∧ isTup o = false) → (∀ p, p ∈ tabL K → p ∈ M0) → AtS K M0 H1 (Ps (u a)) (vs.map some) [] → (r.Clo ∨ ∀ p, p ∈ A1 ++ A2 ++ F.M0 → p ∈ M0) → SpP K n Ps r f (vs ++ []) H1 Q (E σ) := by
    intro M0 hM0 htm hat hor
    have hat2 : AtS K ([] ++ [] ++ (FC.c (K := K) (S := Unit) H1 [] M0).M0) H1 (Ps (u a)) ((vs ++ []).map some) [] := by
      rw [List.append_nil vs]
      exact hat
    refine ⟨u a, (), [], M0, lv, ⟨[], [], .nil, hat2, good_c hM0 htm at1.good.tb⟩, wp_mono q2 (fun b _ q3 v H' hx => ?_) (fun e _ q3 d H' hx => ?_)⟩
    · have z := At.back at1 hx hor
      exact q3 v H' (At.dropU (by simp [(argV_len av).2]) z)
    · have z := At.back at1 hx (.inl clo_xd)
      have z2 := (At.dropU (by simp [(argV_len av).2]) z).weak (hw s1)
      refine hW _ _ σ _ (q3 d H' ?_)
      exact At.dropM (T0 := [_]) (t0 := [.ref d]) (T := []) (t := []) rfl (T1 := T) (t1 := t) (by obtain ⟨B1, B2, hz⟩ := h0; have := hz.tmp.length; simpa using this) (by simpa using z2)
  rcases he with ⟨c, he⟩ | he
  · exact run (tabL K) (fun _ z => at1.good.tb.weak z) (fun _ z => z) (ent_at at1 av (he a s1)) (.inl c)
  · exact run (A1 ++ A2 ++ F.M0) at1.m_trk (fun p hp => List.mem_append_right _ (at1.good.tm p hp)) (entS_at at1 av (he a s1)) (.inr fun _ z => z)
end
section
variable {X : Cx} {S : Type} {F : FC X.K S} {U W A : Type} {n k : Nat} {Ps : U → List Slot} {r : Rp W} {f : U → SM Unit W} {E : XK} {ta : TA} {G G' : S → List Slot} {LA : A → List Arg} {mA : SM S A} {CX : CXT} {fA : Addr} {fd : FuncData} {ps : List Str} {x : Str} {p pos : Pos} {e : Expr} {es : List Expr}
theorem ex_call {fm : A → SM Unit W} (u : A → U) (FO : FnOk X.prog X.w X.K X.mg X.base CX k fA fd ps (SpP X.K n Ps r f)) (hr : Room k X.A) (hg : Gl X x) (hm : X.mg x = some (.ref fA)) (hk : PySem.W.keepIn X.K (.ref fA) = true) (hb : Binds X.K fd ps []) (hx : Passes CX X E)
    (h : EA X F (e :: es) ta G G' LA mA) (hn : ∀ a, (LA a).length = n) (he : (r.Clo ∧ ∀ a s, Ent (G' s) (LA a) (Ps (u a))) ∨ ∀ a s, EntS (G' s) (LA a) (Ps (u a))) (hW : ∀ c d σ H, F.W c d σ H → E c d H) (hw : ∀ s, Weak (G' s) (F.io s))
    (hf : ∀ a, fm a = f (u a) := by intro _; rfl)
    (hst : PySem.W.isStarred e = false := by rfl) (hpl : (backTo pos (starEach es X.env)).any (·.1) = false := by rfl) (hdb : (x == ("__debug__" : Str)) = false := by decide) :
    EX X F (.Call (.Name x p) (e :: es) [] pos) (tCall (SpP X.K n Ps r f) [] E ta) G G' r (bnd mA fun a => lft (fm a)) :=
  ⟨pe_call FO hr hg hm hk hb .nil hx h.pa (hdb := hdb) (he := star1 hst) (hpl := hpl), go_call (E := fun _ => E) u hf h.go hn he hW hw⟩
end
end Td
set_option Elab.async false
set_option linter.all false
set_option maxRecDepth 100000
set_option maxHeartbeats 4000000
namespace Td
open PySem PySem.Spec PyProof.Rows L2
def runB {S R : Type} (m : SM S (Fl Empty Empty R)) : SM S R := bnd m fun fl => match fl with
  | .rt b => ret b
  | .nx n => n.elim
  | .bk l => l.elim
  | .ct l => l.elim
/-- a def that may come to its end: None -/
def runP {S : Type} (m : SM S (Fl Unit Empty Unit)) : SM S Unit := bnd m fun fl => match fl with
  | .rt b => ret b
  | .nx n => ret n
  | .bk l => l.elim
  | .ct l => l.elim
def uns (n : Nat) : List Slot := List.replicate n .un
section
variable {K : PySem.W.Frag} {S : Type}
theorem at_start {F : FC K S} {P : List Slot} {vs : List V} {H : Hp} {N : List Str} (h : At F [] [] P (vs.map some) H) : At F [] [] (P ++ uns (N.length - vs.length)) (start N vs) H := by
  obtain ⟨A1, A2, h⟩ := h
  have z : AtS K (A1 ++ A2 ++ F.M0) H (uns (N.length - vs.length)) (List.replicate (N.length - vs.length) none) [] := by
    have y := AtS.un (K := K) (H := H) (M := A1 ++ A2 ++ F.M0) (s := List.replicate (N.length - vs.length) (none : Option V))
    simpa [uns] using y
  have w := h.loc.append z
  rw [List.append_nil] at w
  exact ⟨A1, A2, h.tmp, w, h.good⟩
theorem AtS.uns_nil {M : List Addr} {H : Hp} : ∀ {n : Nat} {s : List (Option V)} {A : List Addr}, AtS K M H (uns n) s A → A = []
  | 0, _, _, h => by cases h; rfl
  | n + 1, _, _, h => by
    unfold uns at h
    rw [List.replicate_succ] at h
    cases h with
    | @cons _ _ B _ _ A h t =>
      rw [show B = [] from h, AtS.uns_nil (n := n) t]; rfl
theorem at_exit {F : FC K S} {T : List Slot} {t : List V} {n : Nat} {σ : L2.St} {H : Hp} (h : At F T t (uns n) σ H) : At F T t [] [] H := by
  obtain ⟨A1, A2, h⟩ := h
  have e := AtS.uns_nil h.loc
  subst e
  exact ⟨A1, [], h.tmp, .nil, h.good⟩
/-- the in/out thing in slot 0 becomes a temp, the slots go -/
theorem at_exitIo {F : FC K S} {g : Slot} {x v : V} {U : Type} {r : Rp U} {a : U} {n : Nat} {σ : L2.St} {H : Hp} (h : At F [g] [x] (.pn v r a :: uns n) σ H) : At F [g, .is r a] [x, v] [] [] H := by
  obtain ⟨A1, A2, h⟩ := h
  have hl := h.loc
  cases hl with
  | @cons _ y B _ s A hs ht =>
    obtain ⟨ey, hr⟩ := hs
    have e := AtS.uns_nil ht
    subst e
    obtain ⟨C, A', eA, h1, h2⟩ := AtS.cons_inv h.tmp
    cases h2
    subst eA
    have hM : ∀ p, p ∈ (C ++ (B ++ [])) ++ [] ++ F.M0 → p ∈ (C ++ []) ++ (B ++ []) ++ F.M0 ∨ H p = none := fun p hp => .inl (by simp only [List.append_nil, List.mem_append] at *; grind)
    exact ⟨C ++ (B ++ []), [], .cons (Slot.ok_grow h1 hM) (.cons ⟨v, rfl, r.grow hr hM⟩ .nil), .nil, h.good.sub (by simpa using h.good.nd) fun p hp => by simp only [List.append_nil, List.mem_append] at *; grind⟩
end
section
variable {P : Program} {w : World} {K : PySem.W.Frag} {mg : Str → Option Value} {base : Heap} {x qual : Str} {params : Arguments} {body : List Stmt} {scope : Scope} {f : Addr} {fd : FuncData} {N ps : List Str} {k : Nat}
/-- a def without an in/out argument: by its body -/
theorem fn_pure {U W : Type} {Ps : U → List Slot} {r : Rp W} {fm : U → SM Unit W} (FD : FunD K x qual params body scope [] [] f fd) (Sc : FnScope N ps scope) (out : U → SM Unit (Fl Empty Empty W)) (hfm : ∀ u, fm u = runB (out u))
    (hbody : ∀ (u : U) (cdv : Value) (A : Around) (outer : List Env) (s : Shared) (H : Hp) (E : XK), Room k (A.deeper (envOfC qual scope s.heap.objs.size f cdv)) →
      ∀ F : FC K Unit, F.io = (fun _ => uns N.length) → F.W = (fun c d _ H' => E c d H') → ∃ t, BX (cxOf (L2.CX P w) P w K mg base N qual scope f cdv A outer s H E) F body t (fun _ => Ps u ++ uns (N.length - ps.length)) (fun (e : Empty) _ => e.elim) (fun (e : Empty) _ => e.elim) r (out u)) :
    FnOk P w K mg base (L2.CX P w) (k + 1) f fd ps (SpP K ps.length Ps r fm) := by
  refine FD.ok Sc (fun vs H Q E h => ?_) (fun cdv A outer s H vs Q E hr h => ?_)
  · obtain ⟨u, _, _, _, h, _⟩ := h
    exact h
  · obtain ⟨u, s0, I, M0, hl, at0, q⟩ := h
    obtain ⟨t, hB⟩ := hbody u cdv A outer s H E hr ⟨H, I, M0, fun _ => uns N.length, fun c d _ H' => E c d H'⟩ rfl rfl
    refine ⟨t, hB.ps, hB.go [] [] (start N vs) s0 H _ ?_ ?_⟩
    · have z := at_start (N := N) at0
      rw [hl] at z
      exact z.re rfl rfl rfl
    · rw [hfm u] at q
      refine wp_mono (wp_bnd q) (fun fl s1 q1 => ?_) (fun e s1 q1 σ d H' h1 => q1 d H' ((at_exit h1).re rfl rfl rfl))
      cases fl with
      | nx n => exact n.elim
      | bk n => exact n.elim
      | ct n => exact n.elim
      | rt b => exact fun v σ' H' h1 => q1 v H' ((at_exit h1).re rfl rfl rfl)
theorem fn_proc {U : Type} {Ps : U → List Slot} {fm : U → SM Unit Unit} (FD : FunD K x qual params body scope [] [] f fd) (Sc : FnScope N ps scope) (out : U → SM Unit (Fl Unit Empty Unit)) (hfm : ∀ u, fm u = runP (out u))
    (hbody : ∀ (u : U) (cdv : Value) (A : Around) (outer : List Env) (s : Shared) (H : Hp) (E : XK), Room k (A.deeper (envOfC qual scope s.heap.objs.size f cdv)) →
      ∀ F : FC K Unit, F.io = (fun _ => uns N.length) → F.W = (fun c d _ H' => E c d H') → ∃ t, BX (cxOf (L2.CX P w) P w K mg base N qual scope f cdv A outer s H E) F body t (fun _ => Ps u ++ uns (N.length - ps.length)) (fun (_ : Unit) _ => uns N.length) (fun (e : Empty) _ => e.elim) rNon (out u)) :
    FnOk P w K mg base (L2.CX P w) (k + 1) f fd ps (SpP K ps.length Ps rNon fm) := by
  refine FD.ok Sc (fun vs H Q E h => ?_) (fun cdv A outer s H vs Q E hr h => ?_)
  · obtain ⟨u, _, _, _, h, _⟩ := h
    exact h
  · obtain ⟨u, s0, I, M0, hl, at0, q⟩ := h
    obtain ⟨t, hB⟩ := hbody u cdv A outer s H E hr ⟨H, I, M0, fun _ => uns N.length, fun c d _ H' => E c d H'⟩ rfl rfl
    refine ⟨t, hB.ps, hB.go [] [] (start N vs) s0 H _ ?_ ?_⟩
    · have z := at_start (N := N) at0
      rw [hl] at z
      exact z.re rfl rfl rfl
    · rw [hfm u] at q
      refine wp_mono (wp_bnd q) (fun fl s1 q1 => ?_) (fun e s1 q1 σ d H' h1 => q1 d H' ((at_exit h1).re rfl rfl rfl))
      cases fl with
      | nx n => exact fun σ' H' h1 => q1 .non H' ((At.push (r := rNon) (a := ()) (v := V.non) (at_exit h1) fun _ => ⟨rfl, rfl⟩).re rfl rfl rfl)
      | bk n => exact n.elim
      | ct n => exact n.elim
      | rt b => exact fun v σ' H' h1 => q1 v H' ((at_exit h1).re rfl rfl rfl)
/-- a def whose first argument is in/out -/
abbrev SpI (K : PySem.W.Frag) {S U W : Type} (n : Nat) (rio : Rp S) (Pr : U → List Slot) (r : Rp W) (f : U → SM S W) : Sp := SpG K n (fun u s vs => .pn (vs.headD .non) rio s :: Pr u) (fun s => [.is rio s]) (fun vs => [vs.headD .non]) r f
theorem fn_io {S U W : Type} {rio : Rp S} {Pr : U → List Slot} {r : Rp W} {fm : U → SM S W} (FD : FunD K x qual params body scope [] [] f fd) (Sc : FnScope N ps scope) (out : U → SM S (Fl Empty Empty W)) (hfm : ∀ u, fm u = runB (out u))
    (hbody : ∀ (u : U) (v0 : V) (cdv : Value) (A : Around) (outer : List Env) (s : Shared) (H : Hp) (E : XK), Room k (A.deeper (envOfC qual scope s.heap.objs.size f cdv)) →
      ∀ F : FC K S, F.io = (fun s => .pn v0 rio s :: uns (N.length - 1)) → F.W = (fun c d _ H' => E c d H') → ∃ t, BX (cxOf (L2.CX P w) P w K mg base N qual scope f cdv A outer s H E) F body t (fun s => .pn v0 rio s :: (Pr u ++ uns (N.length - ps.length))) (fun (e : Empty) _ => e.elim) (fun (e : Empty) _ => e.elim) r (out u)) :
    FnOk P w K mg base (L2.CX P w) (k + 1) f fd ps (SpI K ps.length rio Pr r fm) := by
  refine FD.ok Sc (fun vs H Q E h => ?_) (fun cdv A outer s H vs Q E hr h => ?_)
  · obtain ⟨u, _, _, _, h, _⟩ := h
    exact h
  · obtain ⟨u, s0, I, M0, hl, at0, q⟩ := h
    obtain ⟨t, hB⟩ := hbody u (vs.headD .non) cdv A outer s H E hr ⟨H, I, M0, fun s => .pn (vs.headD .non) rio s :: uns (N.length - 1), fun c d _ H' => E c d H'⟩ rfl rfl
    refine ⟨t, hB.ps, hB.go [] [] (start N vs) s0 H _ ?_ ?_⟩
    · have z := at_start (N := N) at0
      rw [hl] at z
      exact z.re rfl rfl rfl
    · rw [hfm u] at q
      refine wp_mono (wp_bnd q) (fun fl s1 q1 => ?_) (fun e s1 q1 σ d H' h1 => q1 d H' ((at_exitIo h1).re rfl rfl rfl))
      cases fl with
      | nx n => exact n.elim
      | bk n => exact n.elim
      | ct n => exact n.elim
      | rt b => exact fun v σ' H' h1 => q1 v H' ((at_exitIo h1).re rfl rfl rfl)
end
section
variable {K : PySem.W.Frag} {S : Type} {F : FC K S} {T : List Slot} {t : List V} {G : List Slot} {σ : L2.St} {H H' : Hp}
theorem At.backIo {U S' : Type} {r : Rp U} {b : U} {v w : V} {M0' A1 A2 P1 P2 C : List Addr} {j : Nat} {Sio : Type} {rio : Rp Sio} {s' : Sio} (h : AtP F T t G σ H A1 A2) (eA : A2 = P1 ++ (C ++ P2))
    (back : ∀ (M' : List Addr) (H' : Hp) (g' : Slot) (x' : Option V) (B' : List Addr), (∀ {g x B}, Slot.ok K (A1 ++ A2 ++ F.M0) H g x B → (∀ p, p ∈ B → p ∈ P1 ∨ p ∈ P2) → Slot.ok K M' H' g x B) → g'.ok K M' H' x' B' → AtS K M' H' (G.set j g') (σ.set j x') (P1 ++ (B' ++ P2)))
    (ew : σ[j]? = some (some w)) (tC : ∀ p, p ∈ C → ∃ o, H p = some o ∧ isOwn o = true) (hx : At (FC.c (K := K) (S := S') H C M0') [.is r b, .is rio s'] [v, w] [] [] H') (cio : rio.Clo)
    (hM : r.Clo ∨ ∀ p, p ∈ A1 ++ (P1 ++ P2) ++ F.M0 → p ∈ M0') : At F (.is r b :: T) (v :: t) (G.set j (.pn w rio s')) σ H' := by
  obtain ⟨X1, X2, hx⟩ := hx
  obtain ⟨B, A', eX, ⟨v', ev, hr⟩, ht⟩ := AtS.cons_inv hx.tmp
  obtain ⟨D, A'', eA'', ⟨w', ew', hio⟩, ht2⟩ := AtS.cons_inv ht
  cases ev
  cases ew'
  cases ht2
  have e2 : X2 = [] := by
    have := hx.loc
    cases this; rfl
  subst e2 eX eA'' eA
  have gx := hx.good
  have nd := h.good.nd
  have nB : ∀ p, p ∈ B ++ D → H p = none ∨ p ∈ C := fun p hp => gx.new p (by simpa using hp)
  have st : ∀ p o, H p = some o → p ∉ C → p ∉ tabL K → H' p = some o := fun p o e hp nt => gx.stay p o e hp nt
  have ndB : (B ++ D).Nodup := by simpa using gx.nd
  have tr := h.m_trk
  have trn : ∀ p, p ∈ A1 ++ (P1 ++ (C ++ P2)) ++ F.M0 → H p ≠ none := fun p hp e => by
    obtain ⟨o, z, _⟩ := tr p hp
    rw [e] at z; cases z
  have ndC : ∀ p, p ∈ C → p ∉ A1 ∧ p ∉ P1 ∧ p ∉ P2 := fun p hp => by
    simp only [List.nodup_append, List.mem_append] at nd
    grind
  have outC : ∀ p, p ∈ C → p ∉ F.M0 := fun p hp => h.good.out p (by simp only [List.mem_append]; grind)
  have inBD : ∀ p, p ∈ B ++ D → p ∉ A1 ∧ p ∉ P1 ∧ p ∉ P2 ∧ p ∉ F.M0 := fun p hp => by
    rcases nB p hp with z | z
    · have q := fun y => trn p y z
      simp only [List.mem_append] at q
      grind
    · have q := ndC p z
      have q2 := outC p z
      grind
  have hU : ∀ x, x ∈ (A1 ++ (P1 ++ (C ++ P2)) ++ F.M0) ++ (B ++ D) → x ∈ A1 ++ (P1 ++ (C ++ P2)) ++ F.M0 ∨ H x = none := fun x hx => by
    rcases List.mem_append.mp hx with z | z
    · exact .inl z
    · rcases nB x z with y | y
      · exact .inr y
      · left; simp only [List.mem_append]; grind
  have hV : ∀ x, x ∈ (B ++ A1) ++ (P1 ++ (D ++ P2)) ++ F.M0 → x ∈ (A1 ++ (P1 ++ (C ++ P2)) ++ F.M0) ++ (B ++ D) ∨ H' x = none := fun x hx => .inl (by
    simp only [List.mem_append] at *
    grind)
  have kp : ∀ {B0 : List Addr}, (∀ p, p ∈ B0 → p ∈ A1 ∨ p ∈ P1 ∨ p ∈ P2) → ∀ p o, H p = some o → (p ∉ (A1 ++ (P1 ++ (C ++ P2)) ++ F.M0) ++ (B ++ D) ∨ p ∈ B0 ∨ isTup o = true) → H' p = some o := by
    intro B0 hB0 p o e hp
    by_cases hC : p ∈ C
    · exfalso
      obtain ⟨o', z, zt⟩ := tC p hC
      rw [e] at z
      cases z
      rcases hp with q | q | q
      · exact q (by simp only [List.mem_append]; grind)
      · have := hB0 p q
        have := ndC p hC
        grind
      · rw [own_tup zt] at q; cases q
    · exact st p o e hC (h.good.nt e hp (fun x hx => List.mem_append_left _ (List.mem_append_right _ hx)) fun x hx => by
        have := hB0 x hx
        simp only [List.mem_append]
        grind)
  refine ⟨B ++ A1, P1 ++ (D ++ P2), .cons ⟨v, rfl, ?_⟩ (((h.tmp.grow hU).keep (kp fun p hp => .inl hp)).grow hV), ?_, ?_⟩
  · rcases hM with c | hM
    · exact c hr
    · refine r.grow hr fun p hp => ?_
      show p ∈ (B ++ (D ++ [])) ++ [] ++ M0' ∨ _
      have z := hM p
      left
      simp only [List.mem_append] at *
      grind
  · have z := back ((B ++ A1) ++ (P1 ++ (D ++ P2)) ++ F.M0) H' (.pn w rio s') (some w) D (fun hs sub => Slot.ok_grow (Slot.ok_keep (Slot.ok_grow hs hU) (kp fun p hp => .inr (sub p hp))) hV) ⟨rfl, cio hio⟩
    rwa [set_self ew] at z
  · refine ⟨?_, fun p hp => ?_, fun p hp => ?_, fun p hp => ?_, fun p o e hI ht => ?_, h.good.m0, h.good.tm, gx.tb⟩
    · simp only [List.nodup_append, List.mem_append] at *
      grind
    · have := h.good.out p
      have := inBD p
      simp only [List.mem_append] at *
      grind
    · by_cases hB : p ∈ B ++ D
      · rcases nB p hB with z | z
        · exact .inl (h.good.fresh z).1
        · exact h.good.new p (by simp only [List.mem_append]; grind)
      · exact h.good.new p (by simp only [List.mem_append] at *; grind)
    · obtain ⟨o, e, z⟩ := h.good.has p hp
      by_cases hC : p ∈ C
      · exact gx.has p hC
      · exact ⟨o, st p o e hC (h.good.ntI hp), z⟩
    · by_cases hC : p ∈ C
      · rcases h.good.new p (by simp only [List.mem_append]; grind) with z | z
        · rw [z] at e; cases e
        · exact absurd z hI
      · exact st p o (h.good.stay p o e hI ht) hC ht
/-- the reading of such a call: the first argument is the name in slot j -/
theorem go_callIo {U W A : Type} {n : Nat} {rio : Rp S} {Pr : U → List Slot} {r : Rp W} {f : U → SM S W} {fm : A → SM S W} {E : XK} {ta : TA} {G G' : S → List Slot} {LA : A → List Arg} {mA : SM S A} {w : V} (j : Nat) (u : A → U) (hf : ∀ a, fm a = f (u a)) (cio : rio.Clo) (h : GA F ta G G' (fun a => .v j :: LA a) mA) (hn : ∀ a, (LA a).length + 1 = n)
    (hG : ∀ s, (G' s)[j]? = some (.pn w rio s)) (hS : ∀ s s', (G' s).set j (.pn w rio s') = G' s')
    (he : ∀ a s, EntS (G' s) (LA a) (Pr (u a))) (hW : ∀ c d σ H, F.W c d σ H → E c d H) (hw : ∀ s, Weak (G' s) (F.io s)) :
    GE F (tCall (SpI K n rio Pr r f) [] E ta) G G' r (bnd mA fm) := by
  intro T t σ s H Q h0 q
  have ef : fm = fun a => f (u a) := funext hf
  subst ef
  refine h T t σ s H _ h0 (wp_mono (wp_bnd q) (fun a s1 q1 ts vs H1 at1 av => ?_) fun _ _ z => z)
  obtain ⟨A1, A2, at1⟩ := at1
  have lv : (vs ++ ([] : List V)).length = n := by rw [List.append_nil, (argV_len av).1, List.length_cons, hn]
  obtain ⟨v0, vr, evs, ev0, avr⟩ : ∃ v0 vr, vs = v0 :: vr ∧ σ[j]? = some (some v0) ∧ ArgV σ (LA a) ts vr := by
    cases av with
    | v e h => exact ⟨_, _, rfl, e, h⟩
  subst evs
  have at1' : AtP F ((tmps (LA a)).reverse ++ T) (ts.reverse ++ t) (G' s1) σ H1 A1 A2 := at1
  obtain ⟨x, C, P1, P2, ex, hC, eA, back⟩ := at1.loc.at_ (hG s1)
  rw [ev0] at ex
  cases ex
  obtain ⟨ew, hio⟩ := hC
  have ew' : v0 = w := Option.some.inj ew
  subst ew'
  have tC := rio.trk hio
  have nd := at1.good.nd
  have ndC : C.Nodup := by
    rw [eA] at nd
    simp only [List.nodup_append] at nd
    exact nd.2.1.2.1.1
  have tr := at1.m_trk
  have disC : ∀ p, p ∈ C → p ∉ A1 ++ (P1 ++ P2) ++ F.M0 := fun p hp z => by
    have out := at1.good.out p
    rw [eA] at nd out
    simp only [List.nodup_append, List.mem_append] at *
    grind
  have hent := entS_at at1' avr (he a s1)
  have entry : At (FC.c (K := K) (S := S) H1 C (A1 ++ (P1 ++ P2) ++ F.M0)) [] [] (.pn v0 rio s1 :: Pr (u a)) ((v0 :: vr).map some) H1 := by
    refine ⟨[], C ++ [], .nil, .cons ⟨rfl, cio hio⟩ (hent.grow fun p hp => .inl ?_), ⟨by simpa using ndC, fun p hp => disC p (by simpa using hp), fun p hp => .inr (show p ∈ C by simpa using hp), tC, fun _ _ e _ _ => e, fun p hp => ⟨tr p ?_, fun z => disC p z hp⟩, fun p hp => List.mem_append_right _ (at1.good.tm p hp), at1.good.tb⟩⟩
    · have hp' : p ∈ [] ++ (C ++ []) ++ (A1 ++ (P1 ++ P2) ++ F.M0) := hp
      rw [eA]
      simp only [List.mem_append, List.append_nil, List.nil_append] at *
      grind
    · have hp' : p ∈ A1 ++ (P1 ++ P2) ++ F.M0 := hp
      rw [eA]
      clear back at1 at1' h0 q q1
      simp only [List.mem_append] at *
      grind
  have hM : ∀ p, p ∈ A1 ++ (P1 ++ P2) ++ F.M0 → p ∈ A1 ++ (P1 ++ P2) ++ F.M0 := fun _ z => z
  show SpI K n rio Pr r f (v0 :: vr ++ []) H1 Q E
  rw [List.append_nil]
  rw [List.append_nil] at lv
  refine ⟨u a, s1, C, _, lv, entry, wp_mono q1 (fun b s2 q3 v H' hx => ?_) (fun e s2 q3 d H' hx => ?_)⟩
  · have z := At.backIo at1' eA back ev0 tC hx cio (.inr hM)
    rw [hS] at z
    exact q3 v H' (At.dropU (by simp [(argV_len avr).2]) z)
  · have z := At.backIo at1' eA back ev0 tC hx cio (.inr hM)
    rw [hS] at z
    have z2 := (At.dropU (by simp [(argV_len avr).2]) z).weak (hw s2)
    refine hW _ _ σ _ (q3 d H' ?_)
    exact At.dropM (T0 := [_]) (t0 := [.ref d]) (T := []) (t := []) rfl (T1 := T) (t1 := t) (by obtain ⟨B1, B2, hz⟩ := h0; have := hz.tmp.length; simpa using this) (by simpa using z2)
end
section
variable {X : Cx} {S : Type} {F : FC X.K S} {U W A : Type} {n k : Nat} {rio : Rp S} {Pr : U → List Slot} {r : Rp W} {f : U → SM S W} {E : XK} {ta : TA} {G G' : S → List Slot} {LA : A → List Arg} {mA : SM S A} {CX : CXT} {fa : Addr} {fd : FuncData} {ps : List Str} {x : Str} {p pos : Pos} {e : Expr} {es : List Expr} {w : V}
theorem ex_callIo {fm : A → SM S W} (j : Nat) (u : A → U) (FO : FnOk X.prog X.w X.K X.mg X.base CX k fa fd ps (SpI X.K n rio Pr r f)) (hr : Room k X.A) (hg : Gl X x) (hm : X.mg x = some (.ref fa)) (hk : PySem.W.keepIn X.K (.ref fa) = true) (hb : Binds X.K fd ps []) (hx : Passes CX X E)
    (cio : rio.Clo) (h : EA X F (e :: es) ta G G' (fun a => .v j :: LA a) mA) (hn : ∀ a, (LA a).length + 1 = n) (hG : ∀ s, (G' s)[j]? = some (.pn w rio s)) (hS : ∀ s s', (G' s).set j (.pn w rio s') = G' s')
    (he : ∀ a s, EntS (G' s) (LA a) (Pr (u a))) (hW : ∀ c d σ H, F.W c d σ H → E c d H) (hw : ∀ s, Weak (G' s) (F.io s))
    (hf : ∀ a, fm a = f (u a) := by intro _; rfl)
    (hst : PySem.W.isStarred e = false := by rfl) (hpl : (backTo pos (starEach es X.env)).any (·.1) = false := by rfl) (hdb : (x == ("__debug__" : Str)) = false := by decide) :
    EX X F (.Call (.Name x p) (e :: es) [] pos) (tCall (SpI X.K n rio Pr r f) [] E ta) G G' r (bnd mA fm) :=
  ⟨pe_call FO hr hg hm hk hb .nil hx h.pa (hdb := hdb) (he := star1 hst) (hpl := hpl), go_callIo j u hf cio h.go hn hG hS he hW hw⟩
end
end Td
set_option Elab.async false
set_option linter.all false
set_option maxRecDepth 100000
set_option maxHeartbeats 4000000
namespace Td
open PySem PySem.Spec PyProof.Rows L2
section
variable {X : Cx} {S : Type} {F : FC X.K S} {A : Type} {rx : Rp A} {tg e a b c : Expr} {te ta tb tc : TE} {G G1 G2 G3 G' : S → List Slot} {m : SM S (List A)} {mi m1 m2 m3 : SM S Int} {pos p0 : Pos}
theorem ei_sh (h : EX X F e te G G' (sh (rList rx)) m) (c : rx.Cp) : EI X F tg e (iList X.K te) G G' (fun _ => True) rx m :=
  ⟨pi_list h.pe, fun T t σ s H R h0 q => h.go T t σ s H _ h0 (wp_mono q (fun xs s1 q1 v H1 at1 => by
    obtain ⟨M, B, _, C, ⟨p, vs, D, ev, hp, hD, _⟩, _⟩ := top_rel at1
    subst ev
    exact ⟨p, rfl, ⟨vs, SqL.of hp⟩, q1 _ [_] [_] H1 (src_sh c) at1⟩) fun _ _ z => z)⟩
def rngG {S : Type} (j : Int) : SM S Unit := grd (-(2 ^ 62) ≤ j ∧ j < 2 ^ 62)
theorem ei_rng1 (h : EX X F a ta G G' rInt mi) (hg : Gl X "range") (hm : X.mg "range" = none) (hs : PySem.W.isStarred a = false := by rfl) :
    EI X F tg (.Call (.Name "range" p0) [a] [] pos) (iRng1 (tCons ta tNil)) G G' (fun _ => True) rInt (bnd mi fun j => bnd (rngG j) fun _ => ret (upto 0 j.toNat)) :=
  ⟨pi_range1 hg hm (pa_cons h.pe pa_nil (star1 hs)) (by first | (rw [star1 hs]; done) | (rw [star1 hs]; rfl)), fun T t σ s H R h0 q => h.go T t σ s H _ h0 (wp_mono (wp_bnd q) (fun j s1 q1 v H1 at1 => by
    obtain ⟨⟨h1, h2⟩, q1⟩ := wp_grd (wp_bnd q1)
    obtain ⟨M, B, k, _⟩ := top_rel at1
    exact ⟨j, by rw [k], h1, h2, q1 _ [] [] H1 src_rng at1.pop⟩) fun _ _ z => z)⟩
/-- hi, hi - 1, .. above lo -/
def dnto (hi : Int) (n : Nat) : List Int := (List.range n).map fun (i : Nat) => hi + (i : Int) * (-1)
theorem dnto_len (lo : Int) (n : Nat) : (dnto lo n).length = n := by simp [dnto]
theorem dnto_get {lo : Int} {n i : Nat} {a : Int} (h : (dnto lo n)[i]? = some a) : a = lo + (i : Int) * (-1) := by
  unfold dnto at h
  rw [List.getElem?_map] at h
  cases e : (List.range n)[i]? with
  | none => rw [e] at h; cases h
  | some j =>
    rw [e] at h
    have e2 : j = i := by
      rw [List.getElem?_range] at e
      · cases e; rfl
      · have := (List.getElem?_eq_some_iff.mp e).1
        simpa using this
    subst e2
    exact (Option.some.inj h).symm
theorem src_dn {K : PySem.W.Frag} {F : FC K S} {lo : Int} {n : Nat} : Src F (fun _ => True) (Itc lo (-1) n) [] [] rInt (dnto lo n) where
  len := rfl
  go := fun _ _ _ hi => by rw [dnto_len] at hi; exact hi
  stop := fun _ _ _ hi => by rw [dnto_len] at hi; exact hi
  yld := by
    intro i a x T1 t1 T t G σ H H' _ e h hy ha
    obtain ⟨rfl, rfl⟩ := hy
    rw [dnto_get ha]
    exact At.push h fun _ => ⟨rfl, rfl⟩
theorem ei_rng3 {k : Nat} {p1 p2 : Pos} (h : EX X F a ta G G1 rInt m1) (h2 : EX X F b tb G1 G2 rInt m2) (hg : Gl X "range") (hm : X.mg "range" = none) (hs : PySem.W.isStarred a = false := by rfl) (hs2 : PySem.W.isStarred b = false := by rfl) :
    EI X F tg (.Call (.Name "range" p0) [a, b, .UnaryOp .USub (.Constant (.int 1) k p1) p2] [] pos) (iRng3 (tCons ta (tCons tb (tCons (tUn (rU fun i => .int (-i)) (tC (.int 1))) tNil)))) G G2 (fun _ => True) rInt (bnd m1 fun i => bnd m2 fun j => bnd (rngG i) fun _ => bnd (rngG j) fun _ => ret (dnto i (i - j).toNat)) :=
  ⟨pi_range3 hg hm (pa_cons h.pe (pa_cons h2.pe (pa_cons (pe_un un_neg pe_int) pa_nil) (star1 hs2)) (star1 hs)) (star1 hs) (by rw [star1 hs2]; rfl), fun T t σ s H R h0 q => h.go T t σ s H _ h0 (wp_mono (wp_bnd q) (fun i s1 q1 v H1 at1 => by
    refine h2.go _ _ σ s1 H1 _ at1 (wp_mono (wp_bnd q1) (fun j s2 q2 w H2 at2 => ?_) fun _ _ z => z)
    obtain ⟨⟨h1, h2⟩, q2⟩ := wp_grd (wp_bnd q2)
    obtain ⟨⟨h3, h4⟩, q2⟩ := wp_grd (wp_bnd q2)
    obtain ⟨M1, B1, k1, _⟩ := snd_rel at2
    obtain ⟨M2, B2, k2, _⟩ := top_rel at2
    exact ⟨1, rfl, i, j, -1, (i - j).toNat, by rw [k1, k2], RgC.neg h1 h2 h3 h4, q2 _ [] [] H2 src_dn at2.pop.pop⟩) fun _ _ z => z)⟩
end
section
variable {K : PySem.W.Frag} {S : Type} {F : FC K S} {A B : Type} {rx : Rp A} {ry : Rp B}
/-- (0, x), (1, y), .. -/
def enum {A : Type} (xs : List A) : List (Int × A) := xs.mapIdx fun i x => ((i : Int), x)
theorem enum_len {A : Type} (xs : List A) : (enum xs).length = xs.length := by simp [enum]
theorem enum_get {A : Type} {xs : List A} {i : Nat} {a : Int × A} (h : (enum xs)[i]? = some a) : a.1 = (i : Int) ∧ xs[i]? = some a.2 := by
  unfold enum at h
  rw [List.getElem?_mapIdx] at h
  cases e : xs[i]? with
  | none => rw [e] at h; cases h
  | some x => rw [e] at h; cases h; exact ⟨rfl, rfl⟩
theorem src_enum {a : Addr} {xs : List A} : Src F (fun _ => True) (Ite K a) [.is (sh (rList rx)) xs] [.ref a] (rPair rInt (sh rx)) (enum xs) where
  len := rfl
  go := by
    intro i T1 t1 T t G σ H _ e h hi
    rw [enum_len] at hi
    obtain ⟨A1, A2, h⟩ := h
    obtain ⟨B, v, ev, _, C, ⟨p, vs, A, ep, hp, hA, _⟩, _⟩ := held e h
    cases ev
    cases ep
    have hi' : i < vs.length := by rw [hA.length]; exact hi
    exact ⟨vs, vs[i], SqL.of hp, List.getElem?_eq_getElem hi'⟩
  stop := by
    intro i T1 t1 T t G σ H _ e h hi
    rw [enum_len] at hi
    obtain ⟨A1, A2, h⟩ := h
    obtain ⟨B, v, ev, _, C, ⟨p, vs, A, ep, hp, hA, _⟩, _⟩ := held e h
    cases ev
    cases ep
    exact ⟨vs, SqL.of hp, by rw [hA.length]; exact hi⟩
  yld := by
    intro i a x T1 t1 T t G σ H H' _ e h hy ha
    obtain ⟨ha1, ha2⟩ := enum_get ha
    obtain ⟨A1, A2, h⟩ := h
    obtain ⟨B, v, ev, _, C, ⟨p, vs, A, ep, hp, hA, eC⟩, hC⟩ := held e h
    cases ev
    cases ep
    obtain ⟨T, y, rfl, hT, rfl, hy⟩ := hy
    obtain ⟨w, D, e1, hr, sub⟩ := hA.get' ha2
    have e2 := hy vs (SqL.of hp)
    rw [e1] at e2
    cases e2
    have z1 := h.pushM (r := rInt) (a := a.1) (u := .int (i : Nat)) ⟨by rw [ha1], rfl⟩
    have z2 := z1.pushM (r := sh rx) (a := a.2) (u := y) ⟨rfl, D, hr, fun x hx => hC x (by rw [eC]; exact List.mem_cons_of_mem _ (sub x hx))⟩
    exact At.tup2 ⟨A1, A2, z2⟩ hT
theorem src_enumC {a : Addr} {xs : List A} (c : rx.Cp) : Src F (fun _ => True) (Ite K a) [.is (sh (rList rx)) xs] [.ref a] (rPair rInt rx) (enum xs) where
  len := rfl
  go := (src_enum (rx := rx) (xs := xs) (a := a)).go
  stop := (src_enum (rx := rx) (xs := xs) (a := a)).stop
  yld := by
    intro i a x T1 t1 T t G σ H H' _ e h hy ha
    obtain ⟨ha1, ha2⟩ := enum_get ha
    obtain ⟨A1, A2, h⟩ := h
    obtain ⟨B, v, ev, _, C, ⟨p, vs, A, ep, hp, hA, eC⟩, hC⟩ := held e h
    cases ev
    cases ep
    obtain ⟨T, y, rfl, hT, rfl, hy⟩ := hy
    obtain ⟨w, D, e1, hr, sub⟩ := hA.get' ha2
    have e2 := hy vs (SqL.of hp)
    rw [e1] at e2
    cases e2
    have eD := c hr
    subst eD
    have z1 := h.pushM (r := rInt) (a := a.1) (u := .int (i : Nat)) ⟨by rw [ha1], rfl⟩
    have z2 := z1.pushM (r := rx) (a := a.2) (u := y) hr
    exact At.tup2 ⟨A1, A2, z2⟩ hT
/-- two lists side by side -/
theorem zip_get {xs : List A} {ys : List B} {i : Nat} {a : A × B} (h : (xs.zip ys)[i]? = some a) : xs[i]? = some a.1 ∧ ys[i]? = some a.2 := by
  rw [List.getElem?_zip_eq_some] at h
  exact h
theorem src_zip {a b : Addr} {xs : List A} {ys : List B} : Src F (fun _ => True) (Itz K a b) [.is (sh (rList ry)) ys, .is (sh (rList rx)) xs] [.ref b, .ref a] (rPair (sh rx) (sh ry)) (xs.zip ys) where
  len := rfl
  go := by
    intro i T1 t1 T t G σ H _ e h hi
    rw [List.length_zip] at hi
    obtain ⟨A1, A2, h⟩ := h
    obtain ⟨_, v, ev, _, _, ⟨p, vs, _, ep, hp, hA, _⟩, _⟩ := held e h
    have h2 : AtP F ((T1 ++ [.is (sh (rList ry)) ys]) ++ ([.is (sh (rList rx)) xs] ++ T)) ((t1 ++ [.ref b]) ++ ([.ref a] ++ t)) G σ H A1 A2 := by simpa using h
    obtain ⟨_, v2, ev2, _, _, ⟨p2, vs2, _, ep2, hp2, hA2, _⟩, _⟩ := held (by simp [e]) h2
    cases ev
    cases ep
    cases ev2
    cases ep2
    have i1 : i < vs2.length := by rw [hA2.length]; omega
    have i2 : i < vs.length := by rw [hA.length]; omega
    exact ⟨vs2, vs, vs2[i], vs[i], SqL.of hp2, SqL.of hp, List.getElem?_eq_getElem i1, List.getElem?_eq_getElem i2⟩
  stop := by
    intro i T1 t1 T t G σ H _ e h hi
    rw [List.length_zip] at hi
    obtain ⟨A1, A2, h⟩ := h
    obtain ⟨_, v, ev, _, _, ⟨p, vs, _, ep, hp, hA, _⟩, _⟩ := held e h
    have h2 : AtP F ((T1 ++ [.is (sh (rList ry)) ys]) ++ ([.is (sh (rList rx)) xs] ++ T)) ((t1 ++ [.ref b]) ++ ([.ref a] ++ t)) G σ H A1 A2 := by simpa using h
    obtain ⟨_, v2, ev2, _, _, ⟨p2, vs2, _, ep2, hp2, hA2, _⟩, _⟩ := held (by simp [e]) h2
    cases ev
    cases ep
    cases ev2
    cases ep2
    exact ⟨vs2, vs, SqL.of hp2, SqL.of hp, by rw [hA2.length, hA.length]; omega⟩
  yld := by
    intro i c x T1 t1 T t G σ H H' _ e h hy ha
    obtain ⟨ha1, ha2⟩ := zip_get ha
    obtain ⟨A1, A2, h⟩ := h
    obtain ⟨_, v, ev, _, C, ⟨p, vs, _, ep, hp, hA, eC⟩, hC⟩ := held e h
    have h2 : AtP F ((T1 ++ [.is (sh (rList ry)) ys]) ++ ([.is (sh (rList rx)) xs] ++ T)) ((t1 ++ [.ref b]) ++ ([.ref a] ++ t)) G σ H A1 A2 := by simpa using h
    obtain ⟨_, v2, ev2, _, C2, ⟨p2, vs2, _, ep2, hp2, hA2, eC2⟩, hC2⟩ := held (by simp [e]) h2
    cases ev
    cases ep
    cases ev2
    cases ep2
    obtain ⟨T, y1, y2, rfl, hT, rfl, hy1, hy2⟩ := hy
    obtain ⟨w1, D1, e1, hr1, sub1⟩ := hA2.get' ha1
    obtain ⟨w2, D2, e2, hr2, sub2⟩ := hA.get' ha2
    have q1 := hy1 vs2 (SqL.of hp2)
    have q2 := hy2 vs (SqL.of hp)
    rw [e1] at q1
    rw [e2] at q2
    cases q1
    cases q2
    have z1 := h.pushM (r := sh rx) (a := c.1) (u := y1) ⟨rfl, D1, hr1, fun x hx => hC2 x (by rw [eC2]; exact List.mem_cons_of_mem _ (sub1 x hx))⟩
    have z2 := z1.pushM (r := sh ry) (a := c.2) (u := y2) ⟨rfl, D2, hr2, fun x hx => hC x (by rw [eC]; exact List.mem_cons_of_mem _ (sub2 x hx))⟩
    exact At.tup2 ⟨A1, A2, z2⟩ hT
end
section
variable {X : Cx} {S : Type} {F : FC X.K S} {A B : Type} {rx : Rp A} {ry : Rp B} {e a b : Expr} {elts : List Expr} {kk : Nat} {tpos : Pos} {te ta tb : TE} {G G1 G2 G' : S → List Slot} {m : SM S (List A)} {m2 : SM S (List B)} {pos p0 : Pos}
theorem ei_enum (h : EX X F e te G G' (sh (rList rx)) m) (c : rx.Cp) (hg : Gl X "enumerate") (hm : X.mg "enumerate" = none) (hs : PySem.W.isStarred e = false := by rfl) :
    EI X F (.Tuple elts kk tpos) (.Call (.Name "enumerate" p0) [e] [] pos) (iEnum X.K (tCons te tNil)) G G' (fun _ => True) (rPair rInt rx) (bnd m fun xs => ret (enum xs)) :=
  ⟨pi_enum hg hm (pa_cons h.pe pa_nil (star1 hs)) (by first | (rw [star1 hs]; done) | (rw [star1 hs]; rfl)), fun T t σ s H R h0 q => h.go T t σ s H _ h0 (wp_mono (wp_bnd q) (fun xs s1 q1 v H1 at1 => by
    obtain ⟨M, B, _, C, ⟨p, vs, D, ev, hp, hD, _⟩, _⟩ := top_rel at1
    subst ev
    exact ⟨p, vs, rfl, SqL.of hp, q1 _ [_] [_] H1 (src_enumC c) at1⟩) fun _ _ z => z)⟩
end
def FC.nx {K : PySem.W.Frag} {S : Type} (F : FC K S) : FC K S := { F with W := fun _ _ _ _ => False }
/-- nothing is raised -/
def nxc {S T : Type} (m : SM S T) : SM S T := fun s => match m s with
  | .ok a s' => .ok a s'
  | .exc _ _ => .stuck
  | .stuck => .stuck
theorem wp_nxc {S T : Type} {m : SM S T} {s : S} {P : T → S → Prop} {E E' : Exn → S → Prop} (h : (nxc m s).wp P E) : (m s).wp P E' := by
  unfold nxc at h
  cases hm : m s with
  | ok a s' => rw [hm] at h; exact h
  | exc e s' => rw [hm] at h; exact h.elim
  | stuck => rw [hm] at h; exact h
def lcM {S A B : Type} (f : A → SM S (Option B)) : List B → List A → SM S (List B)
  | acc, [] => ret acc
  | acc, x :: xs => bnd (nxc (f x)) fun o => match o with
    | some b => bnd (grd (acc.length < sizeLine)) fun _ => lcM f (acc ++ [b]) xs
    | none => lcM f acc xs
/-- an item of a comprehension: the test, then the element -/
def lcIt {S B : Type} (mt : SM S Bool) (me : SM S B) : SM S (Option B) := bnd mt fun k => if k then bnd me fun b => ret (some b) else ret none
structure ETs (X : Cx) {S : Type} (F : FC X.K S) (ifs : List Expr) (tt : TT) (G G' : S → List Slot) (m : SM S Bool) : Prop where
  pt : PTs X ifs tt
  go : GT F tt G G' m
section
variable {X : Cx} {S : Type} {F : FC X.K S} {G G1 G2 : S → List Slot}
theorem ets_nil : ETs X F [] tYes G G (ret true) := ⟨pts_nil, fun T t σ s H Q h q => q H h⟩
theorem ets_one {c : Expr} {tc : TT} {m : SM S Bool} (h : ET X F c tc G G1 m) : ETs X F [c] tc G G1 m := ⟨pts_one h.pt, h.go⟩
theorem nx_at {K : PySem.W.Frag} {F : FC K S} {T : List Slot} {t : List V} {Gs : List Slot} {σ : L2.St} {H : Hp} (h : At F T t Gs σ H) : At F.nx T t Gs σ H := h.re rfl rfl rfl
theorem at_nx {K : PySem.W.Frag} {F : FC K S} {T : List Slot} {t : List V} {Gs : List Slot} {σ : L2.St} {H : Hp} (h : At F.nx T t Gs σ H) : At F T t Gs σ H := h.re rfl rfl rfl
theorem wipe_get {vs : List Nat} {σ : L2.St} {j : Nat} (h : j ∉ vs) : (wipe σ vs)[j]? = σ[j]? := by
  induction vs with
  | nil => rfl
  | cons v vs ih =>
    unfold wipe
    rw [List.getElem?_set_ne (by intro z; exact h (by simp [z]))]
    exact ih fun z => h (List.mem_cons_of_mem _ z)
theorem wipe_in {vs : List Nat} {σ : L2.St} {j : Nat} (h : j ∈ vs) : (wipe σ vs)[j]? = if j < σ.length then some none else none := by
  induction vs with
  | nil => cases h
  | cons v vs ih =>
    unfold wipe
    by_cases e : v = j
    · subst e
      rw [List.getElem?_set]
      simp [wipe_length]
    · rw [List.getElem?_set_ne e]
      rcases List.mem_cons.mp h with z | z
      · exact absurd z.symm e
      · exact ih z
theorem wipe_eq {vs ws : List Nat} {σ σ2 : L2.St} (hl : σ2.length = (wipe σ vs).length) (hk : ∀ j, j ∉ ws → σ2[j]? = (wipe σ vs)[j]?) (sub : ∀ j, j ∈ ws → j ∈ vs) : wipe σ2 vs = wipe σ vs := by
  apply List.ext_getElem?
  intro j
  by_cases h : j ∈ vs
  · rw [wipe_in h, wipe_in h, hl, wipe_length]
  · rw [wipe_get h, wipe_get h, hk j fun z => h (sub j z), wipe_get h]
theorem AtS.wiped {K : PySem.W.Frag} {M : List Addr} {H : Hp} : ∀ {vs : List Nat} {G : List Slot} {s : L2.St} {A : List Addr}, AtS K M H G s A → (∀ v, v ∈ vs → G[v]? = some .un ∨ G[v]? = none) → AtS K M H G (wipe s vs) A
  | [], _, _, _, h, _ => h
  | v :: vs, G, s, A, h, hv => by
    have z := AtS.wiped (vs := vs) h fun v h => hv v (List.mem_cons_of_mem _ h)
    unfold wipe
    rcases hv v (List.mem_cons_self ..) with e | e
    · obtain ⟨x, B, A1, A2, e1, h1, eA, back⟩ := z.at_ e
      have y := back M H .un none [] (fun h _ => h) rfl
      rw [set_self e] at y
      have eB : B = [] := h1
      subst eB
      rw [eA]
      exact y
    · have hl := z.length
      rw [List.set_eq_of_length_le (by rw [hl]; exact List.getElem?_eq_none_iff.mp e)]
      exact z
theorem At.wiped {K : PySem.W.Frag} {F : FC K S} {T : List Slot} {t : List V} {Gs : List Slot} {σ : L2.St} {H : Hp} {vs : List Nat} (h : At F T t Gs σ H) (hv : ∀ v, v ∈ vs → Gs[v]? = some .un ∨ Gs[v]? = none) : At F T t Gs (wipe σ vs) H := by
  obtain ⟨A1, A2, h⟩ := h
  exact ⟨A1, A2, h.tmp, h.loc.wiped hv, h.good⟩
end
end Td
set_option Elab.async false
set_option linter.all false
set_option maxRecDepth 100000
set_option maxHeartbeats 4000000
namespace Td
open PySem PySem.Spec PyProof.Rows L2
theorem AtS.re {K : PySem.W.Frag} {M : List Addr} {H : Hp} {G : List Slot} {s : L2.St} {A : List Addr} (h : AtS K M H G s A) : ∀ {s' : L2.St}, s'.length = s.length → (∀ (j : Nat), G[j]? = some Slot.un ∨ s'[j]? = s[j]?) → AtS K M H G s' A := by
  induction h with
  | nil =>
    intro s' e _
    obtain rfl : s' = [] := List.eq_nil_of_length_eq_zero (by simpa using e)
    exact .nil
  | @cons g x B G s A h t ih =>
    intro s' e k
    cases s' with
    | nil => simp at e
    | cons y s' =>
      refine .cons ?_ (ih (by simpa using e) fun j => by simpa using k (j + 1))
      rcases k 0 with z | z
      · have eg : g = .un := by simpa using z
        subst eg
        exact h
      · have ey : y = x := by simpa using z
        rw [ey]; exact h
theorem At.reS {K : PySem.W.Frag} {S : Type} {F : FC K S} {T : List Slot} {t : List V} {G : List Slot} {σ σ' : L2.St} {H : Hp} (h : At F T t G σ H) (e : σ'.length = σ.length) (k : ∀ (j : Nat), G[j]? = some Slot.un ∨ σ'[j]? = σ[j]?) : At F T t G σ' H := by
  obtain ⟨A1, A2, h⟩ := h
  exact ⟨A1, A2, h.tmp, h.loc.re e k, h.good⟩

section
variable {X : Cx} {S : Type} {F : FC X.K S} {A B : Type} {rx : Rp A} {rb : Rp B} {tg e elt : Expr} {ifs : List Expr} {scope : Scope} {own : List (Str × Nat)} {wi : TI} {g : TG} {ws : List Nat} {tt : TT} {te : TE} {G G1 : S → List Slot} {C : List Slot → Prop} {mi : SM S (List A)} {Gt : S → A → List Slot} {mt : A → SM S Bool} {me : A → SM S B} {pos : Pos}
theorem go_lc (hi : GI F wi G G1 C rx mi) (hC : ∀ s, C (G1 s)) (hun : ∀ s v, v ∈ own.map (·.2) → (G1 s)[v]? = some .un ∨ (G1 s)[v]? = none) (sub : ∀ j, j ∈ ws → j ∈ own.map (·.2)) (hg : ∀ s, GG F.nx g ws rx (G1 s) (Gt s)) (hwk : ∀ s x, Weak (Gt s x) (G1 s))
    (ht : ∀ x, GT F.nx tt (fun s => Gt s x) (fun s => Gt s x) (mt x)) (he : ∀ x, GE F.nx te (fun s => Gt s x) (fun s => Gt s x) rb (me x)) : GE F (tLc wi g tt te (own.map (·.2))) G G1 (rList rb) (bnd mi fun xs => lcM (fun x => lcIt (mt x) (me x)) [] xs) := by
  intro T t σ s H Q h0 q
  refine hi T t σ s H _ h0 (wp_mono (wp_bnd q) (fun xs s1 q1 J gv hv H1 src at1 D hD => ?_) fun _ _ z => z)
  refine ⟨fun i m H => m = xs.length - i ∧ i ≤ xs.length ∧ ∃ s acc, At F (.is (rList rb) acc :: (gv ++ T)) (.ref D :: (hv ++ t)) (G1 s) σ H ∧
      (lcM (fun x => lcIt (mt x) (me x)) acc (xs.drop i) s).wp (fun a s' => ∀ v H', At F (.is (rList rb) a :: T) (v :: t) (G1 s') σ H' → Q v H') (XP F σ),
    ⟨xs.length, by simp, Nat.zero_le _, s1, [], At.lst (r := rb) (as := []) (vs := []) (by simpa [pend] using at1) rfl hD, by simpa using q1⟩, ?_⟩
  rintro i m H ⟨rfl, hi, s, acc, at2, q2⟩
  by_cases hlt : i < xs.length
  · refine .inr ⟨src.go (T1 := [_]) (t1 := [_]) (hC s) rfl at2 hlt, fun H' => ∃ s acc, At F (.is (rList rb) acc :: (gv ++ T)) (.ref D :: (hv ++ t)) (G1 s) σ H' ∧
      (lcM (fun x => lcIt (mt x) (me x)) acc (xs.drop (i + 1)) s).wp (fun a s' => ∀ v H', At F (.is (rList rb) a :: T) (v :: t) (G1 s') σ H' → Q v H') (XP F σ),
      fun H' ⟨s, acc, at3, q3⟩ => ⟨xs.length - (i + 1), by omega, rfl, hlt, s, acc, at3, q3⟩, fun x H' hy => ?_⟩
    have at3 := src.yld (T1 := [_]) (t1 := [_]) (hC s) rfl at2 hy (List.getElem?_eq_getElem hlt)
    refine hg s _ _ _ H' x xs[i] _ (nx_at (at3.wiped (hun s))) fun σ2 at4 l4 k4 => ?_
    refine ⟨wipe_eq l4 k4 sub, ?_⟩
    rw [List.drop_eq_getElem_cons hlt] at q2
    have back : ∀ {T' : List Slot} {t' : List V} {s' : S} {H3 : Hp}, At F.nx T' t' (Gt s' xs[i]) σ2 H3 → At F T' t' (G1 s') σ H3 := fun {T' t' s' H3} z => by
      have y := (at_nx z).weak (hwk s' xs[i])
      refine y.reS (by rw [l4, wipe_length]) fun j => ?_
      by_cases hj : j ∈ own.map (·.2)
      · rcases hun s' j hj with w | w
        · exact .inl w
        · right
          have hl : σ2.length ≤ j := by rw [y.len]; exact List.getElem?_eq_none_iff.mp w
          rw [List.getElem?_eq_none hl, List.getElem?_eq_none (by rw [l4, wipe_length] at hl; exact hl)]
      · right
        rw [k4 j fun w => hj (sub j w), wipe_get hj]
    have q3 := wp_nxc (E' := XP F.nx σ2) (wp_bnd q2)
    refine ht xs[i] _ _ σ2 s H' _ at4 (wp_mono (wp_bnd q3) (fun k s4 q4 H4 at5 => ?_) fun _ _ z => z)
    cases k with
    | true =>
      rw [if_pos rfl] at q4
      rw [if_pos rfl]
      refine he xs[i] _ _ σ2 s4 H4 _ at5 (wp_mono (wp_bnd q4) (fun b s5 q5 v H5 at6 => ?_) fun _ _ z => z)
      have at7 := back at6
      obtain ⟨hz, q6⟩ := wp_grd (wp_bnd (show (bnd (grd (acc.length < sizeLine)) (fun _ => lcM (fun x => lcIt (mt x) (me x)) (acc ++ [b]) (List.drop (i + 1) xs)) s5).wp _ _ from q5))
      obtain ⟨us, hDu, hl, at8⟩ := At.appendT at7
      exact ⟨us, hDu, by rw [hl]; exact hz, s5, acc ++ [b], at8, q6⟩
    | false =>
      rw [if_neg Bool.false_ne_true] at q4
      rw [if_neg Bool.false_ne_true]
      exact ⟨s4, acc, back at5, q4⟩
  · have e : i = xs.length := by omega
    subst e
    rw [List.drop_length] at q2
    refine .inl ⟨src.stop (T1 := [_]) (t1 := [_]) (hC s) rfl at2 (Nat.le_refl _), ?_⟩
    exact q2 _ H (At.dropU src.len at2)
theorem ex_lc (sh0 : Shared) (hc : X.calm = true) (hN : X.N.Nodup) (hi : EI X F tg e wi G G1 C rx mi) (hC : ∀ s, C (G1 s)) (ok : BlkOk X.N X.env.scope scope own) (hun : ∀ s v, v ∈ own.map (·.2) → (G1 s)[v]? = some .un ∨ (G1 s)[v]? = none) (sub : ∀ j, j ∈ ws → j ∈ own.map (·.2)) (hwk : ∀ s x, Weak (Gt s x) (G1 s))
    (hg : ∀ (s0 : Shared) (H : Hp) (D : Addr) (cl : List (Str × Addr)) (fp : List Addr) (s : S), EG (X.blk s0 H scope (compEnvC scope cl D X.env) fp) F.nx tg g ws rx (G1 s) (Gt s))
    (ht : ∀ (s0 : Shared) (H : Hp) (D : Addr) (cl : List (Str × Addr)) (fp : List Addr) (x : A), ETs (X.blk s0 H scope (compEnvC scope cl D X.env) fp) F.nx ifs tt (fun s => Gt s x) (fun s => Gt s x) (mt x))
    (he : ∀ (s0 : Shared) (H : Hp) (D : Addr) (cl : List (Str × Addr)) (fp : List Addr) (x : A), EX (X.blk s0 H scope (compEnvC scope cl D X.env) fp) F.nx elt te (fun s => Gt s x) (fun s => Gt s x) rb (me x)) (hA : Inhabited A) (hS : Inhabited S)
    (hs : ∀ x, foldedSetIterable e X.env x = pure x := by intro _; rfl) : EX X F (.ListComp elt [⟨tg, e, ifs, 0⟩] scope pos) (tLc wi g tt te (own.map (·.2))) G G1 (rList rb) (bnd mi fun xs => lcM (fun x => lcIt (mt x) (me x)) [] xs) :=
  ⟨pe_lc hc hN hi.pi ok (fun s0 H D cl fp => (hg s0 H D cl fp hS.default).pg) (fun s0 H D cl fp => (ht s0 H D cl fp hA.default).pt) (fun s0 H D cl fp => (he s0 H D cl fp hA.default).pe) hs,
    go_lc hi.go hC hun sub (fun s => (hg sh0 (fun _ => none) 0 [] [] s).go) hwk (fun x => (ht sh0 (fun _ => none) 0 [] [] x).go) (fun x => (he sh0 (fun _ => none) 0 [] [] x).go)⟩
end
end Td
set_option Elab.async false
set_option linter.all false
set_option maxRecDepth 100000
set_option maxHeartbeats 4000000
namespace Td
open PySem PySem.Spec PyProof.Rows L2
def tChain3 (q1 q2 q3 : R2) (ta tb tc td : TE) : TE := fun σ H Q => ta σ H fun x H1 => tb σ H1 fun y H2 => q1 x y H2 fun z H3 => ∃ k, z = .bl k ∧
      (if k = true then tc σ H3 fun w H4 => q2 y w H4 (fun z2 H5 => ∃ k2, z2 = .bl k2 ∧ (if k2 = true then td σ H5 fun u H6 => q3 w u H6 Q else Q (.bl false) H5)) else Q (.bl false) H3)
section
variable {X : Cx} {S : Type} {F : FC X.K S} {U W Z N L R : Type} {r r1 : Rp U} {r2 : Rp W} {r3 : Rp Z} {rr : Rp R} {e a b c d : Expr} {es : List Expr} {te ta tb tc td : TE} {G G1 G2 G3 G4 G' : S → List Slot} {GN : N → S → List Slot} {GL : L → S → List Slot} {m m1 : SM S U} {m2 : SM S W} {m3 : SM S Z} {pos p0 : Pos} {arg argU : U → Arg} {argW : W → Arg}
theorem bx_no {sts : List Stmt} : BX X F sts (fun _ _ _ => False) G GN GL rr stk := ⟨⟨fun _ _ _ _ _ _ h => h.elim⟩, fun T t σ s H D h q => q.elim⟩
theorem et_truL {xs : U → List Z} (h : EO X F e te G G' arg m) (hx : ∀ a s, Rdd (G' s) (arg a) (rList r3) (xs a)) (he : ∀ whole, isTrue e X.env whole = (do let v ← whole; standAt e.pos; holding [v] (truthy v)) := by intro _; rfl) :
    ET X F e (fun σ H Q => te σ H fun x H' => ∃ k, TruV X.K x H' k ∧ Q k H') G G' (bnd m fun a => ret (!(xs a).isEmpty)) :=
  ⟨pt_truth h.pe he, fun T t σ s H Q h0 q => h.go T t σ s H _ h0 (wp_mono (wp_bnd q) (fun a s1 q1 ts v H1 at1 av => by
    obtain ⟨A1, A2, at2⟩ := id at1
    obtain ⟨v', B, e1, p, vs, A, ev, hp, hA, eB⟩ := rddM (j := 0) at2 av rfl (hx a s1)
    cases e1
    subst ev
    refine ⟨_, .inl ⟨vs, SqL.of hp, rfl⟩, ?_⟩
    have el : vs.isEmpty = (xs a).isEmpty := by
      have := hA.length
      cases vs <;> cases hxa : xs a <;> simp_all
    rw [el]
    exact q1 H1 (at1.drops av)) fun _ _ z => z)⟩
/-- never None -/
def Rp.Nn {T : Type} (r : Rp T) : Prop := ∀ {K M H v a B}, r.rel K M H v a B → v ≠ .non
theorem nn_int : rInt.Nn := fun h => by rw [h.1]; intro z; cases z
theorem nn_pair {T U : Type} {r : Rp T} {q : Rp U} : (rPair r q).Nn := by
  rintro K M H v a B ⟨p, v1, v2, B1, B2, e, _⟩
  rw [e]; intro z; cases z
theorem opt_non {T : Type} {r : Rp T} (n : r.Nn) {K M H v a B} (h : (rOpt r).rel K M H v a B) : decide (v = .non) = a.isNone := by
  cases a with
  | none =>
    have e : v = .non := h.1
    rw [e]; rfl
  | some a => exact decide_eq_false (n h)
theorem go_isN {oa : U → Option W} (n : r2.Nn) (h : GO F te G G' arg m) (hx : ∀ a s, Rdd (G' s) (arg a) (rOpt r2) (oa a)) : GE F (tOp (fun x y H Q => y = .non ∧ Q (.bl (decide (x = .non))) H) te (tC .non)) G G' rBool (bnd m fun a => ret (oa a).isNone) := by
  intro T t σ s H Q h0 q
  refine h T t σ s H _ h0 (wp_mono (wp_bnd q) (fun a s1 q1 ts v H1 at1 av => ?_) fun _ _ z => z)
  obtain ⟨A1, A2, at2⟩ := id at1
  obtain ⟨v', B, e1, hr⟩ := rddM (j := 0) at2 av rfl (hx a s1)
  cases e1
  refine ⟨rfl, ?_⟩
  rw [opt_non n hr]
  exact q1 _ H1 (at2.fin av ⟨rfl, rfl⟩)
theorem ex_isN {oa : U → Option W} {j : Nat} {p1 : Pos} (n : r2.Nn) (h : EO X F e te G G' arg m) (hx : ∀ a s, Rdd (G' s) (arg a) (rOpt r2) (oa a)) : EX X F (.Compare e [.Is] [.Constant .none j p1] pos) (tOp (fun x y H Q => y = .non ∧ Q (.bl (decide (x = .non))) H) te (tC .non)) G G' rBool (bnd m fun a => ret (oa a).isNone) :=
  ⟨pe_cmpR op_isN h.pe pe_non rfl, go_isN n h.go hx⟩
theorem et_isN {oa : U → Option W} {j : Nat} {p1 : Pos} (n : r2.Nn) (h : EO X F e te G G' arg m) (hx : ∀ a s, Rdd (G' s) (arg a) (rOpt r2) (oa a)) : ET X F (.Compare e [.Is] [.Constant .none j p1] pos) (tTest (tOp (fun x y H Q => y = .non ∧ Q (.bl (decide (x = .non))) H) te (tC .non))) G G' (bnd m fun a => ret (oa a).isNone) :=
  ⟨pt_cmpR op_isN h.pe pe_non rfl, go_test (go_isN n h.go hx)⟩
/-- what is known not to be None -/
def optM {T : Type} (o : Option T) : SM S T := match o with
  | some a => ret a
  | none => stk
theorem wp_optM {T : Type} {o : Option T} {s : S} {P : T → S → Prop} {E : Exn → S → Prop} (h : (optM o s).wp P E) : ∃ a, o = some a ∧ P a s := by
  cases o with
  | none => exact h.elim
  | some a => exact ⟨a, rfl, h⟩
theorem ex_unopt {mo : SM S (Option U)} (h : EX X F e te G G' (rOpt r) mo) : EX X F e te G G' r (bnd mo fun o => optM o) := ⟨h.pe, fun T t σ s H Q h0 q => h.go T t σ s H Q h0 (wp_mono (wp_bnd q) (fun o s1 q1 v H1 at1 => by
    obtain ⟨a, e, q2⟩ := wp_optM q1
    subst e
    refine q2 v H1 ?_
    obtain ⟨A1, A2, at1⟩ := at1
    refine ⟨A1, A2, ?_, at1.loc, at1.good⟩
    obtain ⟨B, A', eA, ⟨v', ev, hr⟩, ht⟩ := AtS.cons_inv at1.tmp
    subst eA
    exact .cons ⟨v', ev, hr⟩ ht) fun _ _ z => z)⟩
theorem pt_chain3 {op op' op2 : CmpOp} {q1 q2 q3 : R2} (ho : OpR X (compareOp op) q1) (ho' : OpR X (compareOp op') q2) (ho2 : OpR X (compareOp op2) q3) (ha : PE X a ta) (hb : PE X b tb) (hc : PE X c tc) (hd : PE X d td)
    (hm : lastMarks [op, op', op2] [b, c, d] = false := by with_unfolding_all rfl) : PT X (.Compare a [op, op', op2] [b, c, d] pos) (tTest (tChain3 q1 q2 q3 ta tb tc td)) := by
  refine ⟨fun pins s σ H Q I h => ?_⟩
  refine isTrue_chain (thn (ha.run pins s σ H _ I h) fun v s1 ⟨x, H1, I1, r1, q1⟩ => test_link (thn (hb.run pins s1 σ H1 _ I1 q1) fun u s2 ⟨y, H2, I2, r2, q2⟩ =>
    thn (ho pins s2 σ H2 x y v u _ I2 r1 r2 q2) fun d s3 ⟨z, H3, I3, r3, k, e, q3⟩ => ?_)) hm
  subst e
  cases r3
  refine wpAny_truthy_bool ?_
  cases k with
  | false =>
    obtain ⟨k', e', q'⟩ := q3
    cases e'
    exact ite_ff ⟨H3, I3, q'⟩
  | true =>
    refine ite_tt (test_link (thn (hc.run pins s3 σ H3 _ I3 q3) fun w' s4 ⟨z', H4, I4, r4, q4⟩ => thn (ho' pins s4 σ H4 y z' u w' _ I4 r2 r4 q4) fun d2 s5 ⟨z2, H5, I5, r5, k2, e2, q5⟩ => ?_))
    subst e2
    cases r5
    refine wpAny_truthy_bool ?_
    cases k2 with
    | false =>
      obtain ⟨k', e', q'⟩ := q5
      cases e'
      exact ite_ff ⟨H5, I5, q'⟩
    | true =>
      refine ite_tt (test_last (thn (hd.run pins s5 σ H5 _ I5 q5) fun w2 s6 ⟨z3, H6, I6, r6, q6⟩ => thn (ho2 pins s6 σ H6 z' z3 w' w2 _ I6 r4 r6 q6) fun d' s7 ⟨z4, H7, I7, r7, k4, e4, q7⟩ => ?_))
      subst e4
      cases r7
      exact wpAny_truthy_bool ⟨H7, I7, q7⟩
end
section
variable {X : Cx} {S : Type} {F : FC X.K S} {a b c d : Expr} {ta tb tc td : TE} {G G1 G2 G3 G4 : S → List Slot} {ma mb mc md : SM S Int} {pos : Pos} {q1 q2 q3 : R2} {f1 f2 f3 : Int → Int → Bool} {op op' op2 : CmpOp}
/-- a comparison of ints -/
def CmpI (X : Cx) (op : CmpOp) (rr : R2) (f : Int → Int → Bool) : Prop := OpR X (compareOp op) rr ∧ ∀ i j H Q, Q (.bl (f i j)) H → rr (.int i) (.int j) H Q
theorem ci_lt : CmpI X .Lt (rI0 fun i j => .bl (decide (i < j))) (fun i j => decide (i < j)) := ⟨op_lt, fun i j H Q q => ⟨i, j, rfl, rfl, q⟩⟩
theorem ci_le : CmpI X .LtE (rI0 fun i j => .bl (decide (i ≤ j))) (fun i j => decide (i ≤ j)) := ⟨op_le, fun i j H Q q => ⟨i, j, rfl, rfl, q⟩⟩
theorem go_chain2 (c1 : CmpI X op q1 f1) (c2 : CmpI X op' q2 f2) (h1 : GE F ta G G1 rInt ma) (h2 : GE F tb G1 G2 rInt mb) (h3 : GE F tc G2 G2 rInt mc) : GE F (tChain q1 q2 ta tb tc) G G2 rBool (bnd ma fun i => bnd mb fun j => if f1 i j then bnd mc fun k => ret (f2 j k) else ret false) := by
  intro T t σ s H Q h0 q
  refine h1 T t σ s H _ h0 (wp_mono (wp_bnd q) (fun i s1 q1 v H1 at1 => ?_) fun _ _ z => z)
  refine h2 _ _ σ s1 H1 _ at1 (wp_mono (wp_bnd q1) (fun j s2 q2 w H2 at2 => ?_) fun _ _ z => z)
  obtain ⟨_, _, k1⟩ := snd_rel at2
  obtain ⟨_, _, k2⟩ := top_rel at2
  obtain ⟨ev, _⟩ := k1
  obtain ⟨ew, _⟩ := k2
  subst ev ew
  refine c1.2 i j H2 _ ⟨_, rfl, ?_⟩
  cases hf : f1 i j with
  | false =>
    rw [hf] at q2
    exact q2 _ H2 (at2.pop.pop.push fun _ => ⟨rfl, rfl⟩)
  | true =>
    rw [hf] at q2
    refine h3 _ _ σ s2 H2 _ at2.pop.pop (wp_mono (wp_bnd q2) (fun k s3 q3 u H3 at3 => ?_) fun _ _ z => z)
    obtain ⟨_, _, k3⟩ := top_rel at3
    obtain ⟨eu, _⟩ := k3
    subst eu
    exact c2.2 j k H3 _ (q3 _ H3 (at3.pop.push fun _ => ⟨rfl, rfl⟩))
theorem et_chain2 (c1 : CmpI X op q1 f1) (c2 : CmpI X op' q2 f2) (h1 : EX X F a ta G G1 rInt ma) (h2 : EX X F b tb G1 G2 rInt mb) (h3 : EX X F c tc G2 G2 rInt mc) (hm : lastMarks [op, op'] [b, c] = false := by with_unfolding_all rfl) :
    ET X F (.Compare a [op, op'] [b, c] pos) (tTest (tChain q1 q2 ta tb tc)) G G2 (bnd ma fun i => bnd mb fun j => if f1 i j then bnd mc fun k => ret (f2 j k) else ret false) := ⟨pt_chain c1.1 c2.1 h1.pe h2.pe h3.pe hm, go_test (go_chain2 c1 c2 h1.go h2.go h3.go)⟩
theorem go_chain3 (c1 : CmpI X op q1 f1) (c2 : CmpI X op' q2 f2) (c3 : CmpI X op2 q3 f3) (h1 : GE F ta G G1 rInt ma) (h2 : GE F tb G1 G2 rInt mb) (h3 : GE F tc G2 G2 rInt mc) (h4 : GE F td G2 G2 rInt md) : GE F (tChain3 q1 q2 q3 ta tb tc td) G G2 rBool (bnd ma fun i => bnd mb fun j => if f1 i j then bnd mc fun k => if f2 j k then bnd md fun l => ret (f3 k l) else ret false else ret false) := by
  intro T t σ s H Q h0 q
  refine h1 T t σ s H _ h0 (wp_mono (wp_bnd q) (fun i s1 q1 v H1 at1 => ?_) fun _ _ z => z)
  refine h2 _ _ σ s1 H1 _ at1 (wp_mono (wp_bnd q1) (fun j s2 q2 w H2 at2 => ?_) fun _ _ z => z)
  obtain ⟨_, _, k1⟩ := snd_rel at2
  obtain ⟨_, _, k2⟩ := top_rel at2
  obtain ⟨ev, _⟩ := k1
  obtain ⟨ew, _⟩ := k2
  subst ev ew
  refine c1.2 i j H2 _ ⟨_, rfl, ?_⟩
  cases hf : f1 i j with
  | false =>
    rw [hf] at q2
    exact q2 _ H2 (at2.pop.pop.push fun _ => ⟨rfl, rfl⟩)
  | true =>
    rw [hf] at q2
    refine h3 _ _ σ s2 H2 _ at2.pop.pop (wp_mono (wp_bnd q2) (fun k s3 q3 u H3 at3 => ?_) fun _ _ z => z)
    obtain ⟨_, _, k3⟩ := top_rel at3
    obtain ⟨eu, _⟩ := k3
    subst eu
    refine c2.2 j k H3 _ ⟨_, rfl, ?_⟩
    cases hf2 : f2 j k with
    | false =>
      rw [hf2] at q3
      exact q3 _ H3 (at3.pop.push fun _ => ⟨rfl, rfl⟩)
    | true =>
      rw [hf2] at q3
      refine h4 _ _ σ s3 H3 _ at3.pop (wp_mono (wp_bnd q3) (fun l s4 q4 x H4 at4 => ?_) fun _ _ z => z)
      obtain ⟨_, _, k4⟩ := top_rel at4
      obtain ⟨ex, _⟩ := k4
      subst ex
      exact c3.2 k l H4 _ (q4 _ H4 (at4.pop.push fun _ => ⟨rfl, rfl⟩))
theorem et_chain3 (c1 : CmpI X op q1 f1) (c2 : CmpI X op' q2 f2) (c3 : CmpI X op2 q3 f3) (h1 : EX X F a ta G G1 rInt ma) (h2 : EX X F b tb G1 G2 rInt mb) (h3 : EX X F c tc G2 G2 rInt mc) (h4 : EX X F d td G2 G2 rInt md) (hm : lastMarks [op, op', op2] [b, c, d] = false := by with_unfolding_all rfl) :
    ET X F (.Compare a [op, op', op2] [b, c, d] pos) (tTest (tChain3 q1 q2 q3 ta tb tc td)) G G2 (bnd ma fun i => bnd mb fun j => if f1 i j then bnd mc fun k => if f2 j k then bnd md fun l => ret (f3 k l) else ret false else ret false) := ⟨pt_chain3 c1.1 c2.1 c3.1 h1.pe h2.pe h3.pe h4.pe hm, go_test (go_chain3 c1 c2 c3 h1.go h2.go h3.go h4.go)⟩
end
theorem all_pl {T : Type} {f : T → V} {K : PySem.W.Frag} {M : List Addr} {H : Hp} {vs : List V} {as : List T} {A : List Addr} (h : All3 ((rPl f).rel K M H) vs as A) : vs = as.map f := by
  induction h with
  | nil => rfl
  | cons h t ih => rw [h.1, ih]; rfl
section
variable {X : Cx} {S : Type} {F : FC X.K S} {U : Type} {e : Expr} {te : TE} {G G' : S → List Slot} {m : SM S U} {arg : U → Arg} {pos p0 : Pos}
theorem ex_all {xs : U → List Bool} (h : EO X F e te G G' arg m) (hx : ∀ a s, Rdd (G' s) (arg a) (rList rBool) (xs a)) (hc : X.calm = true) (hg : Gl X "all") (hm : X.mg "all" = none) (hs : PySem.W.isStarred e = false := by rfl) :
    EX X F (.Call (.Name "all" p0) [e] [] pos) (tCB (rAll X.K) (tCons te tNil)) G G' rBool (bnd m fun a => ret ((xs a).all id)) :=
  ex_callB1 (cr_all hc) hg hm (by decide) h (go_call1 h.go (fun _ => stl_ret _) fun a s T t ts v σ H Q A1 A2 at1 av q => by
    obtain ⟨v', B, e1, p, vs, A, ev, hp, hA, eB⟩ := rddM (j := 0) at1 av rfl (hx a s)
    cases e1
    have evs := all_pl hA
    subst evs
    exact ⟨p, xs a, by rw [ev], SqL.of hp, q.2 _ H (at1.fin av ⟨rfl, rfl⟩)⟩) hs
end
end Td
set_option Elab.async false
set_option linter.all false
set_option maxRecDepth 100000
set_option maxHeartbeats 4000000
namespace Td
open PySem PySem.Spec PyProof.Rows L2
section
variable {X : Cx} {S : Type} {F : FC X.K S} {U W Z N L R : Type} {r r1 : Rp U} {r2 : Rp W} {r3 : Rp Z} {a b : Expr} {ta tb : TE} {G G1 G2 G' : S → List Slot} {m1 : SM S U} {m2 : SM S W} {pos p0 : Pos} {argU : U → Arg} {argW : W → Arg}
/-- an operation on two operands, each a temp or a name -/
theorem go_op2 {rr : R2} {f : U → W → SM S Z} (h1 : GO F ta G G1 argU m1) (h2 : GO F tb G1 G2 argW m2) (hf : ∀ a b, Stl (f a b))
    (hv : ∀ (a : U) (b : W) (s : S) (T : List Slot) (t ts : List V) (x y : V) (σ : L2.St) (H : Hp) (Q : VK) (A1 A2 : List Addr), AtP F ((tmps [argU a, argW b]).reverse ++ T) (ts.reverse ++ t) (G2 s) σ H A1 A2 → ArgV σ [argU a, argW b] ts [x, y] →
      (f a b s).wp (fun c s' => s' = s ∧ ∀ u H', At F (.is r3 c :: T) (u :: t) (G2 s) σ H' → Q u H') (fun _ _ => True) → rr x y H Q) : GE F (tOp rr ta tb) G G2 r3 (bnd m1 fun a => bnd m2 fun b => f a b) := by
  intro T t σ s H Q h0 q
  refine h1 T t σ s H _ h0 (wp_mono (wp_bnd q) (fun a s1 q1 ts x H1 at1 av1 => ?_) fun _ _ z => z)
  refine h2 _ _ σ s1 H1 _ at1 (wp_mono (wp_bnd q1) (fun b s2 q2 us y H2 at2 av2 => ?_) fun _ _ z => z)
  obtain ⟨A1, A2, at2⟩ := at2
  refine hv a b s2 T t (ts ++ us) x y σ H2 Q A1 A2 ?_ (argV_cons av1 av2) (wp_mono ((hf a b).wp (E' := fun _ _ => True) q2) (fun c s3 q3 => ?_) fun _ _ _ => trivial)
  · rw [tmps_cons]
    simpa using at2
  · obtain ⟨e, q3⟩ := q3
    subst e
    exact ⟨rfl, q3⟩
def Enc {T : Type} (r : Rp T) (f : T → PyData) : Prop := ∀ {K M H v a B}, r.rel K M H v a B → Dp K H v (f a)
theorem enc_int : Enc rInt .int := fun h => by rw [h.1]; exact .int _
theorem enc_pair {T U : Type} {r : Rp T} {q : Rp U} {f : T → PyData} {g : U → PyData} (h1 : Enc r f) (h2 : Enc q g) : Enc (rPair r q) (fun p => .tuple [f p.1, g p.2]) := by
  rintro K M H v a B ⟨p, v1, v2, B1, B2, e, hT, k1, k2, _⟩
  rw [e]
  exact .tup hT (.cons (h1 k1) (.cons (h2 k2) .nil))
theorem enc_all {T : Type} {K : PySem.W.Frag} {R : V → T → List Addr → Prop} {H : Hp} {f : T → PyData} (h : ∀ v a B, R v a B → Dp K H v (f a)) : ∀ {vs : List V} {as : List T} {A : List Addr}, All3 R vs as A → DpAll K H vs (as.map f)
  | _, _, _, .nil => .nil
  | _, _, _, .cons k t => .cons (h _ _ _ k) (enc_all h t)
theorem enc_list {T : Type} {r : Rp T} {f : T → PyData} (h1 : Enc r f) : Enc (rList r) (fun xs => .list (xs.map f)) := by
  rintro K M H v a B ⟨p, vs, A, e, hp, hA, _⟩
  rw [e]
  exact .lst (SqL.of hp) (enc_all (fun _ _ _ k => h1 k) hA)
theorem enc_tupL {T : Type} {r : Rp T} {f : T → PyData} (h1 : Enc r f) : Enc (rTupL r) (fun xs => .tuple (xs.map f)) := by
  rintro K M H v a B ⟨p, vs, e, hp, hA⟩
  rw [e]
  exact .tup hp (enc_all (fun _ _ _ k => h1 k) hA)
def eqD (x y : PyData) : SM S Bool := bnd (grd (SeqAt.shaped x = true ∧ SeqAt.shaped y = true)) fun _ => ret (PyData.eqv x y)
def neD (x y : PyData) : SM S Bool := bnd (grd (SeqAt.shaped x = true ∧ SeqAt.shaped y = true)) fun _ => ret (!PyData.eqv x y)
theorem stl_eqD (x y : PyData) : Stl (eqD x y : SM S Bool) := stl_bnd stl_grd fun _ => stl_ret _
theorem stl_neD (x y : PyData) : Stl (neD x y : SM S Bool) := stl_bnd stl_grd fun _ => stl_ret _
/-- an operand read as data -/
inductive RdE (G : List Slot) (arg : Arg) : PyData → Prop
  | mk {T : Type} {r : Rp T} {f : T → PyData} {x : T} (e : Enc r f) (h : Rdd G arg r x) : RdE G arg (f x)
theorem rdE {K : PySem.W.Frag} {F : FC K S} {T : List Slot} {t ts vs : List V} {G : List Slot} {σ : L2.St} {H : Hp} {L : List Arg} {j : Nat} {arg : Arg} {d : PyData} {A1 A2 : List Addr} (h : AtP F ((tmps L).reverse ++ T) (ts.reverse ++ t) G σ H A1 A2) (av : ArgV σ L ts vs) (e : L[j]? = some arg) (rd : RdE G arg d) : ∃ v, vs[j]? = some v ∧ Dp K H v d := by
  obtain ⟨en, hr⟩ := rd
  obtain ⟨v, B, ev, k⟩ := rddM h av e hr
  exact ⟨v, ev, en k⟩
section
variable {da : U → PyData} {db : W → PyData}
theorem go_eqD (h1 : GO F ta G G1 argU m1) (h2 : GO F tb G1 G2 argW m2) (x1 : ∀ a s, RdE (G2 s) (argU a) (da a)) (x2 : ∀ a s, RdE (G2 s) (argW a) (db a)) :
    GE F (tOp (rEqD X.K) ta tb) G G2 rBool (bnd m1 fun a => bnd m2 fun b => eqD (da a) (db b)) :=
  go_op2 h1 h2 (fun _ _ => stl_eqD _ _) fun a b s T t ts x y σ H Q A1 A2 at1 av q => by
    obtain ⟨v, ev, k1⟩ := rdE (j := 0) at1 av rfl (x1 a s)
    obtain ⟨w, ew, k2⟩ := rdE (j := 1) at1 av rfl (x2 b s)
    cases ev; cases ew
    obtain ⟨⟨s1, s2⟩, q⟩ := wp_grd (wp_bnd q)
    exact ⟨_, _, k1, k2, s1, s2, q.2 _ H (at1.fin av ⟨rfl, rfl⟩)⟩
theorem go_neD (h1 : GO F ta G G1 argU m1) (h2 : GO F tb G1 G2 argW m2) (x1 : ∀ a s, RdE (G2 s) (argU a) (da a)) (x2 : ∀ a s, RdE (G2 s) (argW a) (db a)) :
    GE F (tOp (rNeD X.K) ta tb) G G2 rBool (bnd m1 fun a => bnd m2 fun b => neD (da a) (db b)) :=
  go_op2 h1 h2 (fun _ _ => stl_neD _ _) fun a b s T t ts x y σ H Q A1 A2 at1 av q => by
    obtain ⟨v, ev, k1⟩ := rdE (j := 0) at1 av rfl (x1 a s)
    obtain ⟨w, ew, k2⟩ := rdE (j := 1) at1 av rfl (x2 b s)
    cases ev; cases ew
    obtain ⟨⟨s1, s2⟩, q⟩ := wp_grd (wp_bnd q)
    exact ⟨_, _, k1, k2, s1, s2, q.2 _ H (at1.fin av ⟨rfl, rfl⟩)⟩
variable (hu : X.A.units + 64 < cLine)
include hu
theorem ex_eqD (h1 : EO X F a ta G G1 argU m1) (h2 : EO X F b tb G1 G2 argW m2) (x1 : ∀ a s, RdE (G2 s) (argU a) (da a)) (x2 : ∀ a s, RdE (G2 s) (argW a) (db a)) (hm : behindInMarks .Eq b = false := by rfl) :
    EX X F (.Compare a [.Eq] [b] pos) (tOp (rEqD X.K) ta tb) G G2 rBool (bnd m1 fun a => bnd m2 fun b => eqD (da a) (db b)) := ⟨pe_cmpR (op_eqD hu) h1.pe h2.pe hm, go_eqD h1.go h2.go x1 x2⟩
theorem et_eqD (h1 : EO X F a ta G G1 argU m1) (h2 : EO X F b tb G1 G2 argW m2) (x1 : ∀ a s, RdE (G2 s) (argU a) (da a)) (x2 : ∀ a s, RdE (G2 s) (argW a) (db a)) (hm : behindInMarks .Eq b = false := by rfl) :
    ET X F (.Compare a [.Eq] [b] pos) (tTest (tOp (rEqD X.K) ta tb)) G G2 (bnd m1 fun a => bnd m2 fun b => eqD (da a) (db b)) := ⟨pt_cmpR (op_eqD hu) h1.pe h2.pe hm, go_test (go_eqD h1.go h2.go x1 x2)⟩
theorem et_neD (h1 : EO X F a ta G G1 argU m1) (h2 : EO X F b tb G1 G2 argW m2) (x1 : ∀ a s, RdE (G2 s) (argU a) (da a)) (x2 : ∀ a s, RdE (G2 s) (argW a) (db a)) (hm : behindInMarks .NotEq b = false := by rfl) :
    ET X F (.Compare a [.NotEq] [b] pos) (tTest (tOp (rNeD X.K) ta tb)) G G2 (bnd m1 fun a => bnd m2 fun b => neD (da a) (db b)) := ⟨pt_cmpR (op_neD hu) h1.pe h2.pe hm, go_test (go_neD h1.go h2.go x1 x2)⟩
end
/-- xs[i] -/
theorem ex_ix {xs : U → List Z} {mi : SM S Int} (h1 : EO X F a ta G G1 argU m1) (h2 : EX X F b tb G1 G2 rInt mi) (c : r3.Cp) (hx : ∀ a s, Rdd (G2 s) (argU a) (rList r3) (xs a)) (hs : PlainIx b := by exact fun _ _ => rfl) :
    EX X F (.Subscript a b pos) (tOp (rIxL X.K) ta tb) G G2 r3 (bnd m1 fun a => bnd mi fun i => ixM (xs a) i) :=
  ⟨pe_ix ix_list h1.pe h2.pe hs, go_op2 h1.go (eo_t h2).go (fun _ _ => stl_ixM _ _) fun a i s T t ts x y σ H Q A1 A2 at1 av q => by
    obtain ⟨v, B, e1, p, vs, A, ev, hp, hA, eB⟩ := rddM (j := 0) at1 av rfl (hx a s)
    obtain ⟨w, B', e2, ew, _⟩ := rddM (j := 1) at1 av rfl .t
    cases e1; cases e2
    obtain ⟨z, ez, _, q⟩ := wp_ixM q
    obtain ⟨u, Bu, e3, hr, _⟩ := atI_all (K := X.K) hA ez
    have eBu := c hr
    subst eBu
    exact ⟨p, vs, i, u, ev, ew, SqL.of hp, e3, q u H (at1.fin av hr)⟩⟩
/-- t[i] of a tuple of many -/
theorem ex_ixT {xs : U → List Z} {mi : SM S Int} (h1 : EO X F a ta G G1 argU m1) (h2 : EX X F b tb G1 G2 rInt mi) (c : r3.Cp) (hx : ∀ a s, Rdd (G2 s) (argU a) (rTupL r3) (xs a)) (hs : PlainIx b := by exact fun _ _ => rfl) :
    EX X F (.Subscript a b pos) (tOp (rIxT X.K) ta tb) G G2 r3 (bnd m1 fun a => bnd mi fun i => ixM (xs a) i) :=
  ⟨pe_ix ix_tup h1.pe h2.pe hs, go_op2 h1.go (eo_t h2).go (fun _ _ => stl_ixM _ _) fun a i s T t ts x y σ H Q A1 A2 at1 av q => by
    obtain ⟨v, B, e1, p, vs, ev, hp, hA⟩ := rddM (j := 0) at1 av rfl (hx a s)
    obtain ⟨w, B', e2, ew, _⟩ := rddM (j := 1) at1 av rfl .t
    cases e1; cases e2
    obtain ⟨z, ez, _, q⟩ := wp_ixM q
    obtain ⟨u, Bu, e3, hr, _⟩ := atI_all (K := X.K) hA ez
    have eBu := c hr
    subst eBu
    exact ⟨p, vs, i, u, ev, ew, hp, e3, q u H (at1.fin av hr)⟩⟩
def catM {T : Type} (xs ys : List T) : SM S (List T) := bnd (lenG (xs ++ ys)) fun _ => ret (xs ++ ys)
/-- xs + ys of things that own nothing -/
theorem ex_cat {xs : U → List Z} {ys : W → List Z} (h1 : EO X F a ta G G1 argU m1) (h2 : EO X F b tb G1 G2 argW m2) (c : r3.Cp) (hx : ∀ a s, Rdd (G2 s) (argU a) (rList r3) (xs a)) (hy : ∀ a s, Rdd (G2 s) (argW a) (rList r3) (ys a)) :
    EX X F (.BinOp a .Add b pos) (tOp rCat ta tb) G G2 (rList r3) (bnd m1 fun a => bnd m2 fun b => catM (xs a) (ys b)) :=
  ⟨pe_op op_cat h1.pe h2.pe, go_op2 h1.go h2.go (fun _ _ => stl_bnd stl_grd fun _ => stl_ret _) fun a b s T t ts x y σ H Q A1 A2 at1 av q => by
    obtain ⟨v, B, e1, p, vs, A, ev, hp, hA, eB⟩ := rddM (j := 0) at1 av rfl (hx a s)
    obtain ⟨v2, B2, e2, p2, vs2, A', ev2, hp2, hA2, eB2⟩ := rddM (j := 1) at1 av rfl (hy b s)
    cases e1; cases e2
    obtain ⟨hz, q⟩ := wp_grd (wp_bnd q)
    have eA := cp_all c hA
    have eA2 := cp_all c hA2
    subst eA; subst eA2
    have hz' : (xs a ++ ys b).length ≤ sizeLine := hz
    rw [List.length_append, ← hA.length, ← hA2.length] at hz'
    exact ⟨p, p2, vs, vs2, ev, ev2, hp, hp2, hz', fun l hl => q.2 _ _ (at1.newL av (hA.append hA2) hl)⟩⟩
def GP (F : FC X.K S) (to : TO) (G G' : S → List Slot) (m : SM S (Option Int)) : Prop :=
  ∀ (T : List Slot) (t : List V) (σ : L2.St) (s : S) (H : Hp) (Q : Option Int → Hp → Prop), At F T t (G s) σ H → (m s).wp (fun o s' => ∀ H', At F T t (G' s') σ H' → Q o H') (XP F σ) → to σ H Q
end
structure EPa (X : Cx) {S : Type} (F : FC X.K S) (e : Option Expr) (to : TO) (G G' : S → List Slot) (m : SM S (Option Int)) : Prop where
  po : PO X e to
  go : GP F to G G' m
section
variable {X : Cx} {S : Type} {F : FC X.K S} {U W Z N L R : Type} {r r1 : Rp U} {r2 : Rp W} {r3 : Rp Z} {a b : Expr} {ta tb : TE} {G G1 G2 G3 G' : S → List Slot} {m1 : SM S U} {m2 : SM S W} {pos p0 p2 : Pos} {argU : U → Arg} {argW : W → Arg}
theorem ep_none : EPa X F none tNoPart G G (ret none) := ⟨po_none, fun T t σ s H Q h q => q H h⟩
theorem ep_some {mi : SM S Int} (h : EX X F a ta G G1 rInt mi) : EPa X F (some a) (tPart ta) G G1 (bnd mi fun i => ret (some i)) :=
  ⟨po_some h.pe, fun T t σ s H Q h0 q => h.go T t σ s H _ h0 (wp_mono (wp_bnd q) (fun i s1 q1 v H1 at1 => by
    obtain ⟨M, B, k, _⟩ := top_rel at1
    exact ⟨i, k, q1 H1 at1.pop⟩) fun _ _ z => z)⟩
/-- the items of xs[lo:hi] -/
def cutL {T : Type} (xs : List T) (lo hi : Option Int) : List T := (xs.drop (HT.sIx xs.length 0 lo)).take (HT.sIx xs.length xs.length hi - HT.sIx xs.length 0 lo)
theorem all3_drop {T : Type} {R : V → T → List Addr → Prop} : ∀ {vs : List V} {as : List T} {A : List Addr} (n : Nat), All3 R vs as A → ∃ A', All3 R (vs.drop n) (as.drop n) A' ∧ ∀ p, p ∈ A' → p ∈ A
  | _, _, _, 0, h => ⟨_, h, fun _ z => z⟩
  | _, _, _, n + 1, .nil => ⟨_, .nil, fun _ z => z⟩
  | _, _, _, n + 1, .cons h t => by
    obtain ⟨A', k, z⟩ := all3_drop n t
    exact ⟨A', k, fun p hp => List.mem_append_right _ (z p hp)⟩
theorem all3_take {T : Type} {R : V → T → List Addr → Prop} : ∀ {vs : List V} {as : List T} {A : List Addr} (n : Nat), All3 R vs as A → ∃ A', All3 R (vs.take n) (as.take n) A' ∧ ∀ p, p ∈ A' → p ∈ A
  | _, _, _, 0, h => ⟨[], .nil, fun _ z => by cases z⟩
  | _, _, _, n + 1, .nil => ⟨_, .nil, fun _ z => z⟩
  | _, _, _, n + 1, .cons (B := B) h t => by
    obtain ⟨A', k, z⟩ := all3_take n t
    refine ⟨B ++ A', .cons h k, fun p hp => ?_⟩
    rcases List.mem_append.mp hp with hp | hp
    · exact List.mem_append_left _ hp
    · exact List.mem_append_right _ (z p hp)
theorem all3_cut {T : Type} {R : V → T → List Addr → Prop} {vs : List V} {as : List T} {A : List Addr} (h : All3 R vs as A) (lo hi : Option Int) : ∃ A', All3 R (cutV vs lo hi) (cutL as lo hi) A' ∧ ∀ p, p ∈ A' → p ∈ A := by
  unfold cutV cutL
  rw [h.length]
  obtain ⟨A1, h1, s1⟩ := all3_drop (HT.sIx as.length 0 lo) h
  obtain ⟨A2, h2, s2⟩ := all3_take (HT.sIx as.length as.length hi - HT.sIx as.length 0 lo) h1
  exact ⟨A2, h2, fun p hp => s1 p (s2 p hp)⟩
/-- xs[lo:hi], items that own nothing -/
theorem ex_slice {lo hi : Option Expr} {tl th : TO} {ml mh : SM S (Option Int)} {xs : U → List Z} (h1 : EO X F a ta G G1 argU m1) (hl : EPa X F lo tl G1 G2 ml) (hh : EPa X F hi th G2 G3 mh) (c : r3.Cp) (hx : ∀ a s, Rdd (G3 s) (argU a) (rList r3) (xs a)) :
    EX X F (.Subscript a (.Slice lo hi none p2) pos) (tSl (rSlL X.K) ta tl th) G G3 (rList r3) (bnd m1 fun a => bnd ml fun l => bnd mh fun u => ret (cutL (xs a) l u)) :=
  ⟨pe_slice sl_list h1.pe hl.po hh.po, fun T t σ s H Q h0 q => by
    refine h1.go T t σ s H _ h0 (wp_mono (wp_bnd q) (fun a s1 q1 ts x H1 at1 av => ?_) fun _ _ z => z)
    refine hl.go _ _ σ s1 H1 _ at1 (wp_mono (wp_bnd q1) (fun l s2 q2 H2 at2 => ?_) fun _ _ z => z)
    refine hh.go _ _ σ s2 H2 _ at2 (wp_mono (wp_bnd q2) (fun u s3 q3 H3 at3 => ?_) fun _ _ z => z)
    obtain ⟨A1, A2, at3⟩ := at3
    obtain ⟨v, B, e1, p, vs, A, ev, hp, hA, eB⟩ := rddM (j := 0) at3 av rfl (hx a s3)
    cases e1
    have eA := cp_all c hA
    subst eA
    obtain ⟨A', hA', sub⟩ := all3_cut hA l u
    have eA' := cp_all c hA'
    subst eA'
    exact ⟨p, vs, ev, SqL.of hp, fun l hl => q3 _ _ (at3.newL av hA' hl)⟩⟩
end
end Td
set_option Elab.async false
set_option linter.all false
set_option maxRecDepth 100000
set_option maxHeartbeats 4000000
namespace Td
open PySem PySem.Spec PyProof.Rows L2
section
variable {K : PySem.W.Frag} {S : Type} {F : FC K S} {T : List Slot} {t : List V} {G : List Slot} {σ : L2.St} {H : Hp}
/-- a slot told otherwise -/
theorem At.conv {i : Nat} {g g' : Slot} (h : At F T t G σ H) (e : G[i]? = some g) (k : ∀ M H x B, σ[i]? = some x → g.ok K M H x B → g'.ok K M H x B) : At F T t (G.set i g') σ H := by
  obtain ⟨A1, A2, h⟩ := h
  obtain ⟨x, B, P1, P2, e1, hr, eA, back⟩ := h.loc.at_ e
  have z := back (A1 ++ A2 ++ F.M0) H g' x B (fun h _ => h) (k _ _ _ _ e1 hr)
  rw [set_self e1] at z
  subst eA
  exact ⟨A1, _, h.tmp, z, h.good⟩
theorem At.unpin {i : Nat} {w : V} {U : Type} {r : Rp U} {a : U} (h : At F T t G σ H) (e : G[i]? = some (.pn w r a)) : σ[i]? = some (some w) ∧ At F T t (G.set i (.is r a)) σ H := by
  refine ⟨?_, h.conv e fun M H x B _ hk => ⟨w, hk.1, hk.2⟩⟩
  obtain ⟨A1, A2, h⟩ := h
  obtain ⟨x, B, e1, h1, _⟩ := h.loc.mem e
  rw [e1, h1.1]
theorem At.repin {i : Nat} {w : V} {U : Type} {r : Rp U} {a : U} (h : At F T t G σ H) (e : G[i]? = some (.is r a)) (ew : σ[i]? = some (some w)) : At F T t (G.set i (.pn w r a)) σ H := by
  refine h.conv e fun M H x B ex hk => ?_
  obtain ⟨v, ev, hr⟩ := hk
  rw [ew, ev] at ex
  cases ex
  exact ⟨ev, hr⟩
theorem all3_set {T : Type} {R : V → T → List Addr → Prop} {vs : List V} {as : List T} (h : All3 R vs as []) {v : V} {a : T} (hr : R v a []) (j : Nat) : All3 R (vs.set j v) (as.set j a) [] := by
  generalize eA : ([] : List Addr) = A at h
  induction h generalizing j with
  | nil => simp; exact .nil
  | @cons v' a' B vs as A h t ih =>
    obtain ⟨rfl, rfl⟩ := List.append_eq_nil_iff.mp eA.symm
    cases j with
    | zero => exact .cons (B := []) hr t
    | succ j => exact .cons h (ih j rfl)
/-- the list in slot i: items that own nothing are set anew, temps stay -/
theorem At.putS {i : Nat} {U : Type} {r : Rp U} {xs ys : List U} (c : r.Cp) (h : At F T t G σ H) (e : G[i]? = some (.is (rList r) xs)) :
    ∃ D vs, σ[i]? = some (some (.ref D)) ∧ H D = some (.lst vs) ∧ vs.length = xs.length ∧ ∀ ws, (∀ M, All3 (r.rel K M H) vs xs [] → All3 (r.rel K M H) ws ys []) → At F T t (G.set i (.is (rList r) ys)) σ (upd H D (.lst ws)) := by
  obtain ⟨A1, A2, h⟩ := h
  obtain ⟨D, vs, B, e1, hD, hA, hl, nd0, k⟩ := h.mutS e
  have eB := cp_all c hA
  subst eB
  exact ⟨D, vs, e1, hD, hl, fun ws hw => k ws ys [] T t A1 (hw _ hA) h.tmp nd0 fun p hp => hp⟩
end
section
variable {X : Cx} {S : Type} {F : FC X.K S} {N L R U W Z : Type} {G G1 G2 G3 : S → List Slot} {GN : N → S → List Slot} {GL : L → S → List Slot} {r : Rp R} {r1 : Rp U} {r2 : Rp W} {r3 : Rp Z} {pos p0 p1 cpos apos : Pos} {rest : List Stmt} {tr : TS} {e e2 : Expr} {te te2 : TE}
def pushM {T : Type} (xs : List T) (y : T) : SM S (List T) := bnd (grd (xs.length < sizeLine)) fun _ => ret (xs ++ [y])
theorem ty_lst {K : PySem.W.Frag} {H : Hp} {p : Addr} {vs : List V} (h : H p = some (.lst vs)) : tyV K "list" (.ref p) H := Or.inl ⟨rfl, _, Or.inl (Or.inl h)⟩
/-- x.append(e) -/
theorem bx_app {xs : List U} {me : SM S U} {out : List U → SM S (Fl N L R)} {x : Str} (i : Nat) (h : EX X F e te G G1 r1 me) (hG0 : ∀ s, (G s)[i]? = some (.is (rList r1) xs)) (hG : ∀ s, (G1 s)[i]? = some (.is (rList r1) xs)) (hb : ∀ ys, BX X F rest tr (fun s => (G1 s).set i (.is (rList r1) ys)) GN GL r (out ys))
    (hN : X.N[i]? = some x := by rfl) (hv : Vis X.env.scope x := by first | exact Or.inl rfl | exact Or.inr (Or.inl rfl) | exact Or.inr (Or.inr rfl)) (hd : (x == ("__debug__" : Str)) = false := by decide) (hcd : (x == ("__classdict__" : Str)) = false := by decide)
    (hs : PySem.W.isStarred e = false := by rfl)
    (hfew : ((backTo cpos (starEach (e :: []) X.env)).all (fun x => !x.1) && (backToKw cpos (keywordEach [] X.env)).all (fun x => x.1.isSome)
      && decide ((e :: []).length + ([] : List Keyword).length + (if ([] : List Keyword).isEmpty then 0 else 1) < 30)) = true := by rfl) (hline : (apos.endLine == cpos.line) = true := by rfl) (hsw : swapsWith (.Call (.Attribute (.Name x p0) "append" apos) [e] [] cpos) none pos.line X.env = pure false := by rfl)
    (hbase : attributeBase (.Name x p0) "append" X.env (eval (.Name x p0) X.env) = eval (.Name x p0) X.env := by rfl) :
    BX X F (.Expr (.Call (.Attribute (.Name x p0) "append" apos) [e] [] cpos) pos :: rest) (tSeq (tDrop (tBM X.K "list" rAppend (tVar i) (tCons te tNil))) tr) G GN GL r (bnd me fun y => bnd (pushM xs y) out) :=
  ⟨pss_cons (ps_expr (pe_bm PySem.F.plainAttrs_list PySem.F.slot_list_append PySem.F.type_list_append mt_append (pe_var hN hv hd hcd) (pa_cons h.pe pa_nil (star1 hs)) hbase hfew hline (star1 hs) (by rfl)) hsw) (hb []).ps, fun T t σ s H D h0 q => by
    have e0 := h0
    obtain ⟨v0, M0, B0, ev0, hr0⟩ := e0.slot (hG0 s)
    obtain ⟨p0', vs0, A0, ep0, hp0, _⟩ := hr0
    subst ep0
    refine ⟨_, ev0, ty_lst hp0, ?_⟩
    refine h.go T t σ s H _ h0 (wp_mono (wp_bnd q) (fun y s1 q1 v H1 at1 => ?_) fun e s z => z σ)
    obtain ⟨hz, q2⟩ := wp_grd (wp_bnd (wp_bnd q1))
    obtain ⟨D', vs, e1, hD, hl, at2⟩ := at1.appendS (hG s1)
    rw [ev0] at e1
    cases e1
    exact ⟨p0', vs, v, rfl, rfl, hD, by rw [hl]; exact hz, (hb _).go T t σ s1 _ D at2 q2⟩⟩
def setM {T : Type} (xs : List T) (i : Int) (v : T) : SM S (List T) := match ixN xs.length i with
  | some j => ret (xs.set j v)
  | none => stk
theorem wp_setM {T : Type} {xs : List T} {i : Int} {v : T} {s : S} {P : List T → S → Prop} {E : Exn → S → Prop} (h : (setM xs i v s).wp P E) : ∃ j, ixN xs.length i = some j ∧ P (xs.set j v) s := by
  unfold setM at h
  cases e : ixN xs.length i with
  | none => rw [e] at h; exact h.elim
  | some j => rw [e] at h; exact ⟨j, rfl, h⟩
/-- x[k] = e, x an own list -/
theorem bx_setS {xs : List U} {me : SM S U} {mi : SM S Int} {out : List U → SM S (Fl N L R)} {x : Str} (i : Nat) (c : r1.Cp) (h : EX X F e te G G1 r1 me) (h2 : EX X F e2 te2 G1 G2 rInt mi) (hG1 : ∀ s, (G1 s)[i]? = some (.is (rList r1) xs)) (hG : ∀ s, (G2 s)[i]? = some (.is (rList r1) xs)) (hb : ∀ ys, BX X F rest tr (fun s => (G2 s).set i (.is (rList r1) ys)) GN GL r (out ys))
    (hN : X.N[i]? = some x := by rfl) (hv : Vis X.env.scope x := by first | exact Or.inl rfl | exact Or.inr (Or.inl rfl) | exact Or.inr (Or.inr rfl)) (hd : (x == ("__debug__" : Str)) = false := by decide) (hcd : (x == ("__classdict__" : Str)) = false := by decide)
    (ha : ∀ v, assign (.Subscript (.Name x p0) e2 p1) X.env v = (do
      let ov ← holding [v] (eval (.Name x p0) X.env)
      let iv ← holding [v, ov] (eval e2 X.env)
      standAt p1
      holding [v, ov, iv] (setItem ov iv v)
      release [v, ov, iv] []) := by intro _; rfl)
    (hs : swapsWithSole [(.Subscript (.Name x p0) e2 p1)] e pos.line X.env = pure false := by rfl) (hw : swappedStores [(.Subscript (.Name x p0) e2 p1)] e X.env = pure none := by rfl) (h1 : (assignEach [(.Subscript (.Name x p0) e2 p1)] X.env).map (·.2) = [assign (.Subscript (.Name x p0) e2 p1) X.env] := by rfl) :
    BX X F (.Assign [.Subscript (.Name x p0) e2 p1] e pos :: rest) (tSeq (tAsg te (gSub (tVar i) te2 rSetL)) tr) G GN GL r (bnd me fun v => bnd mi fun k => bnd (setM xs k v) out) :=
  ⟨pss_cons (ps_asg h.pe (pg_sub (pe_var hN hv hd hcd) h2.pe set_list ha) hs hw h1) (hb []).ps, fun T t σ s H D h0 q => by
    refine h.go T t σ s H _ h0 (wp_mono (wp_bnd q) (fun y s1 q1 v H1 at1 => ?_) fun e s z => z σ)
    obtain ⟨v0, M0, B0, ev0, hr0⟩ := at1.slot (hG1 s1)
    refine ⟨v0, ev0, ?_⟩
    refine h2.go _ _ σ s1 H1 _ at1 (wp_mono (wp_bnd q1) (fun k s2 q2 w H2 at2 => ?_) fun e s z => z σ)
    obtain ⟨_, _, ek, _⟩ := top_rel at2
    subst ek
    obtain ⟨j, hj, q3⟩ := wp_setM (wp_bnd q2)
    have at3 := at2.pop
    obtain ⟨A1, A2, at4⟩ := at3
    obtain ⟨C, A', eA, ⟨v', ev, hry⟩, ht⟩ := AtS.cons_inv at4.tmp
    cases ev
    have eC := c hry
    subst eC
    obtain ⟨D', vs, B, e1, hD, hA, hl, nd0, kk⟩ := at4.mutS (hG s2)
    rw [ev0] at e1
    cases e1
    have eB := cp_all c hA
    subst eB
    refine ⟨D', vs, k, j, rfl, rfl, hD, by rw [hl]; exact hj, ?_⟩
    exact (hb _).go T t σ s2 _ D (kk (vs.set j v) (xs.set j y) [] T t A' (all3_set hA hry j) ht (by rw [eA] at nd0; exact nd0) fun p hp => by rw [eA]; exact hp) q3⟩
def stIx {T : Type} (i : Int) : SM (List T) T := fun s => match atI s i with
  | some a => .ok a s
  | none => .stuck
def stSet {T : Type} (i : Int) (v : T) : SM (List T) Unit := fun s => match ixN s.length i with
  | some j => .ok () (s.set j v)
  | none => .stuck
end
section
variable {X : Cx} {A : Type} {F : FC X.K (List A)} {N L R : Type} {G G1 G2 : List A → List Slot} {GN : N → List A → List Slot} {GL : L → List A → List Slot} {r : Rp R} {ra : Rp A} {pos p0 p1 : Pos} {rest : List Stmt} {tr : TS} {e e2 b : Expr} {te te2 tb : TE}
/-- s[k] -/
theorem ex_stix {mi : SM (List A) Int} {x : Str} {w : V} (i : Nat) (h : EX X F b tb G G1 rInt mi) (c : ra.Cp) (hG0 : ∀ s, (G s)[i]? = some (.pn w (rList ra) s)) (hG : ∀ s, (G1 s)[i]? = some (.pn w (rList ra) s)) (hs : PlainIx b := by exact fun _ _ => rfl)
    (hN : X.N[i]? = some x := by rfl) (hv : Vis X.env.scope x := by first | exact Or.inl rfl | exact Or.inr (Or.inl rfl) | exact Or.inr (Or.inr rfl)) (hd : (x == ("__debug__" : Str)) = false := by decide) (hcd : (x == ("__classdict__" : Str)) = false := by decide) :
    EX X F (.Subscript (.Name x p0) b pos) (tOp (rIxL X.K) (tVar i) tb) G G1 ra (bnd mi fun k => stIx k) :=
  ⟨pe_ix ix_list (pe_var hN hv hd hcd) h.pe hs, fun T t σ s H Q h0 q => by
    obtain ⟨A1, A2, h0'⟩ := id h0
    obtain ⟨x0, B, e1, h1, _⟩ := h0'.loc.mem (hG0 s)
    obtain ⟨ex, _⟩ := h1
    subst ex
    refine ⟨w, e1, ?_⟩
    refine h.go T t σ s H _ h0 (wp_mono (wp_bnd q) (fun k s1 q1 v H1 at1 => ?_) fun _ _ z => z)
    obtain ⟨_, _, ek, _⟩ := top_rel at1
    subst ek
    obtain ⟨A1', A2', at2⟩ := at1.pop
    obtain ⟨x1, B1, e2, h2, sub⟩ := at2.loc.mem (hG s1)
    obtain ⟨ex, p, vs, C, ep, hp, hA, eB⟩ := h2
    subst ex ep
    unfold stIx at q1
    cases ei : atI s1 k with
    | none => rw [ei] at q1; exact q1.elim
    | some a =>
      rw [ei] at q1
      obtain ⟨u, Bu, e3, hr, _⟩ := atI_all (K := X.K) hA ei
      have eBu := c hr
      subst eBu
      exact ⟨p, vs, k, u, rfl, rfl, SqL.of hp, e3, q1 u H1 ⟨A1', A2', at2.pushM hr⟩⟩⟩
/-- s[k] = e -/
theorem bx_stset {me : SM (List A) A} {mi : SM (List A) Int} {out : SM (List A) (Fl N L R)} {x : Str} {w : V} (i : Nat) (c : ra.Cp) (h : EX X F e te G G1 ra me) (h2 : EX X F e2 te2 G1 G2 rInt mi) (hG1 : ∀ s, (G1 s)[i]? = some (.pn w (rList ra) s)) (hG : ∀ s, (G2 s)[i]? = some (.pn w (rList ra) s)) (hset : ∀ s s', (G2 s).set i (.pn w (rList ra) s') = G2 s')
    (hb : BX X F rest tr G2 GN GL r out)
    (hN : X.N[i]? = some x := by rfl) (hv : Vis X.env.scope x := by first | exact Or.inl rfl | exact Or.inr (Or.inl rfl) | exact Or.inr (Or.inr rfl)) (hd : (x == ("__debug__" : Str)) = false := by decide) (hcd : (x == ("__classdict__" : Str)) = false := by decide)
    (ha : ∀ v, assign (.Subscript (.Name x p0) e2 p1) X.env v = (do
      let ov ← holding [v] (eval (.Name x p0) X.env)
      let iv ← holding [v, ov] (eval e2 X.env)
      standAt p1
      holding [v, ov, iv] (setItem ov iv v)
      release [v, ov, iv] []) := by intro _; rfl)
    (hs : swapsWithSole [(.Subscript (.Name x p0) e2 p1)] e pos.line X.env = pure false := by rfl) (hw : swappedStores [(.Subscript (.Name x p0) e2 p1)] e X.env = pure none := by rfl) (h1 : (assignEach [(.Subscript (.Name x p0) e2 p1)] X.env).map (·.2) = [assign (.Subscript (.Name x p0) e2 p1) X.env] := by rfl) :
    BX X F (.Assign [.Subscript (.Name x p0) e2 p1] e pos :: rest) (tSeq (tAsg te (gSub (tVar i) te2 rSetL)) tr) G GN GL r (bnd me fun v => bnd mi fun k => bnd (stSet k v) fun _ => out) :=
  ⟨pss_cons (ps_asg h.pe (pg_sub (pe_var hN hv hd hcd) h2.pe set_list ha) hs hw h1) hb.ps, fun T t σ s H D h0 q => by
    refine h.go T t σ s H _ h0 (wp_mono (wp_bnd q) (fun y s1 q1 v H1 at1 => ?_) fun e s z => z σ)
    obtain ⟨ev0, _⟩ := at1.unpin (hG1 s1)
    refine ⟨w, ev0, ?_⟩
    refine h2.go _ _ σ s1 H1 _ at1 (wp_mono (wp_bnd q1) (fun k s2 q2 w2 H2 at2 => ?_) fun e s z => z σ)
    obtain ⟨_, _, ek, _⟩ := top_rel at2
    subst ek
    have q3 := wp_bnd q2
    unfold stSet at q3
    cases hj : ixN s2.length k with
    | none => rw [hj] at q3; exact q3.elim
    | some j =>
      rw [hj] at q3
      obtain ⟨_, at3⟩ := at2.pop.unpin (hG s2)
      obtain ⟨A1, A2, at4⟩ := at3
      obtain ⟨C, A', eA, ⟨v', ev, hry⟩, ht⟩ := AtS.cons_inv at4.tmp
      cases ev
      have eC := c hry
      subst eC
      have hlt : i < (G2 s2).length := (List.getElem?_eq_some_iff.mp (hG s2)).1
      obtain ⟨D', vs, B, e1, hD, hA, hl, nd0, kk⟩ := at4.mutS (i := i) (r := ra) (xs := s2) (List.getElem?_set_self hlt)
      rw [ev0] at e1
      cases e1
      have eB := cp_all c hA
      subst eB
      refine ⟨D', vs, k, j, rfl, rfl, hD, by rw [hl]; exact hj, ?_⟩
      have z := kk (vs.set j v) (s2.set j y) [] T t A' (all3_set hA hry j) ht (by rw [eA] at nd0; exact nd0) fun p hp => by rw [eA]; exact hp
      have z2 := z.repin (w := .ref D') (i := i) (r := rList ra) (a := s2.set j y) (by rw [List.set_set, List.getElem?_set_self hlt]) ev0
      rw [List.set_set, List.set_set, hset] at z2
      exact hb.go T t σ _ _ D z2 q3⟩
end
section
variable {X : Cx} {S : Type} {F : FC X.K S} {N L R U W Z : Type} {G G1 G2 G3 : S → List Slot} {GN : N → S → List Slot} {GL : L → S → List Slot} {r : Rp R} {r1 : Rp U} {r2 : Rp W} {r3 : Rp Z} {pos p0 p1 : Pos} {rest : List Stmt} {tr : TS} {e e2 : Expr} {te te2 : TE}
/-- an operation op= of ints -/
def IpI (X : Cx) (op : Operator) (rr : TIp) (C : Int → Int → Prop) (f : Int → Int → Int) : Prop := PIp X op rr ∧ ∀ i j H Q, C i j → Q (.int (f i j)) H → rr (.int i) (.int j) H Q
theorem ipi_add : IpI X .Add (ipI fun i j => i + j) (fun _ _ => True) (fun i j => i + j) := ⟨ip_add, fun i j H Q _ q => ⟨i, j, rfl, rfl, q⟩⟩
/-- x op= e, ints -/
theorem bx_augI {op : Operator} {rr : TIp} {f : Int → Int → Int} {a : Int} {me : SM S Int} {out : Int → SM S (Fl N L R)} {x : Str} (i : Nat) (ho : IpI X op rr (fun _ _ => True) f) (hN : X.N.Nodup) (h : EX X F e te G G1 rInt me) (hG0 : ∀ s, (G s)[i]? = some (.is rInt a)) (hb : ∀ v, BX X F rest tr (fun s => (G1 s).set i (.is rInt v)) GN GL r (out v)) {gs : S → Slot} (hG : ∀ s, (G1 s)[i]? = some (gs s))
    (hi : X.N[i]? = some x := by rfl) (hx : Loc X.env.scope x := by first | exact Or.inl rfl | exact Or.inr rfl) (hf : X.fn x = true ∨ X.env.scope.names.lookup x = some .local := by first | exact .inl rfl | exact .inr rfl) :
    BX X F (.AugAssign (.Name x p0) op e pos :: rest) (tSeq (tAug i te rr) tr) G GN GL r (bnd me fun v => bnd (ret (f a v)) out) :=
  ⟨pss_cons (ps_aug hN hi hx h.pe ho.1 hf) (hb 0).ps, fun T t σ s H D h0 q => by
    obtain ⟨v0, M0, B0, ev0, hr0⟩ := h0.slot (hG0 s)
    obtain ⟨e0, _⟩ := hr0
    subst e0
    refine ⟨_, ev0, ?_⟩
    refine h.go T t σ s H _ h0 (wp_mono (wp_bnd q) (fun y s1 q1 v H1 at1 => ?_) fun e s z => z σ)
    obtain ⟨_, _, ek, _⟩ := top_rel at1
    subst ek
    exact ho.2 a y H1 _ trivial ((hb _).go T t _ s1 H1 D (At.store (g := .is rInt (f a y)) (At.push (r := rInt) at1.pop fun _ => ⟨rfl, rfl⟩) i (hG s1)) q1)⟩
/-- x += e, lists of things that own nothing -/
theorem bx_augL {xs : List U} {me : SM S (List U)} {out : List U → SM S (Fl N L R)} {x : Str} (i : Nat) (c : r1.Cp) (hN : X.N.Nodup) (h : EX X F e te G G1 (rList r1) me) (hG0 : ∀ s, (G s)[i]? = some (.is (rList r1) xs)) (hG : ∀ s, (G1 s)[i]? = some (.is (rList r1) xs)) (hb : ∀ v, BX X F rest tr (fun s => (G1 s).set i (.is (rList r1) v)) GN GL r (out v))
    (hi : X.N[i]? = some x := by rfl) (hx : Loc X.env.scope x := by first | exact Or.inl rfl | exact Or.inr rfl) (hf : X.fn x = true ∨ X.env.scope.names.lookup x = some .local := by first | exact .inl rfl | exact .inr rfl) :
    BX X F (.AugAssign (.Name x p0) .Add e pos :: rest) (tSeq (tAug i te rExt2) tr) G GN GL r (bnd me fun v => bnd (catM xs v) out) :=
  ⟨pss_cons (ps_aug hN hi hx h.pe iop_ext hf) (hb []).ps, fun T t σ s H D h0 q => by
    obtain ⟨v0, M0, B0, ev0, hr0⟩ := h0.slot (hG0 s)
    obtain ⟨p0', vs0, A0, ep0, hp0, _⟩ := hr0
    subst ep0
    refine ⟨_, ev0, ?_⟩
    refine h.go T t σ s H _ h0 (wp_mono (wp_bnd q) (fun ys s1 q1 v H1 at1 => ?_) fun e s z => z σ)
    obtain ⟨A1, A2, at4⟩ := at1
    obtain ⟨C, A', eA, ⟨v', ev, p2, ws, A3, ep2, hp2, hA2, eC⟩, ht⟩ := AtS.cons_inv at4.tmp
    cases ev
    subst ep2 eC
    have eA3 := cp_all c hA2
    subst eA3
    obtain ⟨D', vs, B, e1, hD, hA, hl, nd0, kk⟩ := at4.mutS (hG s1)
    rw [ev0] at e1
    cases e1
    have eB := cp_all c hA
    subst eB
    obtain ⟨hz, q2⟩ := wp_grd (wp_bnd (wp_bnd q1))
    have hz' : (xs ++ ys).length ≤ sizeLine := hz
    rw [List.length_append, ← hl, ← hA2.length] at hz'
    refine ⟨p0', p2, vs, ws, rfl, rfl, hD, hp2, hz', ?_⟩
    have z := kk (vs ++ ws) (xs ++ ys) [] T t A' (hA.append hA2) ht (by rw [eA] at nd0; simpa using (List.nodup_cons.mp (by simpa using nd0)).2) fun p hp => by rw [eA]; simp at hp ⊢; exact .inr hp
    have z2 := (hb _).go T t σ s1 _ D z q2
    rwa [← set_self (T := Option V) ev0] at z2⟩
/-- x, y, z = e1, e2, e3 -/
theorem bx_par3 {a b c : Expr} {ta tb tc : TE} {m1 : SM S U} {m2 : SM S W} {m3 : SM S Z} {out : U → W → Z → SM S (Fl N L R)} {x y z : Str} {px py pz pt pt2 : Pos} {kt k2 : Nat} (i j l : Nat) {gs gs' gs2 : S → Slot} (hN : X.N.Nodup) (hc : X.calm = true) (hij : i ≠ j) (hil : i ≠ l) (hjl : j ≠ l)
    (h1 : EX X F a ta G G1 r1 m1) (h2 : EX X F b tb G1 G2 r2 m2) (h3 : EX X F c tc G2 G3 r3 m3) (hb : ∀ a b c, BX X F rest tr (fun s => (((G3 s).set l (.is r3 c)).set j (.is r2 b)).set i (.is r1 a)) GN GL r (out a b c)) (ha : Inhabited U) (ha2 : Inhabited W) (ha3 : Inhabited Z) (he : ∀ s, (G3 s)[i]? = some (gs s)) (he2 : ∀ s, (G3 s)[j]? = some (gs' s)) (he3 : ∀ s, (G3 s)[l]? = some (gs2 s))
    (hw : swappedStores [.Tuple [.Name x px, .Name y py, .Name z pz] kt pt] (.Tuple [a, b, c] k2 pt2) X.env = pure (some [x, y, z]) := by rfl) (hs : swapsWithSole [.Tuple [.Name x px, .Name y py, .Name z pz] kt pt] (.Tuple [a, b, c] k2 pt2) pos.line X.env = pure false := by rfl)
    (hi : X.N[i]? = some x := by rfl) (hj : X.N[j]? = some y := by rfl) (hl : X.N[l]? = some z := by rfl) (hx : X.env.scope.names.lookup x = some .local := by rfl) (hy : X.env.scope.names.lookup y = some .local := by rfl) (hz : X.env.scope.names.lookup z = some .local := by rfl) (hsa : PySem.W.isStarred a = false := by rfl) (hsb : PySem.W.isStarred b = false := by rfl) (hsc : PySem.W.isStarred c = false := by rfl) :
    BX X F (.Assign [.Tuple [.Name x px, .Name y py, .Name z pz] kt pt] (.Tuple [a, b, c] k2 pt2) pos :: rest) (tSeq (tPar3 i j l (tCons ta (tCons tb (tCons tc tNil)))) tr) G GN GL r (bnd m1 fun a => bnd m2 fun b => bnd m3 fun c => out a b c) :=
  ⟨pss_cons (ps_par3 hc hN hi hj hl hij hil hjl hx hy hz (pa_cons h1.pe (pa_cons h2.pe (pa_cons h3.pe pa_nil (star1 hsc)) (star1 hsb)) (star1 hsa)) hw hs) (hb ha.default ha2.default ha3.default).ps, fun T t σ s H D h0 q => by
    refine h1.go T t σ s H _ h0 (wp_mono (wp_bnd q) (fun a s1 q1 v H1 at1 => ?_) fun e s z => z σ)
    refine h2.go _ _ σ s1 H1 _ at1 (wp_mono (wp_bnd q1) (fun b s2 q2 w H2 at2 => ?_) fun e s z => z σ)
    refine h3.go _ _ σ s2 H2 _ at2 (wp_mono (wp_bnd q2) (fun c s3 q3 u H3 at3 => ?_) fun e s z => z σ)
    refine ⟨v, w, u, rfl, (hb a b c).go T t _ s3 H3 D ?_ q3⟩
    have z := ((at3.store l (he3 s3)).store j (by rw [List.getElem?_set_ne (Ne.symm hjl)]; exact he2 s3)).store i (by rw [List.getElem?_set_ne (Ne.symm hij), List.getElem?_set_ne (Ne.symm hil)]; exact he s3)
    rw [List.set_comm (l := σ) _ _ (Ne.symm hjl), List.set_comm (l := σ.set j _) _ _ (Ne.symm hil), List.set_comm (l := σ) _ _ (Ne.symm hij)] at z
    exact z⟩
end
end Td
set_option Elab.async false
set_option linter.all false
set_option maxRecDepth 100000
set_option maxHeartbeats 4000000
namespace Td
open PySem PySem.Spec PyProof.Rows L2 He
/-- a def: where its object stands, its text -/
structure Df where
  adr : PySem.W.Frag → Addr
  name : Str
  qual : Str
  params : Arguments
  body : List Stmt
  scope : Scope
def fnA (K : PySem.W.Frag) (a : Addr) : FnW := match K.lookup a with
  | some ⟨_, _, .func fd, _⟩ => some (fd.name, fd.qualname, fd.params, fd.body, fd.scope, fd.globals, fd.closure, fd.builtins)
  | _ => none
def Df.told (d : Df) : FnW := some (d.name, d.qual, d.params, .stmts d.body, d.scope, mainGlobals, [], builtinsNs)
def Df.fit (K : PySem.W.Frag) (d : Df) : Bool := PySem.W.keepIn K (.ref (d.adr K)) && (match K.lookup (d.adr K) with
  | some ⟨_, _, .func fd, _⟩ => PySem.W.codeIn K fd.code d.qual && (dflB K fd.defaults [] && kwdB K fd.kwdefaults [])
  | _ => false)
theorem Df.funD {K : PySem.W.Frag} {d : Df} (e : fnA K (d.adr K) = d.told) (c : d.fit K = true) : ∃ fd, FunD K d.name d.qual d.params d.body d.scope [] [] (d.adr K) fd := by
  obtain ⟨kp, c2⟩ := ba c
  unfold fnA at e
  cases q : K.lookup (d.adr K) with
  | none => rw [q] at c2; cases c2
  | some o =>
    obtain ⟨oc, od, dt, osl⟩ := o
    rw [q] at c2 e
    cases dt with
    | func fd =>
      obtain ⟨n1, n2, n3, n4, n5, n6, n7, n8, n9, n10, n11, n12, n13, n14, n15⟩ := fd
      have e2 : (some (n1, n2, n3, n4, n5, n6, n7, n15) : FnW) = some (d.name, d.qual, d.params, .stmts d.body, d.scope, mainGlobals, [], builtinsNs) := e
      simp only [Option.some.injEq, Prod.mk.injEq] at e2
      obtain ⟨h1, h2, h3, h4, h5, h6, h7, h8⟩ := e2
      subst h1 h2 h3 h4 h5 h6 h7 h8
      have c3 : (PySem.W.codeIn K n13 d.qual && (dflB K n8 [] && kwdB K n9 [])) = true := c2
      obtain ⟨k1, k2⟩ := ba c3
      obtain ⟨k3, k4⟩ := ba k2
      exact ⟨_, ⟨oc, od, n8, n9, n10, n11, n12, n13, n14, osl, rfl, q, k1, dflB_ok k3, kwdB_ok k4⟩, kp⟩
    | _ => cases c2
abbrev AlTd : Type := Bool × List FnW
def obsTd (ex : PySem.W.Frag → Bool) (fs : List Df) (K : PySem.W.Frag) : AlTd := (ex K && fs.all fun d => d.fit K, fs.map fun d => fnA K (d.adr K))
def valTd (fs : List Df) : AlTd := (true, fs.map Df.told)
def SaysTd (ex : PySem.W.Frag → Bool) (fs : List Df) (K : PySem.W.Frag) : Prop := obsTd ex fs K = valTd fs
def cutT (ts : List Addr) (K : PySem.W.Frag) : PySem.W.Frag := K.filter fun x => !(ts.contains x.1)
theorem cutT_lookup {ts : List Addr} : ∀ {K : PySem.W.Frag} {b : Addr} {o : Obj}, (cutT ts K).lookup b = some o → K.lookup b = some o
  | [], b, o, h => h
  | (a, u) :: l, b, o, h => by
    unfold cutT at h
    rw [List.filter_cons] at h
    have rest : (cutT ts l).lookup b = some o → b ∉ ts := fun q z => by
      have key : ∀ (l : PySem.W.Frag), (cutT ts l).lookup b = some o → b ∉ ts := by
        intro l
        induction l with
        | nil => intro q; cases q
        | cons y l ih =>
          intro q
          unfold cutT at q
          rw [List.filter_cons] at q
          by_cases hy : ts.contains y.1 = true
          · rw [hy] at q
            exact ih q
          · rw [Bool.not_eq_true] at hy
            rw [hy] at q
            obtain ⟨y1, y2⟩ := y
            have q2 : List.lookup b ((y1, y2) :: l.filter fun x => !(ts.contains x.1)) = some o := q
            rw [List.lookup_cons] at q2
            by_cases e : b == y1
            · intro z
              rw [beq_iff_eq.mp e] at z
              have hy' : ts.contains y1 = false := hy
              rw [List.contains_iff_mem.mpr z] at hy'
              cases hy'
            · rw [Bool.not_eq_true] at e
              rw [e] at q2
              exact ih q2
      exact key l q z
    by_cases ha : ts.contains a = true
    · have h2 : (cutT ts l).lookup b = some o := by
        have e : (!(ts.contains (a, u).1)) = false := by rw [ha]; rfl
        rw [e] at h
        exact h
      have hb := rest h2
      have hne : (b == a) = false := beq_eq_false_iff_ne.mpr fun z => hb (by rw [z]; exact List.contains_iff_mem.mp ha)
      rw [List.lookup_cons, hne]
      exact cutT_lookup h2
    · rw [Bool.not_eq_true] at ha
      have e : (!(ts.contains (a, u).1)) = true := by rw [ha]; rfl
      rw [e] at h
      have h' : List.lookup b ((a, u) :: cutT ts l) = some o := h
      rw [List.lookup_cons] at h' ⊢
      cases q : b == a with
      | true => rw [q] at h'; exact h'
      | false => rw [q] at h'; exact cutT_lookup h'
theorem cutT_in {ts : List Addr} {K : PySem.W.Frag} {h : Heap} (k : K.In h) : (cutT ts K).In h := fun b o e => k b o (cutT_lookup e)
/-- the code objects of the defs with lambdas, and their tables -/
def tabCs (K : PySem.W.Frag) : List (Addr × Addr) := lamDefs.filterMap fun nm => (codeNm K nm).bind fun c => (tabC K c).map fun P => (c, P)
theorem tabCs_snd (K : PySem.W.Frag) : (tabCs K).map (·.2) = tabL K := by
  unfold tabCs tabL
  rw [List.map_filterMap]
  congr 1
  funext nm
  unfold tabNm
  cases codeNm K nm with
  | none => rfl
  | some c =>
    show Option.map _ ((tabC K c).map fun P => (c, P)) = tabC K c
    cases tabC K c <;> rfl
def emptyT : Option Obj → Bool
  | some ⟨.none, none, .fields vs, sl⟩ => vs.size == 0 && sl.size == 0
  | _ => false
theorem emptyT_ok {o : Option Obj} (h : emptyT o = true) : o = some { cls := .none, data := .fields #[] } := by
  unfold emptyT at h
  split at h
  · rename_i vs sl
    obtain ⟨h1, h2⟩ := ba h
    rw [Array.eq_empty_of_size_eq_zero (beq_iff_eq.mp h1), Array.eq_empty_of_size_eq_zero (beq_iff_eq.mp h2)]
  · cases h
def nodB : List Addr → Bool
  | [] => true
  | a :: l => !(l.contains a) && nodB l
theorem nodB_ok : ∀ {l : List Addr}, nodB l = true → l.Nodup
  | [], _ => List.nodup_nil
  | a :: l, h => by
    obtain ⟨h1, h2⟩ := ba h
    refine List.nodup_cons.mpr ⟨fun z => ?_, nodB_ok h2⟩
    rw [List.contains_iff_mem.mpr z] at h1
    cases h1
structure TabsOk (K : PySem.W.Frag) (h : Heap) : Prop where
  nd : (tabL K).Nodup
  emp : ∀ p ∈ tabCs K, h.get? p.2 = some { cls := .none, data := .fields #[] }
  out : ∀ p ∈ tabCs K, K.lookup p.2 = none
  hd : ∀ p ∈ tabCs K, PySem.W.CodeHd h p.1 p.2
def tabsB (g : Addr → Option Obj) (K : PySem.W.Frag) : Bool := nodB (tabL K) && (tabCs K).all fun p => emptyT (g p.2) && ((K.lookup p.2).isNone && PySem.W.codeHdIn K p.1 p.2)
theorem tabsB_ok {K : PySem.W.Frag} {h : Heap} (k : K.In h) (e : tabsB h.get? K = true) : TabsOk K h := by
  obtain ⟨e1, e2⟩ := ba e
  have e3 := List.all_eq_true.mp e2
  refine ⟨nodB_ok e1, fun p hp => emptyT_ok (ba (e3 p hp)).1, fun p hp => ?_, fun p hp => PySem.W.codeHd_of_K k (ba (ba (e3 p hp)).2).2⟩
  have z := (ba (ba (e3 p hp)).2).1
  cases q : K.lookup p.2 with
  | none => rfl
  | some o => rw [q] at z; cases z
/-- no table is another def's -/
theorem TabsOk.inj {K : PySem.W.Frag} {h : Heap} (t : TabsOk K h) {nm nm' : Str} {P : Addr} (h1 : nm ∈ lamDefs) (h2 : nm' ∈ lamDefs) (e1 : tabNm K nm = some P) (e2 : tabNm K nm' = some P) : nm = nm' := by
  have nd := t.nd
  unfold tabL at nd
  have key : ∀ l : List Str, (l.filterMap (tabNm K)).Nodup → nm ∈ l → nm' ∈ l → nm = nm' := by
    intro l
    induction l with
    | nil => intro _ z; cases z
    | cons x l ih =>
      intro nd m1 m2
      have mem : ∀ {y : Str}, y ∈ l → tabNm K y = some P → P ∈ l.filterMap (tabNm K) := fun hy e => List.mem_filterMap.mpr ⟨_, hy, e⟩
      have nd2 : (l.filterMap (tabNm K)).Nodup := by
        cases q : tabNm K x with
        | none => rw [List.filterMap_cons_none q] at nd; exact nd
        | some R => rw [List.filterMap_cons_some q] at nd; exact (List.nodup_cons.mp nd).2
      rcases List.mem_cons.mp m1 with a1 | a1
      · rcases List.mem_cons.mp m2 with a2 | a2
        · rw [a1, a2]
        · rw [a1] at e1
          rw [List.filterMap_cons_some e1] at nd
          exact absurd (mem a2 e2) (List.nodup_cons.mp nd).1
      · rcases List.mem_cons.mp m2 with a2 | a2
        · rw [a2] at e2
          rw [List.filterMap_cons_some e2] at nd
          exact absurd (mem a1 e1) (List.nodup_cons.mp nd).1
        · exact ih nd2 a1 a2
  exact key _ nd h1 h2
/-- all that the top reaches in n steps but the tables (lm: there are some) -/
def frT (lm : Bool) (n : Nat) (g : Addr → Option Obj) : PySem.W.Frag := match lm with
  | false => frG g (asD g n)
  | true => cutT (tabL (frG g (asD g n))) (frG g (asD g n))
theorem frT_in {lm : Bool} {n : Nat} {s : Shared} : (frT lm n s.heap.get?).In s.heap := by
  cases lm with
  | false => exact frG_in
  | true => exact cutT_in frG_in
def obsTdG (lm : Bool) (n : Nat) (ex : PySem.W.Frag → Bool) (fs : List Df) (g : Addr → Option Obj) : Bool × AlTd := (tabsB g (frT lm n g), obsTd ex fs (frT lm n g))
def hookTd (lm : Bool) (n : Nat) (ex : PySem.W.Frag → Bool) (fs : List Df) : PySem.W.Hook where
  α := Bool × AlTd
  obs := fun s => obsTdG lm n ex fs s.heap.get?
  val := fun _ => (true, valTd fs)
  says := fun _ h => ∃ K : PySem.W.Frag, K.In h ∧ SaysTd ex fs K ∧ TabsOk K h
  of := fun _ _ e => ⟨_, frT_in, congrArg Prod.snd e, tabsB_ok frT_in (congrArg Prod.fst e)⟩
  keeps := fun _ _ _ ⟨K, hK, c, t⟩ k => ⟨K, PySem.W.Frag.In.keeps hK k, c, t.nd, fun p hp => k _ _ (t.emp p hp), t.out, fun p hp => (t.hd p hp).keeps k⟩
theorem obsTdG_eq {lm : Bool} {n : Nat} {ex : PySem.W.Frag → Bool} {fs : List Df} {g : Addr → Option Obj} {s : Shared} (h : ∀ a, g a = s.heap.get? a) : obsTdG lm n ex fs g = (hookTd lm n ex fs).obs s := by
  have e : g = s.heap.get? := funext h
  subst e; rfl
section
variable {ex : PySem.W.Frag → Bool} {fs : List Df} {K : PySem.W.Frag}
theorem SaysTd.more (c : SaysTd ex fs K) : ex K = true := (ba (congrArg (fun z : AlTd => z.1) c)).1
theorem SaysTd.df (c : SaysTd ex fs K) (i : Nat) {d : Df} (h : fs[i]? = some d := by rfl) : ∃ fd, FunD K d.name d.qual d.params d.body d.scope [] [] (d.adr K) fd := by
  have c2 : (fs.all fun d => d.fit K) = true := (ba (congrArg (fun z : AlTd => z.1) c)).2
  have e : fs.map (fun d => fnA K (d.adr K)) = fs.map Df.told := congrArg (fun z : AlTd => z.2) c
  have e2 : (fs.map fun d => fnA K (d.adr K))[i]? = (fs.map Df.told)[i]? := by rw [e]
  rw [List.getElem?_map, List.getElem?_map, h] at e2
  exact Df.funD (Option.some.inj e2) (List.all_eq_true.mp c2 d (List.mem_of_getElem? h))
end
def gaB (K : PySem.W.Frag) (x : Str) : Bool := (Fa.glo x).ok K
def frB (K : PySem.W.Frag) (x : Str) : Bool := (Fa.free x).ok K
def slcB (K : PySem.W.Frag) (C : Addr) : Bool := PySem.W.plainGet K C Str.empty && (PySem.W.isClsIn K C && (PySem.W.plainOver K C && eqO (PySem.W.findIn K (.ref C) "__setattr__") (some (some (.builtin "object.__setattr__")))))
theorem slcB_ok {K : PySem.W.Frag} {C : Addr} (h : slcB K C = true) : SlX.SCls K C := by
  obtain ⟨h1, h2⟩ := ba h
  obtain ⟨h3, h4⟩ := ba h2
  obtain ⟨h5, h6⟩ := ba h4
  exact ⟨h1, h3, h5, eqO_ok h6⟩
def slotB (K : PySem.W.Frag) (C : Addr) (f : Str) (i : Nat) : Bool := eqO (PySem.W.findIn K (.ref C) f) (some (some (.ref (ma K C f)))) && (eqO (PySem.W.specialIn K (.ref (ma K C f)) "__get__") (some (some (.builtin "member_descriptor.__get__"))) &&
  (decide (PySem.W.takesIn K (.ref (ma K C f)) = some true) && (decide (PySem.W.typeIn K (.ref (ma K C f)) = some (.type "member_descriptor")) && (decide (PySem.W.slotIn K (ma K C f) C = some i) && decide (i < 1000)))))
theorem slotB_ok {K : PySem.W.Frag} {C : Addr} {f : Str} {i : Nat} (h : slotB K C f i = true) : SlX.Slot1 K C f (ma K C f) i := by
  obtain ⟨h1, h2⟩ := ba h
  obtain ⟨h3, h4⟩ := ba h2
  obtain ⟨h5, h6⟩ := ba h4
  obtain ⟨h7, h8⟩ := ba h6
  obtain ⟨h9, h10⟩ := ba h8
  exact ⟨eqO_ok h1, eqO_ok h3, of_decide_eq_true h5, of_decide_eq_true h7, of_decide_eq_true h9, of_decide_eq_true h10⟩
/-- a property: its getter -/
def pgA (K : PySem.W.Frag) (C : Addr) (f : Str) : Addr := match PySem.W.recIn K (ma K C f) "property" with
  | some (.ref g :: _) => g
  | _ => 0
structure Prp (K : PySem.W.Frag) (C : Addr) (f : Str) : Prop where
  at_ : PySem.W.findIn K (.ref C) f = some (some (.ref (ma K C f)))
  get : PySem.W.specialIn K (.ref (ma K C f)) "__get__" = some (some (.builtin "property.__get__"))
  tk : PySem.W.takesIn K (.ref (ma K C f)) = some true
  rc : ∃ rest, PySem.W.recIn K (ma K C f) "property" = some (.ref (pgA K C f) :: rest)
def prpB (K : PySem.W.Frag) (C : Addr) (f : Str) : Bool := eqO (PySem.W.findIn K (.ref C) f) (some (some (.ref (ma K C f)))) && (eqO (PySem.W.specialIn K (.ref (ma K C f)) "__get__") (some (some (.builtin "property.__get__"))) &&
  (decide (PySem.W.takesIn K (.ref (ma K C f)) = some true) && (match PySem.W.recIn K (ma K C f) "property" with
    | some (.ref _ :: _) => true
    | _ => false)))
theorem prpB_ok {K : PySem.W.Frag} {C : Addr} {f : Str} (h : prpB K C f = true) : Prp K C f := by
  obtain ⟨h1, h2⟩ := ba h
  obtain ⟨h3, h4⟩ := ba h2
  obtain ⟨h5, h6⟩ := ba h4
  refine ⟨eqO_ok h1, eqO_ok h3, of_decide_eq_true h5, ?_⟩
  unfold pgA
  split at h6
  · rename_i g rest e
    exact ⟨rest, by rw [e]⟩
  · cases h6
/-- a method found on the class, called by the machine -/
def mthB (K : PySem.W.Frag) (C : Addr) (m : Str) : Bool := eqO (PySem.W.findIn K (.ref C) m) (some (some (.ref (ma K C m)))) && (PySem.W.isFn K (.ref (ma K C m)) && PySem.W.keepIn K (.ref (ma K C m)))
def isiB (K : PySem.W.Frag) (C : Addr) : Bool := eqO (PySem.W.findIn K (.ref C) "__class__") (some (some (.builtin "object.__class__"))) && (eqO (PySem.W.specialIn K (.builtin "object.__class__") "__get__") (some (some (.builtin "getset_descriptor.__get__"))) &&
  (decide (PySem.W.takesIn K (.builtin "object.__class__") = some true) && decide (PySem.W.mroIn K C (.type "object") = some true)))
theorem isiB_ok {K : PySem.W.Frag} {C : Addr} (h : isiB K C = true) : SlX.SIsi K C := by
  obtain ⟨h1, h2⟩ := ba h
  obtain ⟨h3, h4⟩ := ba h2
  obtain ⟨h5, h6⟩ := ba h4
  exact ⟨eqO_ok h1, eqO_ok h3, of_decide_eq_true h5, of_decide_eq_true h6⟩
def clsB : Stmt → List Stmt
  | .ClassDef _ _ _ b _ _ _ _ _ _ _ => b
  | _ => []
end Td
set_option Elab.async false
set_option linter.all false
set_option maxRecDepth 100000
set_option maxHeartbeats 4000000
namespace Td
open PySem PySem.Spec PyProof.Rows L2
instance decMul (i j : Int) : Decidable (CMul i j) := by unfold CMul; infer_instance
instance decDivN (i j : Int) : Decidable (CDivN i j) := by unfold CDivN; infer_instance
instance decDivW (i j : Int) : Decidable (CDivW i j) := by unfold CDivW; infer_instance
instance decMulW (i j : Int) : Decidable (CMulW i j) := by unfold CMulW; infer_instance
def CPowV (i j : Int) : Prop := 0 ≤ i ∧ 0 ≤ j ∧ (i.natAbs.log2 + 1) * j.toNat ≤ 100000000
instance decPowV (i j : Int) : Decidable (CPowV i j) := by unfold CPowV; infer_instance
def mulM {S : Type} (i j : Int) : SM S Int := grdI CMul (fun i j => i * j) i j
def mulWM {S : Type} (i j : Int) : SM S Int := grdI CMulW (fun i j => i * j) i j
def divM {S : Type} (i j : Int) : SM S Int := grdI CDivN (fun i j => i.fdiv j) i j
def divWM {S : Type} (i j : Int) : SM S Int := grdI CDivW (fun i j => i / j) i j
def modM {S : Type} (i j : Int) : SM S Int := grdI (fun _ j => j ≠ 0) (fun i j => i.fmod j) i j
def powM {S : Type} (i j : Int) : SM S Int := grdI CPowV (fun i j => i ^ j.toNat) i j
section
variable {S : Type} {K : PySem.W.Frag}
theorem stl_grdI {C : Int → Int → Prop} [∀ i j, Decidable (C i j)] {g : Int → Int → Int} (i j : Int) : Stl (grdI C g i j : SM S Int) := stl_bnd stl_grd fun _ => stl_ret _
theorem stl_mul (i j : Int) : Stl (mulM i j : SM S Int) := stl_grdI i j
theorem stl_mulW (i j : Int) : Stl (mulWM i j : SM S Int) := stl_grdI i j
theorem stl_div (i j : Int) : Stl (divM i j : SM S Int) := stl_grdI i j
theorem stl_divW (i j : Int) : Stl (divWM i j : SM S Int) := stl_grdI i j
theorem stl_mod (i j : Int) : Stl (modM i j : SM S Int) := stl_grdI i j
theorem stl_pow (i j : Int) : Stl (powM i j : SM S Int) := stl_grdI i j
theorem vo_mul : VO2 K S rInt rInt rInt (rI CMul fun i j => .int (i * j)) mulM := vo_I CMul fun i j => i * j
theorem vo_mulW : VO2 K S rInt rInt rInt (rI CMulW fun i j => .int (i * j)) mulWM := vo_I CMulW fun i j => i * j
theorem vo_div : VO2 K S rInt rInt rInt (rI CDivN fun i j => .int (i.fdiv j)) divM := vo_I CDivN fun i j => i.fdiv j
theorem vo_divW : VO2 K S rInt rInt rInt (rI CDivW fun i j => .int (i / j)) divWM := vo_I CDivW fun i j => i / j
theorem vo_mod : VO2 K S rInt rInt rInt (rI (fun _ j => j ≠ 0) fun i j => .int (i.fmod j)) modM := vo_I (fun _ j => j ≠ 0) fun i j => i.fmod j
theorem vo_pow : VO2 K S rInt rInt rInt (rI CPowV fun i j => .int (i ^ j.toNat)) powM := vo_I CPowV fun i j => i ^ j.toNat
end
theorem op_powV {X : Cx} : OpR X (binaryOp .Pow) (rI CPowV fun i j => .int (i ^ j.toNat)) := opI fun i j t u s Q E hc q => by
  obtain ⟨h0, h1, h2⟩ := hc
  refine PySem.AutoIntOpsIf.pow ?_
  rw [if_pos h1]
  by_cases hj : (j == 0) = true
  · rw [if_pos hj]
    have e : j = 0 := by simpa using hj
    subst e
    have e2 : i ^ Int.toNat 0 = 1 := by simp
    rw [e2] at q
    exact q
  · rw [if_neg hj]
    have hj' : j ≠ 0 := by simpa using hj
    by_cases hi : (i == 0 || i == 1) = true
    · rw [if_pos hi]
      have e : i ^ j.toNat = i := by
        have hp : j.toNat ≠ 0 := by omega
        rcases (by simpa using hi : i = 0 ∨ i = 1) with e | e
        · rw [e]; exact Int.zero_pow hp
        · rw [e]; exact Int.one_pow
      rw [e] at q
      exact q
    · rw [if_neg hi]
      have hm : ¬ (i == -1) = true := by simp; omega
      rw [if_neg hm]
      have hb : ¬ Builtin.Int.intTooBig (((Builtin.Int.intBits i : Nat) : Int) * j) = true := by
        unfold Builtin.Int.intTooBig
        have b : Builtin.Int.intBits i ≤ i.natAbs.log2 + 1 := by
          unfold Builtin.Int.intBits
          split <;> omega
        have e : bitsLine = 134217728 := by decide
        have e2 : ((Builtin.Int.intBits i : Nat) : Int) * j = ((Builtin.Int.intBits i * j.toNat : Nat) : Int) := by
          rw [Int.natCast_mul, Int.toNat_of_nonneg h1]
        have h3 : Builtin.Int.intBits i * j.toNat ≤ (i.natAbs.log2 + 1) * j.toNat := Nat.mul_le_mul_right _ b
        rw [e2, e]
        simp only [decide_eq_true_eq, gt_iff_lt, Int.not_lt]
        omega
      rw [if_neg hb]
      exact q
section
variable {X : Cx} {S : Type} {F : FC X.K S} {U : Type} {r : Rp U} {e : Expr} {te : TE} {G G0 G' : S → List Slot} {m : SM S U} {n : Nat}
theorem wio {K : PySem.W.Frag} {F : FC K S} (hio : F.io = fun _ => uns n) (w : ∀ s, Weak (G s) (uns n)) : ∀ s, Weak (G s) (F.io s) := fun s => by rw [hio]; exact w s
theorem wios {K : PySem.W.Frag} {F : FC K S} {g : S → List Slot} (hio : F.io = g) (w : ∀ s, Weak (G s) (g s)) : ∀ s, Weak (G s) (F.io s) := fun s => by rw [hio]; exact w s
theorem hWE {K : PySem.W.Frag} {F : FC K S} {E : XK} (hW : F.W = fun c d _ H' => E c d H') : ∀ c d σ H, F.W c d σ H → E c d H := fun c d σ H h => by rw [hW] at h; exact h
theorem passes_nx {CX' : CXT} {P : Program} {w : World} (e : CX' = L2.CX P w) : Passes CX' X (fun _ _ _ => False) := fun pins σ H s e' s' I h => by
  subst e
  obtain ⟨a, B, H', cls, d, _, _, _, _, _, _, _, hf⟩ := h
  exact hf.elim
inductive UnAt (G : List Slot) : List Nat → Prop
  | nil : UnAt G []
  | cons {v vs} (e : G[v]? = some .un) (h : UnAt G vs) : UnAt G (v :: vs)
theorem UnAt.all {G : List Slot} {vs : List Nat} (h : UnAt G vs) : ∀ v, v ∈ vs → G[v]? = some .un ∨ G[v]? = none := by
  induction h with
  | nil => intro v z; cases z
  | cons e _ ih =>
    intro v z
    rcases List.mem_cons.mp z with z | z
    · rw [z]; exact .inl e
    · exact ih v z
end
section
variable {X : Cx} {S : Type} {F : FC X.K S} {N L R : Type} {sts : List Stmt} {ts : TS} {GN : N → S → List Slot} {GL : L → S → List Slot} {r : Rp R} {out : SM S (Fl N L R)}
theorem bx_nf {G : S → List Slot} (G' : S → List Slot) (e : ∀ s, G s = G' s) (h : BX X F sts ts G' GN GL r out) : BX X F sts ts G GN GL r out := by
  have z : G = G' := funext e
  subst z
  exact h
end
def dP {A B : Type} (f : A → PyData) (g : B → PyData) (p : A × B) : PyData := .tuple [f p.1, g p.2]
def dL {A : Type} (f : A → PyData) (xs : List A) : PyData := .list (xs.map f)
def dTL {A : Type} (f : A → PyData) (xs : List A) : PyData := .tuple (xs.map f)
def dO {A : Type} (f : A → PyData) : Option A → PyData
  | none => .none
  | some a => f a
section
variable {A B C : Type} {r : Rp A} {q : Rp B} {l : Rp C} {f : A → PyData} {g : B → PyData} {h : C → PyData}
theorem en_P (h1 : Enc r f) (h2 : Enc q g) : Enc (rPair r q) (dP f g) := enc_pair h1 h2
theorem en_L (h1 : Enc r f) : Enc (rList r) (dL f) := enc_list h1
theorem en_TL (h1 : Enc r f) : Enc (rTupL r) (dTL f) := enc_tupL h1
theorem en_O (h1 : Enc r f) : Enc (rOpt r) (dO f) := by
  intro K M H v a B k
  cases a with
  | none =>
    have e : v = .non := k.1
    rw [e]; exact .non
  | some a => exact h1 k
end
section
variable {K : PySem.W.Frag} {S : Type} {F : FC K S} {A B : Type} {rx : Rp A} {ry : Rp B}
theorem src_zipC {a b : Addr} {xs : List A} {ys : List B} (c1 : rx.Cp) (c2 : ry.Cp) : Src F (fun _ => True) (Itz K a b) [.is (sh (rList ry)) ys, .is (sh (rList rx)) xs] [.ref b, .ref a] (rPair rx ry) (xs.zip ys) where
  len := rfl
  go := (src_zip (rx := rx) (ry := ry) (xs := xs) (ys := ys) (a := a) (b := b)).go
  stop := (src_zip (rx := rx) (ry := ry) (xs := xs) (ys := ys) (a := a) (b := b)).stop
  yld := by
    intro i c x T1 t1 T t G σ H H' _ e h hy ha
    obtain ⟨ha1, ha2⟩ := zip_get ha
    obtain ⟨A1, A2, h⟩ := h
    obtain ⟨_, v, ev, _, C, ⟨p, vs, _, ep, hp, hA, eC⟩, hC⟩ := held e h
    have h2 : AtP F ((T1 ++ [.is (sh (rList ry)) ys]) ++ ([.is (sh (rList rx)) xs] ++ T)) ((t1 ++ [.ref b]) ++ ([.ref a] ++ t)) G σ H A1 A2 := by simpa using h
    obtain ⟨_, v2, ev2, _, C2, ⟨p2, vs2, _, ep2, hp2, hA2, eC2⟩, hC2⟩ := held (by simp [e]) h2
    cases ev
    cases ep
    cases ev2
    cases ep2
    obtain ⟨T, y1, y2, rfl, hT, rfl, hy1, hy2⟩ := hy
    obtain ⟨w1, D1, e1, hr1, sub1⟩ := hA2.get' ha1
    obtain ⟨w2, D2, e2, hr2, sub2⟩ := hA.get' ha2
    have q1 := hy1 vs2 (SqL.of hp2)
    have q2 := hy2 vs (SqL.of hp)
    rw [e1] at q1
    rw [e2] at q2
    cases q1
    cases q2
    have eD1 := c1 hr1
    have eD2 := c2 hr2
    subst eD1 eD2
    exact At.tup2 ⟨A1, A2, (h.pushM hr1).pushM hr2⟩ hT
end
section
variable {X : Cx} {S : Type} {F : FC X.K S} {A B : Type} {rx : Rp A} {ry : Rp B} {e a b : Expr} {elts : List Expr} {kk : Nat} {tpos : Pos} {te ta tb : TE} {G G1 G2 G' : S → List Slot} {m : SM S (List A)} {m2 : SM S (List B)} {pos p0 : Pos}
theorem ei_zipC (h : EX X F a ta G G1 (sh (rList rx)) m) (h2 : EX X F b tb G1 G2 (sh (rList ry)) m2) (c1 : rx.Cp) (c2 : ry.Cp) (hg : Gl X "zip") (hm : X.mg "zip" = none) (hs : PySem.W.isStarred a = false := by rfl) (hs2 : PySem.W.isStarred b = false := by rfl) :
    EI X F (.Tuple elts kk tpos) (.Call (.Name "zip" p0) [a, b] [] pos) (iZip X.K (tCons ta (tCons tb tNil))) G G2 (fun _ => True) (rPair rx ry) (bnd m fun xs => bnd m2 fun ys => ret (xs.zip ys)) :=
  ⟨pi_zip hg hm (pa_cons h.pe (pa_cons h2.pe pa_nil (star1 hs2)) (star1 hs)) (by first | (rw [star1 hs, star1 hs2]; done) | (rw [star1 hs, star1 hs2]; rfl)) (by first | (rw [star1 hs2]; done) | (rw [star1 hs2]; rfl)), fun T t σ s H R h0 q => h.go T t σ s H _ h0 (wp_mono (wp_bnd q) (fun xs s1 q1 v H1 at1 => by
    refine h2.go _ _ σ s1 H1 _ at1 (wp_mono (wp_bnd q1) (fun ys s2 q2 w H2 at2 => ?_) fun _ _ z => z)
    obtain ⟨M, B, _, C, ⟨p, vs, D, ev, hp, hD, _⟩, _⟩ := snd_rel at2
    obtain ⟨M', B', _, C', ⟨p', vs', D', ev', hp', hD', _⟩, _⟩ := top_rel at2
    subst ev
    subst ev'
    exact ⟨p, p', vs, vs', rfl, SqL.of hp, SqL.of hp', q2 _ [_, _] [_, _] H2 (src_zipC c1 c2) at2⟩) fun _ _ z => z)⟩
end
end Td
set_option Elab.async false
set_option linter.all false
set_option maxRecDepth 100000
set_option maxHeartbeats 4000000
namespace Td
open PySem PySem.Spec PyProof.Rows L2
section
variable {X : Cx} {S : Type} {F : FC X.K S} {A B N L R : Type} {rx : Rp A} {rb : Rp B} {tg e elt : Expr} {ifs : List Expr} {scope : Scope} {own : List (Str × Nat)} {wi : TI} {g : Shared → Hp → Addr → List (Str × Addr) → List Addr → TG} {ws : List Nat} {tt : Shared → Hp → Addr → List (Str × Addr) → List Addr → TT} {te : Shared → Hp → Addr → List (Str × Addr) → List Addr → TE} {G G1 : S → List Slot} {C : List Slot → Prop} {mi : SM S (List A)} {Gt : S → A → List Slot} {mt : A → SM S Bool} {me : A → SM S B} {pos spos p0 : Pos} {GN : N → S → List Slot} {GL : L → S → List Slot} {r : Rp R} {rest : List Stmt} {tr : TS}
/-- y = [..] -/
theorem bx_lc {out : List B → SM S (Fl N L R)} {y : Str} (i : Nat) {gs : S → Slot} (sh0 : Shared) (hc : X.calm = true) (hN : X.N.Nodup) (hi : EI X F tg e wi G G1 C rx mi) (hC : ∀ s, C (G1 s)) (ok : BlkOk X.N X.env.scope scope own) (hun : ∀ s, UnAt (G1 s) (own.map (·.2))) (sub : ∀ j, j ∈ ws → j ∈ own.map (·.2)) (hwk : ∀ s x, Weak (Gt s x) (G1 s))
    (hg : ∀ (s0 : Shared) (H : Hp) (D : Addr) (cl : List (Str × Addr)) (fp : List Addr) (s : S), EG (X.blk s0 H scope (compEnvC scope cl D X.env) fp) F.nx tg (g s0 H D cl fp) ws rx (G1 s) (Gt s))
    (ht : ∀ (s0 : Shared) (H : Hp) (D : Addr) (cl : List (Str × Addr)) (fp : List Addr) (x : A), ETs (X.blk s0 H scope (compEnvC scope cl D X.env) fp) F.nx ifs (tt s0 H D cl fp) (fun s => Gt s x) (fun s => Gt s x) (mt x))
    (he : ∀ (s0 : Shared) (H : Hp) (D : Addr) (cl : List (Str × Addr)) (fp : List Addr) (x : A), EX (X.blk s0 H scope (compEnvC scope cl D X.env) fp) F.nx elt (te s0 H D cl fp) (fun s => Gt s x) (fun s => Gt s x) rb (me x)) (hA : Inhabited A) (hS : Inhabited S)
    (hb : ∀ a, BX X F rest tr (fun s => (G1 s).set i (.is (rList rb) a)) GN GL r (out a)) (hG : ∀ s, (G1 s)[i]? = some (gs s)) (hy : X.N[i]? = some y := by rfl) (hyl : X.env.scope.names.lookup y = some .local := by rfl) (hsw : swapsWith (.ListComp elt [⟨tg, e, ifs, 0⟩] scope pos) (some (.Name y p0)) spos.line X.env = pure true := by rfl)
    (hge : ∀ s0 H D cl fp, g s0 H D cl fp = g sh0 (fun _ => none) 0 [] [] := by intros; rfl) (hte : ∀ s0 H D cl fp, tt s0 H D cl fp = tt sh0 (fun _ => none) 0 [] [] := by intros; rfl) (hee : ∀ s0 H D cl fp, te s0 H D cl fp = te sh0 (fun _ => none) 0 [] [] := by intros; rfl) (hs : ∀ x, foldedSetIterable e X.env x = pure x := by intro _; rfl) : BX X F (.Assign [.Name y p0] (.ListComp elt [⟨tg, e, ifs, 0⟩] scope pos) spos :: rest) (tSeq (tAsg (tLc wi (g sh0 (fun _ => none) 0 [] []) (tt sh0 (fun _ => none) 0 [] []) (te sh0 (fun _ => none) 0 [] []) (own.map (·.2))) (gName i)) tr) G GN GL r (bnd (bnd mi fun xs => lcM (fun x => lcIt (mt x) (me x)) [] xs) out) :=
  bx_asgW i (ps_setLc hc hN hy hyl hsw hi.pi ok (fun s0 H D cl fp => by rw [← hge s0 H D cl fp]; exact (hg s0 H D cl fp hS.default).pg) (fun s0 H D cl fp => by rw [← hte s0 H D cl fp]; exact (ht s0 H D cl fp hA.default).pt) (fun s0 H D cl fp => by rw [← hee s0 H D cl fp]; exact (he s0 H D cl fp hA.default).pe) hs)
    (go_lc hi.go hC (fun s => (hun s).all) sub (fun s => (hg sh0 (fun _ => none) 0 [] [] s).go) hwk (fun x => (ht sh0 (fun _ => none) 0 [] [] x).go) (fun x => (he sh0 (fun _ => none) 0 [] [] x).go)) hb ⟨[]⟩ hG
theorem bx_lcS {out : List B → SM S (Fl N L R)} {y : Str} (i : Nat) {gs : S → Slot} (sh0 : Shared) (hc : X.calm = true) (hN : X.N.Nodup) (hi : EI X F tg e wi G G1 C rx mi) (hC : ∀ s, C (G1 s)) (ok : BlkOk X.N X.env.scope scope own) (hun : ∀ s, UnAt (G1 s) (own.map (·.2))) (sub : ∀ j, j ∈ ws → j ∈ own.map (·.2)) (hwk : ∀ s x, Weak (Gt s x) (G1 s))
    (hg : ∀ (s0 : Shared) (H : Hp) (D : Addr) (cl : List (Str × Addr)) (fp : List Addr) (s : S), EG (X.blk s0 H scope (compEnvC scope cl D X.env) fp) F.nx tg (g s0 H D cl fp) ws rx (G1 s) (Gt s))
    (ht : ∀ (s0 : Shared) (H : Hp) (D : Addr) (cl : List (Str × Addr)) (fp : List Addr) (x : A), ETs (X.blk s0 H scope (compEnvC scope cl D X.env) fp) F.nx ifs (tt s0 H D cl fp) (fun s => Gt s x) (fun s => Gt s x) (mt x))
    (he : ∀ (s0 : Shared) (H : Hp) (D : Addr) (cl : List (Str × Addr)) (fp : List Addr) (x : A), EX (X.blk s0 H scope (compEnvC scope cl D X.env) fp) F.nx elt (te s0 H D cl fp) (fun s => Gt s x) (fun s => Gt s x) rb (me x)) (hA : Inhabited A) (hS : Inhabited S)
    (hb : ∀ a, BX X F rest tr (fun s => (G1 s).set i (.is (sh (rList rb)) a)) GN GL r (out a)) (hG : ∀ s, (G1 s)[i]? = some (gs s)) (hy : X.N[i]? = some y := by rfl) (hyl : X.env.scope.names.lookup y = some .local := by rfl) (hsw : swapsWith (.ListComp elt [⟨tg, e, ifs, 0⟩] scope pos) (some (.Name y p0)) spos.line X.env = pure true := by rfl)
    (hge : ∀ s0 H D cl fp, g s0 H D cl fp = g sh0 (fun _ => none) 0 [] [] := by intros; rfl) (hte : ∀ s0 H D cl fp, tt s0 H D cl fp = tt sh0 (fun _ => none) 0 [] [] := by intros; rfl) (hee : ∀ s0 H D cl fp, te s0 H D cl fp = te sh0 (fun _ => none) 0 [] [] := by intros; rfl) (hs : ∀ x, foldedSetIterable e X.env x = pure x := by intro _; rfl) : BX X F (.Assign [.Name y p0] (.ListComp elt [⟨tg, e, ifs, 0⟩] scope pos) spos :: rest) (tSeq (tAsg (tLc wi (g sh0 (fun _ => none) 0 [] []) (tt sh0 (fun _ => none) 0 [] []) (te sh0 (fun _ => none) 0 [] []) (own.map (·.2))) (gName i)) tr) G GN GL r (bnd (bnd mi fun xs => lcM (fun x => lcIt (mt x) (me x)) [] xs) out) :=
  bx_asgW i (ps_setLc hc hN hy hyl hsw hi.pi ok (fun s0 H D cl fp => by rw [← hge s0 H D cl fp]; exact (hg s0 H D cl fp hS.default).pg) (fun s0 H D cl fp => by rw [← hte s0 H D cl fp]; exact (ht s0 H D cl fp hA.default).pt) (fun s0 H D cl fp => by rw [← hee s0 H D cl fp]; exact (he s0 H D cl fp hA.default).pe) hs)
    (fun T t σ s H Q h0 q => go_lc hi.go hC (fun s => (hun s).all) sub (fun s => (hg sh0 (fun _ => none) 0 [] [] s).go) hwk (fun x => (ht sh0 (fun _ => none) 0 [] [] x).go) (fun x => (he sh0 (fun _ => none) 0 [] [] x).go) T t σ s H Q h0 (wp_mono q (fun a s1 q1 v H1 at1 => q1 v H1 at1.freeze) fun _ _ z => z)) hb ⟨[]⟩ hG
/-- as a value -/
theorem ex_lcU (sh0 : Shared) (hc : X.calm = true) (hN : X.N.Nodup) (hi : EI X F tg e wi G G1 C rx mi) (hC : ∀ s, C (G1 s)) (ok : BlkOk X.N X.env.scope scope own) (hun : ∀ s, UnAt (G1 s) (own.map (·.2))) (sub : ∀ j, j ∈ ws → j ∈ own.map (·.2)) (hwk : ∀ s x, Weak (Gt s x) (G1 s))
    (hg : ∀ (s0 : Shared) (H : Hp) (D : Addr) (cl : List (Str × Addr)) (fp : List Addr) (s : S), EG (X.blk s0 H scope (compEnvC scope cl D X.env) fp) F.nx tg (g s0 H D cl fp) ws rx (G1 s) (Gt s))
    (ht : ∀ (s0 : Shared) (H : Hp) (D : Addr) (cl : List (Str × Addr)) (fp : List Addr) (x : A), ETs (X.blk s0 H scope (compEnvC scope cl D X.env) fp) F.nx ifs (tt s0 H D cl fp) (fun s => Gt s x) (fun s => Gt s x) (mt x))
    (he : ∀ (s0 : Shared) (H : Hp) (D : Addr) (cl : List (Str × Addr)) (fp : List Addr) (x : A), EX (X.blk s0 H scope (compEnvC scope cl D X.env) fp) F.nx elt (te s0 H D cl fp) (fun s => Gt s x) (fun s => Gt s x) rb (me x)) (hA : Inhabited A) (hS : Inhabited S)
    (hge : ∀ s0 H D cl fp, g s0 H D cl fp = g sh0 (fun _ => none) 0 [] [] := by intros; rfl) (hte : ∀ s0 H D cl fp, tt s0 H D cl fp = tt sh0 (fun _ => none) 0 [] [] := by intros; rfl) (hee : ∀ s0 H D cl fp, te s0 H D cl fp = te sh0 (fun _ => none) 0 [] [] := by intros; rfl) (hs : ∀ x, foldedSetIterable e X.env x = pure x := by intro _; rfl) : EX X F (.ListComp elt [⟨tg, e, ifs, 0⟩] scope pos) (tLc wi (g sh0 (fun _ => none) 0 [] []) (tt sh0 (fun _ => none) 0 [] []) (te sh0 (fun _ => none) 0 [] []) (own.map (·.2))) G G1 (rList rb) (bnd mi fun xs => lcM (fun x => lcIt (mt x) (me x)) [] xs) :=
  ex_lc sh0 hc hN hi hC ok (fun s => (hun s).all) sub hwk (fun s0 H D cl fp s => by rw [← hge s0 H D cl fp]; exact hg s0 H D cl fp s) (fun s0 H D cl fp x => by rw [← hte s0 H D cl fp]; exact ht s0 H D cl fp x) (fun s0 H D cl fp x => by rw [← hee s0 H D cl fp]; exact he s0 H D cl fp x) hA hS hs
end
end Td
set_option Elab.async false
set_option linter.all false
set_option maxRecDepth 100000
set_option maxHeartbeats 4000000
namespace Td
open PySem PySem.Spec PyProof.Rows L2
/-- a computation with a state of its own -/
def subM {S S' T : Type} (m : SM S' T) (s0 : S') : SM S (T × S') := fun s => match m s0 with
  | .ok a s' => .ok (a, s') s
  | .exc e _ => .exc e s
  | .stuck => .stuck
theorem wp_subM {S S' T : Type} {m : SM S' T} {s0 : S'} {s : S} {P : T × S' → S → Prop} {E : Exn → S → Prop} (h : ((subM m s0 : SM S (T × S')) s).wp P E) : (m s0).wp (fun a s' => P (a, s') s) (fun e _ => E e s) := by
  unfold subM at h
  cases hm : m s0 with
  | ok a s' => rw [hm] at h; exact h
  | exc e s' => rw [hm] at h; exact h
  | stuck => rw [hm] at h; exact h
section
variable {K : PySem.W.Frag} {S : Type} {F : FC K S} {T T0 : List Slot} {t t0 : List V} {G : List Slot} {σ : L2.St} {H H' : Hp}
theorem AtS.mapOk {M M' : List Addr} {H' : Hp} {G : List Slot} {s : List (Option V)} {A : List Addr} (h : AtS K M H G s A) (k : ∀ {g x B}, Slot.ok K M H g x B → (∀ p, p ∈ B → p ∈ A) → Slot.ok K M' H' g x B) : AtS K M' H' G s A := by
  induction h with
  | nil => exact .nil
  | cons h t ih => exact .cons (k h fun p hp => List.mem_append_left _ hp) (ih fun h hp => k h fun p z => List.mem_append_right _ (hp p z))
theorem At.low {g : Slot} {x : Option V} (h : At F T t (g :: G) (x :: σ) H) : At F T t G σ H := by
  obtain ⟨A1, A2, h⟩ := h
  obtain ⟨B, A', eA, hg, h2⟩ := AtS.cons_inv h.loc
  subst eA
  have nd := h.good.nd
  have hM : ∀ x, x ∈ A1 ++ A' ++ F.M0 → x ∈ A1 ++ (B ++ A') ++ F.M0 ∨ H x = none := fun x hx => .inl (by simp only [List.mem_append] at *; grind)
  exact ⟨A1, A', h.tmp.grow hM, h2.grow hM, h.good.sub (by simp only [List.nodup_append, List.mem_append] at *; grind) fun p hp => by simp only [List.mem_append] at *; grind⟩
theorem At.sink {g : Slot} {v : V} (h : At F T t (g :: G) (some v :: σ) H) : At F (g :: T) (v :: t) G σ H := by
  obtain ⟨A1, A2, h⟩ := h
  obtain ⟨B, A', eA, hg, h2⟩ := AtS.cons_inv h.loc
  subst eA
  have nd := h.good.nd
  have hM : ∀ x, x ∈ (B ++ A1) ++ A' ++ F.M0 → x ∈ A1 ++ (B ++ A') ++ F.M0 ∨ H x = none := fun x hx => .inl (by simp only [List.mem_append] at *; grind)
  exact ⟨B ++ A1, A', .cons (Slot.ok_grow hg hM) (h.tmp.grow hM), h2.grow hM, h.good.sub (by simp only [List.nodup_append, List.mem_append] at *; grind) fun p hp => by simp only [List.mem_append] at *; grind⟩
/-- the promise of a callee, its in/out argument in a slot ahead -/
theorem run_ioS {S' U W : Type} {n : Nat} {rio : Rp S'} {Pr : U → List Slot} {r : Rp W} {f : U → SM S' W} {E : XK} {L : List Arg} {ts vr : List V} {w : V} {s0 : S'} {u : U} {A1' A2 C : List Addr} {Q : VK} (cio : rio.Clo)
    (hio : rio.rel K (A1' ++ (C ++ A2) ++ F.M0) H w s0 C) (tail : AtS K (A1' ++ (C ++ A2) ++ F.M0) H G σ A2) (at2 : AtP F ((tmps L).reverse ++ T) (ts.reverse ++ t) (.is rio s0 :: G) (some w :: σ) H A1' (C ++ A2)) (lts : ts.length = (tmps L).length) (hn : vr.length + 1 = n)
    (hent : AtS K (A1' ++ (C ++ A2) ++ F.M0) H (Pr u) (vr.map some) [])
    (q : (f u s0).wp (fun b s' => ∀ v H', At F (.is rio s' :: .is r b :: T) (w :: v :: t) G σ H' → Q v H') (fun e s' => ∀ d H', At F (.is rXd e.pay :: T) (.ref d :: t) G σ H' → E (.ref (He.ga K e.cls)) (some d) H')) :
    SpI K n rio Pr r f (w :: vr) H Q E := by
  have tC := rio.trk hio
  have nd := at2.good.nd
  have disC : ∀ p, p ∈ C → p ∉ A1' ++ ([] ++ A2) ++ F.M0 := fun p hp z => by
    have out := at2.good.out p
    simp only [List.nodup_append, List.mem_append, List.nil_append] at *
    grind
  have ndC : C.Nodup := by
    simp only [List.nodup_append] at nd
    exact nd.2.1.1
  have tr := at2.m_trk
  have entry : At (FC.c (K := K) (S := S') H C (A1' ++ ([] ++ A2) ++ F.M0)) [] [] (.pn w rio s0 :: Pr u) ((w :: vr).map some) H := by
    refine ⟨[], C ++ [], .nil, .cons ⟨rfl, cio hio⟩ (hent.grow fun p hp => .inl ?_), ⟨by simpa using ndC, fun p hp => disC p (by simpa using hp), fun p hp => .inr (show p ∈ C by simpa using hp), tC, fun _ _ e _ _ => e, fun p hp => ⟨tr p ?_, fun z => disC p z hp⟩, fun p hp => List.mem_append_right _ (at2.good.tm p hp), at2.good.tb⟩⟩
    · have hp' : p ∈ [] ++ (C ++ []) ++ (A1' ++ ([] ++ A2) ++ F.M0) := hp
      simp only [List.mem_append, List.append_nil, List.nil_append] at *
      grind
    · have hp' : p ∈ A1' ++ ([] ++ A2) ++ F.M0 := hp
      simp only [List.mem_append, List.nil_append] at *
      grind
  have back : ∀ (M' : List Addr) (H' : Hp) (g' : Slot) (x' : Option V) (B' : List Addr), (∀ {g x B}, Slot.ok K (A1' ++ (C ++ A2) ++ F.M0) H g x B → (∀ p, p ∈ B → p ∈ [] ∨ p ∈ A2) → Slot.ok K M' H' g x B) → g'.ok K M' H' x' B' → AtS K M' H' ((.is rio s0 :: G).set 0 g') ((some w :: σ).set 0 x') ([] ++ (B' ++ A2)) := by
    intro M' H' g' x' B' k hg'
    show AtS K M' H' (g' :: G) (x' :: σ) (B' ++ A2)
    exact .cons hg' (tail.mapOk fun hs sub => k hs fun p hp => .inr (sub p hp))
  have hM : ∀ p, p ∈ A1' ++ ([] ++ A2) ++ F.M0 → p ∈ A1' ++ ([] ++ A2) ++ F.M0 := fun _ z => z
  refine ⟨u, s0, C, _, by rw [List.length_cons, hn], entry, wp_mono q (fun b s2 q3 v H' hx => ?_) (fun e s2 q3 d H' hx => ?_)⟩
  · have z := At.backIo (j := 0) at2 (P1 := []) rfl back rfl tC hx cio (.inr hM)
    have z2 := At.dropU (by simp [lts]) z
    have z3 := (At.unpin z2 (i := 0) rfl).2
    exact q3 v H' (At.sink z3)
  · have z := At.backIo (j := 0) at2 (P1 := []) rfl back rfl tC hx cio (.inr hM)
    exact q3 d H' (At.low (At.dropU (by simp [lts]) z))
end
section
variable {X : Cx} {S S' : Type} {F : FC X.K S} {U W A : Type} {n k : Nat} {rio : Rp S'} {Pr : U → List Slot} {r : Rp W} {f : U → SM S' W} {fm : A → SM S' W} {E : XK} {ta : TA} {G G' : S → List Slot} {LA : A → List Arg} {mA : SM S A} {CX : CXT} {fA : Addr} {fd : FuncData} {ps : List Str} {x : Str} {p pos : Pos} {e : Expr} {es : List Expr} {sx : A → S'}
end
end Td
set_option Elab.async false
set_option linter.all false
set_option maxRecDepth 100000
set_option maxHeartbeats 4000000
namespace Td
open PySem PySem.Spec PyProof.Rows L2
section
variable {K : PySem.W.Frag} {S : Type} {F : FC K S} {T : List Slot} {t : List V} {G : List Slot} {σ : L2.St} {H : Hp}
theorem run_sp {U W : Type} {n : Nat} {Ps : U → List Slot} {r : Rp W} {f : U → SM Unit W} {E : XK} {L : List Arg} {ts vs : List V} {u : U} {A1 A2 : List Addr} {Q : VK} (at1 : AtP F ((tmps L).reverse ++ T) (ts.reverse ++ t) G σ H A1 A2) (av : ArgV σ L ts vs) (hn : L.length = n) (he : EntS G L (Ps u))
    (q : (f u ()).wp (fun b _ => ∀ v H', At F (.is r b :: T) (v :: t) G σ H' → Q v H') (fun _ _ => False)) : SpP K n Ps r f vs H Q E := by
  have hat := entS_at at1 av he
  refine ⟨u, (), [], A1 ++ A2 ++ F.M0, by rw [(argV_len av).1, hn], ⟨[], [], .nil, hat, good_c at1.m_trk (fun p hp => List.mem_append_right _ (at1.good.tm p hp)) at1.good.tb⟩, wp_mono q (fun b _ q3 v H' hx => ?_) fun _ _ z => z.elim⟩
  exact q3 v H' (At.dropU (by simp [(argV_len av).2]) (At.back at1 hx (.inr fun _ z => z)))
/-- what slot i owns is changed, and nothing else -/
theorem AtP.chg {i : Nat} {g' : Slot} {x : Option V} {B P1 P2 A1 A2 : List Addr} {H' : Hp} (h : AtP F T t G σ H A1 A2) (eA : A2 = P1 ++ (B ++ P2)) (ex : σ[i]? = some x)
    (back : ∀ (M' : List Addr) (H' : Hp) (g' : Slot) (x' : Option V) (B' : List Addr), (∀ {g x B}, Slot.ok K (A1 ++ A2 ++ F.M0) H g x B → (∀ p, p ∈ B → p ∈ P1 ∨ p ∈ P2) → Slot.ok K M' H' g x B) → g'.ok K M' H' x' B' → AtS K M' H' (G.set i g') (σ.set i x') (P1 ++ (B' ++ P2)))
    (tB : ∀ p, p ∈ B → ∃ o, H p = some o ∧ isOwn o = true) (hout : ∀ p, p ∉ B → H' p = H p) (hin : ∀ p, p ∈ B → ∃ o, H' p = some o ∧ isOwn o = true) (hg : g'.ok K (A1 ++ A2 ++ F.M0) H' x B) : At F T t (G.set i g') σ H' := by
  subst eA
  have nd := h.good.nd
  have kp : ∀ {B0 : List Addr}, (∀ p, p ∈ B0 → p ∈ A1 ∨ p ∈ P1 ∨ p ∈ P2) → ∀ p o, H p = some o → (p ∉ A1 ++ (P1 ++ (B ++ P2)) ++ F.M0 ∨ p ∈ B0 ∨ isTup o = true) → H' p = some o := by
    intro B0 hB0 p o e hp
    have np : p ∉ B := fun z => by
      obtain ⟨o', e', zt⟩ := tB p z
      rw [e] at e'
      cases e'
      rcases hp with q | q | q
      · exact q (by simp only [List.mem_append]; grind)
      · have := hB0 p q
        simp only [List.nodup_append, List.mem_append] at nd
        grind
      · rw [own_tup zt] at q; cases q
    rw [hout p np]; exact e
  have z := back (A1 ++ (P1 ++ (B ++ P2)) ++ F.M0) H' g' x B (fun hs sub => Slot.ok_keep hs (kp fun p hp => .inr (sub p hp))) hg
  rw [set_self ex] at z
  refine ⟨A1, P1 ++ (B ++ P2), h.tmp.keep (kp fun p hp => .inl hp), z, ⟨nd, h.good.out, h.good.new, fun p hp => ?_, fun p o e hI ht => ?_, h.good.m0, h.good.tm, h.good.tb.of fun p o e hz => ?_⟩⟩
  · by_cases hB : p ∈ B
    · exact hin p hB
    · obtain ⟨o, e, q⟩ := h.good.has p hp
      exact ⟨o, by rw [hout p hB]; exact e, q⟩
  · have np : p ∉ B := fun z => by
      rcases h.good.new p (by simp only [List.mem_append]; grind) with q | q
      · rw [q] at e; cases e
      · exact hI q
    rw [hout p np]
    exact h.good.stay p o e hI ht
  · rw [hout p fun z => ?_]
    · exact e
    · rcases hz with y | y
      · exact h.good.tb.own (tB p z) y
      · obtain ⟨o', e', zt⟩ := tB p z
        rw [e] at e'; cases e'
        rw [own_tup zt] at y; cases y
end
abbrev TapeV := Int × List (Int × Int)
abbrev rFiles : Rp (List (Int × Int)) := rTupL (rPair rInt rInt)
theorem cp_files : rFiles.Cp := cp_tupL (cp_pair cp_int cp_int)
theorem clo_tupL {T : Type} {r : Rp T} (c : r.Clo) : (rTupL r).Clo := by
  rintro K M M' H v a B ⟨p, vs, e, hp, hA⟩
  exact ⟨p, vs, e, hp, hA.imp fun _ _ _ _ h => c h⟩
theorem clo_files : rFiles.Clo := clo_tupL (clo_pair clo_int clo_int)
def tapeC (K : PySem.W.Frag) : Addr := He.ga K "Tape"
def tapeAt (K : PySem.W.Frag) (M : List Addr) (H : Hp) (p dx : Addr) (a : TapeV) : Prop := ∃ w, H p = some (SlX.SlO p (tapeC K) dx [some (.int a.1), some w]) ∧ H dx = some (.xd []) ∧ rFiles.rel K M H w a.2 []
def rTape : Rp TapeV where
  rel := fun K M H v a B => ∃ p dx, v = .ref p ∧ p ≠ dx ∧ tapeAt K M H p dx a ∧ B = [p, dx]
  keep := by
    rintro K M H H' v a B ⟨p, dx, ev, ne, ⟨w, h1, h2, h3⟩, eB⟩ k
    subst eB
    exact ⟨p, dx, ev, ne, ⟨w, k p _ h1 (.inr (.inl (by simp))), k dx _ h2 (.inr (.inl (by simp))), rFiles.keep h3 fun q o e z => k q o e (z.elim .inl fun y => y.elim (fun x => by cases x) fun x => .inr (.inr x))⟩, rfl⟩
  grow := by
    rintro K M M' H v a B ⟨p, dx, ev, ne, ⟨w, h1, h2, h3⟩, eB⟩ k
    exact ⟨p, dx, ev, ne, ⟨w, h1, h2, rFiles.grow h3 k⟩, eB⟩
  trk := by
    rintro K M H v a B ⟨p, dx, ev, ne, ⟨w, h1, h2, h3⟩, eB⟩ x hx
    subst eB
    rcases List.mem_cons.mp hx with e | hx
    · subst e; exact ⟨_, h1, rfl⟩
    · rcases List.mem_cons.mp hx with e | hx
      · subst e; exact ⟨_, h2, rfl⟩
      · cases hx
theorem clo_tape : rTape.Clo := by
  rintro K M M' H v a B ⟨p, dx, ev, ne, ⟨w, h1, h2, h3⟩, eB⟩
  exact ⟨p, dx, ev, ne, ⟨w, h1, h2, clo_files h3⟩, eB⟩
/-- a tape that is being made -/
inductive TS0 where
  | new
  | half (n : Int)
  | full (a : TapeV)
instance : Inhabited TS0 := ⟨.new⟩
def rSelf : Rp TS0 where
  rel := fun K M H v a B => match a with
    | .new => ∃ p dx, v = .ref p ∧ p ≠ dx ∧ (H p = some (.ins (tapeC K) dx []) ∧ H dx = some (.own p)) ∧ B = [p, dx]
    | .half n => ∃ p dx, v = .ref p ∧ p ≠ dx ∧ (H p = some (SlX.SlO p (tapeC K) dx [some (.int n)]) ∧ H dx = some (.xd [])) ∧ B = [p, dx]
    | .full a => rTape.rel K M H v a B
  keep := by
    intro K M H H' v a B h k
    cases a with
    | new =>
      obtain ⟨p, dx, ev, ne, ⟨h1, h2⟩, eB⟩ := h
      subst eB
      exact ⟨p, dx, ev, ne, ⟨k p _ h1 (.inr (.inl (by simp))), k dx _ h2 (.inr (.inl (by simp)))⟩, rfl⟩
    | half n =>
      obtain ⟨p, dx, ev, ne, ⟨h1, h2⟩, eB⟩ := h
      subst eB
      exact ⟨p, dx, ev, ne, ⟨k p _ h1 (.inr (.inl (by simp))), k dx _ h2 (.inr (.inl (by simp)))⟩, rfl⟩
    | full a => exact rTape.keep h k
  grow := by
    intro K M M' H v a B h k
    cases a with
    | new => exact h
    | half n => exact h
    | full a => exact rTape.grow h k
  trk := by
    intro K M H v a B h x hx
    cases a with
    | new =>
      obtain ⟨p, dx, ev, ne, ⟨h1, h2⟩, eB⟩ := h
      subst eB
      simp only [List.mem_cons, List.not_mem_nil, or_false] at hx
      rcases hx with e | e
      · subst e; exact ⟨_, h1, rfl⟩
      · subst e; exact ⟨_, h2, rfl⟩
    | half n =>
      obtain ⟨p, dx, ev, ne, ⟨h1, h2⟩, eB⟩ := h
      subst eB
      simp only [List.mem_cons, List.not_mem_nil, or_false] at hx
      rcases hx with e | e
      · subst e; exact ⟨_, h1, rfl⟩
      · subst e; exact ⟨_, h2, rfl⟩
    | full a => exact rTape.trk h x hx
theorem clo_self : rSelf.Clo := by
  intro K M M' H v a B h
  cases a with
  | new => exact h
  | half n => exact h
  | full a => exact clo_tape h
/-- what of the text a tape's class must have -/
structure TapeCls (K : PySem.W.Frag) : Prop where
  sc : SlX.SCls K (tapeC K)
  s0 : SlX.Slot1 K (tapeC K) "extent" (He.ma K (tapeC K) "extent") 0
  s1 : SlX.Slot1 K (tapeC K) "kept" (He.ma K (tapeC K) "kept") 1
theorem tape_slt {K : PySem.W.Frag} {M : List Addr} {H : Hp} {v : V} {a : TapeV} {B : List Addr} (h : rTape.rel K M H v a B) : ∃ p dx w, v = .ref p ∧ SlX.Slt H p (tapeC K) dx [some (.int a.1), some w] ∧ rFiles.rel K M H w a.2 [] := by
  obtain ⟨p, dx, ev, ne, ⟨w, h1, h2, h3⟩, eB⟩ := h
  exact ⟨p, dx, w, ev, .inr ⟨h1, h2⟩, h3⟩
section
variable {X : Cx} {S : Type} {F : FC X.K S} {U : Type} {e : Expr} {te : TE} {G G' : S → List Slot} {m : SM S U} {arg : U → Arg} {tx : U → TapeV} {pos : Pos}
theorem ex_extent (tc : TapeCls X.K) (h : EO X F e te G G' arg m) (hx : ∀ a s, Rdd (G' s) (arg a) rTape (tx a)) (hb : attributeBase e "extent" X.env (eval e X.env) = eval e X.env := by rfl) :
    EX X F (.Attribute e "extent" pos) (SlX.tSl X.K te "extent") G G' rInt (bnd m fun a => ret (tx a).1) :=
  ⟨SlX.pe_sl h.pe hb, fun T t σ s H Q h0 q => h.go T t σ s H _ h0 (wp_mono (wp_bnd q) (fun a s1 q1 ts v H1 at1 av => by
    obtain ⟨A1, A2, at1⟩ := at1
    obtain ⟨v', B, e1, k⟩ := rddM (j := 0) at1 av rfl (hx a s1)
    cases e1
    obtain ⟨p, dx, w, ev, hs, _⟩ := tape_slt k
    exact ⟨p, _, dx, _, _, 0, .int (tx a).1, ev, hs, tc.sc, tc.s0, rfl, q1 _ H1 (at1.fin av ⟨rfl, rfl⟩)⟩) fun _ _ z => z)⟩
theorem ex_kept (tc : TapeCls X.K) (h : EO X F e te G G' arg m) (hx : ∀ a s, Rdd (G' s) (arg a) rTape (tx a)) (hb : attributeBase e "kept" X.env (eval e X.env) = eval e X.env := by rfl) :
    EX X F (.Attribute e "kept" pos) (SlX.tSl X.K te "kept") G G' rFiles (bnd m fun a => ret (tx a).2) :=
  ⟨SlX.pe_sl h.pe hb, fun T t σ s H Q h0 q => h.go T t σ s H _ h0 (wp_mono (wp_bnd q) (fun a s1 q1 ts v H1 at1 av => by
    obtain ⟨A1, A2, at1⟩ := at1
    obtain ⟨v', B, e1, k⟩ := rddM (j := 0) at1 av rfl (hx a s1)
    cases e1
    obtain ⟨p, dx, w, ev, hs, hf⟩ := tape_slt k
    exact ⟨p, _, dx, _, _, 1, w, ev, hs, tc.sc, tc.s1, rfl, q1 _ H1 (at1.fin av hf)⟩) fun _ _ z => z)⟩
end
end Td
set_option Elab.async false
set_option linter.all false
set_option maxRecDepth 100000
set_option maxHeartbeats 4000000
namespace Td
open PySem PySem.Spec PyProof.Rows L2 SlX
section
variable {X : Cx} {CX : CXT} {g : Addr} {k : Nat} {sp : Sp} {E : XK} {C : Addr}
/-- len(x) by the class's def -/
def rLenOwn (C : Addr) (sp : Sp) (E : XK) : List V → Hp → VK → Prop := fun xs H Q => ∃ a dx vs, xs = [V.ref a] ∧ Slt H a C dx vs ∧ sp [.ref a] H (fun z H' => ∃ n : Int, z = .int n ∧ (0 ≤ n ∧ n < 2 ^ 63) ∧ Q (.int n) H') E
theorem call_lenOwn (hs : PySem.W.findIn X.K (.ref C) "__len__" = some (some (.ref g))) (hf : PySem.W.isFn X.K (.ref g) = true) (FO : FnR X.prog X.w X.K X.mg X.base CX k g sp) (hr : Room (k + 1) X.A) (hx : Passes CX X E) : CallR X (.builtin "len") (rLenOwn C sp E) := by
  intro pins s σ H xs us Q I r h
  obtain ⟨a, dx, vs, exs, hsl, q⟩ := h
  subst exs
  obtain ⟨u, eu, ru⟩ := Vals.one r
  subst eu
  cases (show u = Value.ref a from ru)
  obtain ⟨sl, od, _, J, _⟩ := slt_inst I hsl
  obtain ⟨m, fr⟩ := I.fr
  refine PySem.W.len_K fr I.mod.kin J hs hf (wpAny_mono (wpAny_call (run_at (us := [.ref a]) (ws := [.ref a]) FO hr.in1 I.env0.in1 hx I (.cons rfl .nil) q)) (fun z s' hz => ?_) fun _ _ y => y)
  obtain ⟨zv, H', I', rz, n, ez, hn, qz⟩ := hz
  subst ez
  obtain ⟨tk, et⟩ := (show ∃ t, z = Value.int n t from rz)
  subst et
  exact ⟨hn, ⟨.int n, H', I'.tok _, ⟨_, rfl⟩, qz⟩⟩
/-- x[i] by the class's def -/
def rIxOwn (C : Addr) (sp : Sp) (E : XK) : R2 := fun x y H Q => ∃ a dx vs, x = V.ref a ∧ Slt H a C dx vs ∧ sp [x, y] H Q E
theorem pe_ixOwn {a b : Expr} {ta tb : TE} {pos : Pos} (hs : PySem.W.findIn X.K (.ref C) "__getitem__" = some (some (.ref g))) (hf : PySem.W.isFn X.K (.ref g) = true) (hfn : PySem.W.fnIn X.K g = true) (FO : FnR X.prog X.w X.K X.mg X.base CX k g sp) (hr : Room (k + 1) X.A) (hx : Passes CX X E) (ha : PE X a ta) (hb : PE X b tb)
    (hsl : ∀ o i, subscripted b true o i = runValue (.builtin "lifetime.subscript" ⟨[o, i], []⟩)) : PE X (.Subscript a b pos) (tOp (rIxOwn C sp E) ta tb) := by
  refine ⟨fun pins s σ H Q I h => Subscript_ (binT ha hb I h fun v u s2 x y H2 I2 rx ry q => ?_)⟩
  obtain ⟨p, dx, vs, ex, hsl2, q⟩ := q
  subst ex
  cases (show v = Value.ref p from rx)
  obtain ⟨sl, od, _, J, _⟩ := slt_inst I2 hsl2
  obtain ⟨m, fr⟩ := I2.fr
  exact PySem.W.sub_K fr I2.mod.kin J hs hfn hf (wpAny_mono (wpAny_call (run_at (us := [.ref p, u]) (ws := [.ref p, y]) FO hr.in1 I2.env0.in1 hx I2 (.cons rfl (.cons ry .nil)) q)) (fun z s' hz => hz) fun _ _ y => y) (hsl _ _)
end
structure Mth (K : PySem.W.Frag) (m : Str) : Prop where
  at_ : PySem.W.findIn K (.ref (tapeC K)) m = some (some (.ref (He.ma K (tapeC K) m)))
  fn : PySem.W.isFn K (.ref (He.ma K (tapeC K) m)) = true
theorem fnIn_of {K : PySem.W.Frag} {f : Addr} {x qual : Str} {params : Arguments} {body : List Stmt} {scope : Scope} {dvs : List V} {kws : List (Str × V)} {fd : FuncData} (F : FunD K x qual params body scope dvs kws f fd) : PySem.W.fnIn K f = true := by
  obtain ⟨oc, od, dV, kV, doc, pm, an, cdv, ct, osl, e, lk, _⟩ := F.ex
  unfold PySem.W.fnIn
  rw [lk]
section
variable {X : Cx} {S : Type} {F : FC X.K S} {U W : Type} {e a b : Expr} {te ta tb : TE} {G G1 G' : S → List Slot} {m m1 : SM S U} {arg : U → Arg} {tx : U → TapeV} {pos p0 : Pos} {r : Rp W} {f : TapeV → SM Unit W} {k : Nat} {g p : Addr} {fd : FuncData} {nm : Str} {ps : List Str}
theorem rtape_s {G : List Slot} {arg : Arg} {a : TapeV} (h : RdS G arg rTape a) : EntS G [arg] [.is (sh rTape) a] := .sh h .nil
/-- tape.f, a property -/
theorem ex_prop {pn : Str} {fm : U → SM Unit W} (tc : TapeCls X.K) (pr : Prp X.K (tapeC X.K) pn) (FO : FnOk X.prog X.w X.K X.mg X.base (L2.CX X.prog X.w) k (pgA X.K (tapeC X.K) pn) fd ps (SpP X.K 1 (fun u : TapeV => [.is (sh rTape) u]) r f)) (hb : Binds X.K fd ps []) (hr : Room (k + 1) X.A)
    (h : EO X F e te G G' arg m) (hx : ∀ a s, RdS (G' s) (arg a) rTape (tx a)) (hf : ∀ a, fm a = f (tx a) := by intro _; rfl) (hba : attributeBase e pn X.env (eval e X.env) = eval e X.env := by rfl) :
    EX X F (.Attribute e pn pos) (tPropSl (tapeC X.K) (SpP X.K 1 (fun u : TapeV => [.is (sh rTape) u]) r f) (fun _ _ _ => False) te) G G' r (bnd m fun a => nxc (lft (fm a))) :=
  ⟨pe_propSl h.pe tc.sc pr.at_ pr.get pr.tk pr.rc ((FnOk.raw FO hb .nil).imp fun vs H Q E q => by rw [List.append_nil]; exact q) hr (fun H s e s' z => by obtain ⟨_, _, _, _, _, _, _, _, _, _, _, _, w⟩ := z; exact w) hba, fun T t σ s H Q h0 q => h.go T t σ s H _ h0 (wp_mono (wp_bnd q) (fun a s1 q1 ts v H1 at1 av => by
    obtain ⟨A1, A2, at1⟩ := at1
    obtain ⟨v', e1, _, B, k1, _⟩ := rdS (j := 0) at1 av rfl (hx a s1)
    cases e1
    obtain ⟨p, dx, w, ev, hs, _⟩ := tape_slt k1
    subst ev
    rw [hf a] at q1
    exact ⟨p, dx, _, rfl, hs, run_sp at1 av rfl (rtape_s (hx a s1)) (wp_mono (wp_lft (wp_nxc (E' := fun _ _ => False) q1)) (fun b _ q2 v H' z => q2 v H' z) fun _ _ z => z)⟩) fun _ _ z => z)⟩
/-- len(tape) -/
theorem ex_tlen {fm : U → SM Unit Int} {f : TapeV → SM Unit Int} (mt : Mth X.K "__len__") (FO : FnOk X.prog X.w X.K X.mg X.base (L2.CX X.prog X.w) k (He.ma X.K (tapeC X.K) "__len__") fd ps (SpP X.K 1 (fun u : TapeV => [.is (sh rTape) u]) rInt f)) (hb : Binds X.K fd ps []) (hr : Room (k + 1) X.A)
    (h : EO X F e te G G' arg m) (hx : ∀ a s, RdS (G' s) (arg a) rTape (tx a)) (hg : Gl X "len") (hm : X.mg "len" = none) (hf : ∀ a, fm a = f (tx a) := by intro _; rfl) (hs : PySem.W.isStarred e = false := by rfl) :
    EX X F (.Call (.Name "len" p0) [e] [] pos) (tCB (rLenOwn (tapeC X.K) (SpP X.K 1 (fun u : TapeV => [.is (sh rTape) u]) rInt f) (fun _ _ _ => False)) (tCons te tNil)) G G' rInt (bnd m fun a => bnd (nxc (lft (fm a))) fun n => bnd (grd (0 ≤ n ∧ n < 2 ^ 63)) fun _ => ret n) :=
  ⟨pe_callB (call_lenOwn mt.at_ mt.fn ((FnOk.raw FO hb .nil).imp fun vs H Q E q => by rw [List.append_nil]; exact q) hr (passes_nx rfl)) hg hm PySem.boot_len (pa_cons h.pe pa_nil (star1 hs)) (he := star1 hs), fun T t σ s H Q h0 q => h.go T t σ s H _ h0 (wp_mono (wp_bnd q) (fun a s1 q1 ts v H1 at1 av => by
    obtain ⟨A1, A2, at1⟩ := at1
    obtain ⟨v', e1, _, B, k1, _⟩ := rdS (j := 0) at1 av rfl (hx a s1)
    cases e1
    obtain ⟨p, dx, w, ev, hs, _⟩ := tape_slt k1
    subst ev
    rw [hf a] at q1
    refine ⟨p, dx, _, rfl, hs, run_sp at1 av rfl (rtape_s (hx a s1)) (wp_mono (wp_lft (wp_nxc (E' := fun _ _ => False) (wp_bnd q1))) (fun n _ q2 v H' z => ?_) fun _ _ z => z)⟩
    obtain ⟨hn, q3⟩ := wp_grd (wp_bnd q2)
    obtain ⟨_, _, ek, _⟩ := top_rel z
    subst ek
    exact ⟨n, rfl, hn, q3 _ H' z⟩) fun _ _ z => z)⟩
/-- tape[i] -/
theorem ex_tix {mi : SM S Int} {fm : U → Int → SM Unit W} {f : TapeV × Int → SM Unit W} (mt : Mth X.K "__getitem__") (hfn : PySem.W.fnIn X.K (He.ma X.K (tapeC X.K) "__getitem__") = true) (FO : FnOk X.prog X.w X.K X.mg X.base (L2.CX X.prog X.w) k (He.ma X.K (tapeC X.K) "__getitem__") fd ps (SpP X.K 2 (fun u : TapeV × Int => [.is (sh rTape) u.1, .is rInt u.2]) r f)) (hb : Binds X.K fd ps []) (hr : Room (k + 1) X.A)
    (h1 : EO X F a ta G G1 arg m) (h2 : EX X F b tb G1 G' rInt mi) (hx : ∀ a s, RdS (G' s) (arg a) rTape (tx a)) (hf : ∀ a i, fm a i = f (tx a, i) := by intros; rfl) (hsl : ∀ o i, subscripted b true o i = runValue (.builtin "lifetime.subscript" ⟨[o, i], []⟩) := by intros; rfl) :
    EX X F (.Subscript a b pos) (tOp (rIxOwn (tapeC X.K) (SpP X.K 2 (fun u : TapeV × Int => [.is (sh rTape) u.1, .is rInt u.2]) r f) (fun _ _ _ => False)) ta tb) G G' r (bnd m fun a => bnd mi fun i => nxc (lft (fm a i))) :=
  ⟨pe_ixOwn mt.at_ mt.fn hfn ((FnOk.raw FO hb .nil).imp fun vs H Q E q => by rw [List.append_nil]; exact q) hr (passes_nx rfl) h1.pe h2.pe hsl, fun T t σ s H Q h0 q => by
    refine h1.go T t σ s H _ h0 (wp_mono (wp_bnd q) (fun a s1 q1 ts x H1 at1 av1 => ?_) fun _ _ z => z)
    refine h2.go _ _ σ s1 H1 _ at1 (wp_mono (wp_bnd q1) (fun i s2 q2 y H2 at2 => ?_) fun _ _ z => z)
    obtain ⟨A1, A2, at2⟩ := at2
    have at3 : AtP F ((tmps [arg a, .t (.is rInt i)]).reverse ++ T) ((ts ++ [y]).reverse ++ t) (G' s2) σ H2 A1 A2 := by
      rw [tmps_cons]
      simpa [tmps] using at2
    have av2 : ArgV σ [arg a, .t (.is rInt i)] (ts ++ [y]) [x, y] := argV_cons av1 (.t .nil)
    obtain ⟨v', e1, _, B, k1, _⟩ := rdS (j := 0) at3 av2 rfl (hx a s2)
    cases e1
    obtain ⟨p, dx, w, ev, hs, _⟩ := tape_slt k1
    subst ev
    rw [hf a i] at q2
    exact ⟨p, dx, _, rfl, hs, run_sp at3 av2 rfl (.sh (hx a s2) (.cp cp_int (.tc cp_int) .nil)) (wp_mono (wp_lft (wp_nxc (E' := fun _ _ => False) q2)) (fun b _ q2 v H' z => q2 v H' z) fun _ _ z => z)⟩⟩
end
end Td
set_option Elab.async false
set_option linter.all false
set_option maxRecDepth 100000
set_option maxHeartbeats 4000000
namespace Td
open PySem PySem.Spec PyProof.Rows L2 SlX
section
variable {K : PySem.W.Frag} {S : Type} {F : FC K S} {T : List Slot} {t : List V} {G : List Slot} {σ : L2.St} {H : Hp}
/-- the arguments used up, a new tuple of things that own nothing comes -/
theorem AtP.newT {L : List Arg} {ts vs : List V} {A1 A2 : List Addr} (h : AtP F ((tmps L).reverse ++ T) (ts.reverse ++ t) G σ H A1 A2) (av : ArgV σ L ts vs) {U : Type} {r : Rp U} {as : List U} {ws : List V} (hr : All3 (r.rel K (A1 ++ A2 ++ F.M0) H) ws as []) {p : Addr} (hp : H p = none) :
    At F (.is (rTupL r) as :: T) (.ref p :: t) G σ (upd H p (.tup ws)) := by
  have k : ∀ x o, H x = some o → upd H p (.tup ws) x = some o := fun x o e => by rw [upd_ne (ne_of_none e hp)]; exact e
  have at2 : AtP F ((tmps L).reverse ++ T) (ts.reverse ++ t) G σ (upd H p (.tup ws)) A1 A2 := by
    refine ⟨h.tmp.keep fun x o e _ => k x o e, h.loc.keep fun x o e _ => k x o e, ⟨h.good.nd, h.good.out, h.good.new, fun x hx => ?_, fun x o e z ww => k x o (h.good.stay x o e z ww), h.good.m0, h.good.tm, h.good.tb.up k⟩⟩
    obtain ⟨o, e, z⟩ := h.good.has x hx
    exact ⟨o, k x o e, z⟩
  exact at2.fin av (r := rTupL r) ⟨p, ws, rfl, SqT.of upd_same, hr.imp fun v a B _ h => r.keep h fun x o e _ => k x o e⟩
end
section
variable {X : Cx} {S : Type} {F : FC X.K S} {U Z : Type} {r3 : Rp Z} {e : Expr} {te : TE} {G G' : S → List Slot} {m : SM S U} {arg : U → Arg} {pos p0 : Pos}
/-- tuple(xs) of a list -/
theorem ex_tuple {xs : U → List Z} (h : EO X F e te G G' arg m) (c : r3.Cp) (hx : ∀ a s, Rdd (G' s) (arg a) (rList r3) (xs a)) (hg : Gl X "tuple") (hm : X.mg "tuple" = none) (hs : PySem.W.isStarred e = false := by rfl) :
    EX X F (.Call (.Name "tuple" p0) [e] [] pos) (tCB (fun xs H Q => ∃ p ys, xs = [.ref p] ∧ ((SqL X.K H p ys ∧ ∀ l, H l = none → Q (.ref l) (upd H l (.tup ys))) ∨ (SqT X.K H p ys ∧ Q (.ref p) H))) (tCons te tNil)) G G' (rTupL r3) (bnd m fun a => ret (xs a)) :=
  ⟨pe_callTy call_tuple_of hg hm (by decide) (pa_cons h.pe pa_nil (star1 hs)) (he := star1 hs), go_call1 h.go (fun _ => stl_ret _) fun a s T t ts v σ H Q A1 A2 at1 av q => by
    obtain ⟨v', B, e1, p, vs, A, ev, hp, hA, eB⟩ := rddM (j := 0) at1 av rfl (hx a s)
    cases e1
    obtain ⟨_, q⟩ := q
    have eA := cp_all c hA
    subst eA
    exact ⟨p, vs, by rw [ev], .inl ⟨SqL.of hp, fun l hl => q _ _ (at1.newT av hA hl)⟩⟩⟩
end
def setExt (n : Int) : SM TS0 Unit := fun s => match s with
  | .new => .ok () (.half n)
  | _ => .stuck
def setKept (fs : List (Int × Int)) : SM TS0 Unit := fun s => match s with
  | .half n => .ok () (.full (n, fs))
  | _ => .stuck
section
variable {X : Cx} {F : FC X.K TS0} {N L R : Type} {G G1 : TS0 → List Slot} {GN : N → TS0 → List Slot} {GL : L → TS0 → List Slot} {r : Rp R} {pos p0 p1 : Pos} {rest : List Stmt} {tr : TS} {e : Expr} {te : TE} {x : Str} {w : V}
theorem bx_ext {me : SM TS0 Int} {out : SM TS0 (Fl N L R)} (tc : TapeCls X.K) (h : EX X F e te G G1 rInt me) (hG : ∀ s, (G1 s)[0]? = some (.pn w rSelf s)) (hset : ∀ s s', (G1 s).set 0 (.pn w rSelf s') = G1 s') (hb : BX X F rest tr G1 GN GL r out)
    (hN : X.N[0]? = some x := by rfl) (hv : Vis X.env.scope x := by first | exact Or.inl rfl | exact Or.inr (Or.inl rfl) | exact Or.inr (Or.inr rfl)) (hd : (x == ("__debug__" : Str)) = false := by decide) (hcd : (x == ("__classdict__" : Str)) = false := by decide)
    (hs : swapsWith e (some (.Attribute (.Name x p0) "extent" p1)) pos.line X.env = pure false := by rfl) :
    BX X F (.Assign [.Attribute (.Name x p0) "extent" p1] e pos :: rest) (tSeq (sSl X.K (tVar 0) te "extent") tr) G GN GL r (bnd me fun v => bnd (setExt v) fun _ => out) :=
  ⟨pss_cons (ps_sl (pe_var hN hv hd hcd) h.pe hs) hb.ps, fun T t σ s H D h0 q => by
    refine h.go T t σ s H _ h0 (wp_mono (wp_bnd q) (fun n s1 q1 v H1 at1 => ?_) fun e s z => z σ)
    obtain ⟨_, _, ek, _⟩ := top_rel at1
    subst ek
    have q2 := wp_bnd q1
    cases s1 with
    | half _ => exact q2.elim
    | full _ => exact q2.elim
    | new =>
      obtain ⟨A1, A2, at2⟩ := at1.pop
      obtain ⟨y, B, P1, P2, ey, hok, eA, back⟩ := at2.loc.at_ (hG .new)
      obtain ⟨ex, p, dx, ev, ne, ⟨h1, h2⟩, eB⟩ := hok
      subst ex ev eB
      refine ⟨.ref p, ey, p, tapeC X.K, dx, _, [], 0, rfl, .inl ⟨h1, rfl⟩, tc.sc, tc.s0, ?_⟩
      have z := at2.chg (g' := .pn (.ref p) rSelf (.half n)) (H' := slH H1 p (tapeC X.K) dx (putS 0 (.int n) [])) eA ey back (fun q hq => ?_) (fun q hq => ?_) (fun q hq => ?_) ?_
      · rw [hset] at z
        exact hb.go T t σ _ _ D z q2
      · simp only [List.mem_cons, List.not_mem_nil, or_false] at hq
        rcases hq with e | e
        · subst e; exact ⟨_, h1, rfl⟩
        · subst e; exact ⟨_, h2, rfl⟩
      · simp only [List.mem_cons, List.not_mem_nil, or_false, not_or] at hq
        exact slH_ne hq.1 hq.2
      · simp only [List.mem_cons, List.not_mem_nil, or_false] at hq
        rcases hq with e | e
        · subst e; exact ⟨_, upd_same, rfl⟩
        · subst e; exact ⟨.xd [], by unfold slH; rw [upd_ne (Ne.symm ne), upd_same], rfl⟩
      · exact ⟨rfl, p, dx, rfl, ne, ⟨upd_same, by unfold slH; rw [upd_ne (Ne.symm ne), upd_same]⟩, rfl⟩⟩
theorem bx_kept {me : SM TS0 (List (Int × Int))} {out : SM TS0 (Fl N L R)} (tc : TapeCls X.K) (h : EX X F e te G G1 rFiles me) (hG : ∀ s, (G1 s)[0]? = some (.pn w rSelf s)) (hset : ∀ s s', (G1 s).set 0 (.pn w rSelf s') = G1 s') (hb : BX X F rest tr G1 GN GL r out)
    (hN : X.N[0]? = some x := by rfl) (hv : Vis X.env.scope x := by first | exact Or.inl rfl | exact Or.inr (Or.inl rfl) | exact Or.inr (Or.inr rfl)) (hd : (x == ("__debug__" : Str)) = false := by decide) (hcd : (x == ("__classdict__" : Str)) = false := by decide)
    (hs : swapsWith e (some (.Attribute (.Name x p0) "kept" p1)) pos.line X.env = pure false := by rfl) :
    BX X F (.Assign [.Attribute (.Name x p0) "kept" p1] e pos :: rest) (tSeq (sSl X.K (tVar 0) te "kept") tr) G GN GL r (bnd me fun v => bnd (setKept v) fun _ => out) :=
  ⟨pss_cons (ps_sl (pe_var hN hv hd hcd) h.pe hs) hb.ps, fun T t σ s H D h0 q => by
    refine h.go T t σ s H _ h0 (wp_mono (wp_bnd q) (fun fs s1 q1 v H1 at1 => ?_) fun e s z => z σ)
    have q2 := wp_bnd q1
    cases s1 with
    | new => exact q2.elim
    | full _ => exact q2.elim
    | half n =>
      obtain ⟨A0, A2', at0⟩ := id at1
      obtain ⟨B0, A', eA0, ⟨v', ev', hf⟩, ht⟩ := AtS.cons_inv at0.tmp
      cases ev'
      have eB0 := cp_files hf
      subst eB0
      have hf2 : ∀ M, rFiles.rel X.K M H1 v fs [] := fun M => clo_files hf
      obtain ⟨A1, A2, at2⟩ := at1.pop
      obtain ⟨y, B, P1, P2, ey, hok, eA, back⟩ := at2.loc.at_ (hG (.half n))
      obtain ⟨ex, p, dx, ev, ne, ⟨h1, h2⟩, eB⟩ := hok
      subst ex ev eB
      have hout : ∀ q, q ∉ [p, dx] → slH H1 p (tapeC X.K) dx (putS 1 v [some (.int n)]) q = H1 q := fun q hq => by
        simp only [List.mem_cons, List.not_mem_nil, or_false, not_or] at hq
        exact slH_ne hq.1 hq.2
      refine ⟨.ref p, ey, p, tapeC X.K, dx, _, [some (.int n)], 1, rfl, .inr ⟨h1, h2⟩, tc.sc, tc.s1, ?_⟩
      have z := at2.chg (g' := .pn (.ref p) rSelf (.full (n, fs))) (H' := slH H1 p (tapeC X.K) dx (putS 1 v [some (.int n)])) eA ey back (fun q hq => ?_) hout (fun q hq => ?_) ?_
      · rw [hset] at z
        exact hb.go T t σ _ _ D z q2
      · simp only [List.mem_cons, List.not_mem_nil, or_false] at hq
        rcases hq with e | e
        · subst e; exact ⟨_, h1, rfl⟩
        · subst e; exact ⟨_, h2, rfl⟩
      · simp only [List.mem_cons, List.not_mem_nil, or_false] at hq
        rcases hq with e | e
        · subst e; exact ⟨_, upd_same, rfl⟩
        · subst e; exact ⟨.xd [], by unfold slH; rw [upd_ne (Ne.symm ne), upd_same], rfl⟩
      · refine ⟨rfl, p, dx, rfl, ne, ⟨v, upd_same, by unfold slH; rw [upd_ne (Ne.symm ne), upd_same], ?_⟩, rfl⟩
        refine rFiles.keep (hf2 _) fun q o e hq => ?_
        rw [hout q fun z => ?_]
        · exact e
        · rcases hq with hq | hq | hq
          · exact hq (by rw [eA]; simp only [List.mem_append]; grind)
          · cases hq
          · simp only [List.mem_cons, List.not_mem_nil, or_false] at z
            rcases z with z | z
            · subst z; rw [h1] at e; cases e; cases hq
            · subst z; rw [h2] at e; cases e; cases hq⟩
end
end Td
set_option Elab.async false
set_option linter.all false
set_option maxRecDepth 100000
set_option maxHeartbeats 4000000
namespace Td
open PySem PySem.Spec PyProof.Rows L2 SlX StX
section
variable {P : Program} {w : World} {K : PySem.W.Frag} {mg : Str → Option Value} {base : Heap} {x qual : Str} {params : Arguments} {body : List Stmt} {scope : Scope} {f : Addr} {fd : FuncData} {N ps : List Str} {k : Nat}
/-- a def whose first argument is in/out and which comes to its end -/
theorem fn_ioP {S U : Type} {rio : Rp S} {Pr : U → List Slot} {fm : U → SM S Unit} (FD : FunD K x qual params body scope [] [] f fd) (Sc : FnScope N ps scope) (out : U → SM S (Fl Unit Empty Unit)) (hfm : ∀ u, fm u = runP (out u))
    (hbody : ∀ (u : U) (v0 : V) (cdv : Value) (A : Around) (outer : List Env) (s : Shared) (H : Hp) (E : XK), Room k (A.deeper (envOfC qual scope s.heap.objs.size f cdv)) →
      ∀ F : FC K S, F.io = (fun s => .pn v0 rio s :: uns (N.length - 1)) → F.W = (fun c d _ H' => E c d H') → ∃ t, BX (cxOf (L2.CX P w) P w K mg base N qual scope f cdv A outer s H E) F body t (fun s => .pn v0 rio s :: (Pr u ++ uns (N.length - ps.length))) (fun (_ : Unit) s => .pn v0 rio s :: uns (N.length - 1)) (fun (e : Empty) _ => e.elim) rNon (out u)) :
    FnOk P w K mg base (L2.CX P w) (k + 1) f fd ps (SpI K ps.length rio Pr rNon fm) := by
  refine FD.ok Sc (fun vs H Q E h => ?_) (fun cdv A outer s H vs Q E hr h => ?_)
  · obtain ⟨u, _, _, _, h, _⟩ := h
    exact h
  · obtain ⟨u, s0, I, M0, hl, at0, q⟩ := h
    obtain ⟨t, hB⟩ := hbody u (vs.headD .non) cdv A outer s H E hr ⟨H, I, M0, fun s => .pn (vs.headD .non) rio s :: uns (N.length - 1), fun c d _ H' => E c d H'⟩ rfl rfl
    refine ⟨t, hB.ps, hB.go [] [] (start N vs) s0 H _ ?_ ?_⟩
    · have z := at_start (N := N) at0
      rw [hl] at z
      exact z.re rfl rfl rfl
    · rw [hfm u] at q
      refine wp_mono (wp_bnd q) (fun fl s1 q1 => ?_) (fun e s1 q1 σ d H' h1 => q1 d H' ((at_exitIo h1).re rfl rfl rfl))
      cases fl with
      | nx n => exact fun σ' H' h1 => q1 .non H' ((at_exitIo (h1.push (r := rNon) (a := ()) (v := V.non) fun _ => ⟨rfl, rfl⟩)).re rfl rfl rfl)
      | bk n => exact n.elim
      | ct n => exact n.elim
      | rt b => exact fun v σ' H' h1 => q1 v H' ((at_exitIo h1).re rfl rfl rfl)
end
def tapeM {S : Type} : TS0 → SM S TapeV
  | .full a => ret a
  | _ => stk
section
variable {K : PySem.W.Frag} {S : Type} {F : FC K S} {T : List Slot} {t : List V} {G : List Slot} {σ : L2.St} {H : Hp}
theorem AtP.alloc {A1 A2 : List Addr} (h : AtP F T t G σ H A1 A2) {x dx : Addr} (hx : H x = none) (hd : H dx = none) (ne : dx ≠ x) :
    AtP F T t (.is rSelf .new :: G) (some (.ref x) :: σ) (upd (upd H dx (.own x)) x (.ins (tapeC K) dx [])) A1 ([x, dx] ++ A2) ∧ AtS K (A1 ++ ([x, dx] ++ A2) ++ F.M0) (upd (upd H dx (.own x)) x (.ins (tapeC K) dx [])) G σ A2 ∧ rSelf.rel K (A1 ++ ([x, dx] ++ A2) ++ F.M0) (upd (upd H dx (.own x)) x (.ins (tapeC K) dx [])) (.ref x) .new [x, dx] ∧
      (∀ p o, H p = some o → upd (upd H dx (.own x)) x (.ins (tapeC K) dx []) p = some o) ∧ ∀ p, p ∈ A1 ++ ([x, dx] ++ A2) ++ F.M0 → p ∈ A1 ++ A2 ++ F.M0 ∨ H p = none := by
  have k : ∀ p o, H p = some o → upd (upd H dx (.own x)) x (.ins (tapeC K) dx []) p = some o := fun p o e => by
    rw [upd_ne (ne_of_none e hx), upd_ne (ne_of_none e hd)]; exact e
  have hM : ∀ p, p ∈ A1 ++ ([x, dx] ++ A2) ++ F.M0 → p ∈ A1 ++ A2 ++ F.M0 ∨ H p = none := fun p hp => by
    by_cases e1 : p = x
    · subst e1; exact .inr hx
    · by_cases e2 : p = dx
      · subst e2; exact .inr hd
      · left
        simp only [List.mem_append, List.mem_cons, List.not_mem_nil, or_false] at *
        grind
  have rel : ∀ M, rSelf.rel K M (upd (upd H dx (.own x)) x (.ins (tapeC K) dx [])) (.ref x) .new [x, dx] := fun M => ⟨x, dx, rfl, Ne.symm ne, ⟨upd_same, by rw [upd_ne ne, upd_same]⟩, rfl⟩
  have loc := (h.loc.grow hM).keep fun p o e _ => k p o e
  have nA : ∀ p, H p = none → p ∉ A1 ++ A2 ++ F.M0 := fun p e z => by
    obtain ⟨o, q, _⟩ := h.m_trk p z
    rw [e] at q; cases q
  have nx := nA x hx
  have ndx := nA dx hd
  refine ⟨⟨(h.tmp.grow hM).keep fun p o e _ => k p o e, .cons ⟨_, rfl, rel _⟩ loc, ⟨?_, fun p hp => ?_, fun p hp => ?_, fun p hp => ?_, fun p o e z ww => k p o (h.good.stay p o e z ww), h.good.m0, h.good.tm, h.good.tb.up k⟩⟩, loc, rel _, k, hM⟩
  · have := h.good.nd
    simp only [List.nodup_append, List.mem_append, List.mem_cons, List.not_mem_nil, or_false, List.nodup_cons, List.nodup_nil] at *
    grind
  · have := h.good.out p
    simp only [List.mem_append, List.mem_cons, List.not_mem_nil, or_false] at *
    grind
  · by_cases e1 : p = x
    · subst e1; exact .inl (h.good.fresh hx).1
    · by_cases e2 : p = dx
      · subst e2; exact .inl (h.good.fresh hd).1
      · exact h.good.new p (by simp only [List.mem_append, List.mem_cons, List.not_mem_nil, or_false] at *; grind)
  · obtain ⟨o, e, z⟩ := h.good.has p hp
    exact ⟨o, k p o e, z⟩
theorem go_make {U A : Type} {n : Nat} {Pr : U → List Slot} {f : U → SM TS0 Unit} {fm : A → SM TS0 Unit} {E : XK} {ta : TA} {G G' : S → List Slot} {LA : A → List Arg} {mA : SM S A} (u : A → U) (hf : ∀ a, fm a = f (u a)) (h : GA F ta G G' LA mA) (hn : ∀ a, (LA a).length + 1 = n)
    (he : ∀ a s, EntS (G' s) (LA a) (Pr (u a))) (hW : ∀ c d σ H, F.W c d σ H → E c d H) (hw : ∀ s, Weak (G' s) (F.io s)) :
    GE F (tMakeR (tapeC K) (SpI K n rSelf Pr rNon f) E ta) G G' (sh rTape) (bnd mA fun a => bnd (subM (fm a) TS0.new) fun p => tapeM p.2) := by
  intro T t σ s H Q h0 q
  have ef : fm = fun a => f (u a) := funext hf
  subst ef
  refine h T t σ s H _ h0 (wp_mono (wp_bnd q) (fun a s1 q1 ts vs H1 at1 av => ?_) fun _ _ z => z)
  have q2 := wp_subM (wp_bnd q1)
  obtain ⟨A1, A2, at1⟩ := at1
  intro x dx hx hd ne
  have hent := entS_at at1 av (he a s1)
  obtain ⟨at2, tail, rel, k, hM⟩ := at1.alloc hx hd ne
  refine run_ioS clo_self rel tail at2 (argV_len av).2 (by rw [(argV_len av).1, hn]) ((hent.grow hM).keep fun p o e _ => k p o e) (wp_mono q2 (fun b s' q3 v H' hz => ?_) (fun e s' q3 d H' hz => ?_))
  · obtain ⟨_, _, hz0⟩ := id hz
    obtain ⟨_, _, _, _, ht0⟩ := AtS.cons_inv hz0.tmp
    obtain ⟨_, _, _, ⟨v', ev, eb, _⟩, _⟩ := AtS.cons_inv ht0
    cases ev
    subst eb
    refine ⟨rfl, ?_⟩
    cases s' with
    | new => exact q3.elim
    | half _ => exact q3.elim
    | full a =>
      have z1 : At F (.is rTape a :: .is rNon b :: T) (.ref x :: .non :: t) (G' s1) σ H' := by
        obtain ⟨C1, C2, hz⟩ := hz
        obtain ⟨B, A', eA, ⟨v', ev, hr⟩, ht⟩ := AtS.cons_inv hz.tmp
        subst eA
        exact ⟨_, C2, .cons ⟨v', ev, hr⟩ ht, hz.loc, hz.good⟩
      exact q3 _ H' (At.dropU (T1 := [_]) (t1 := [_]) rfl z1).freeze
  · refine hW _ _ σ _ (q3 d H' ?_)
    have z2 := hz.weak (hw s1)
    exact At.dropM (T0 := [_]) (t0 := [.ref d]) (T := []) (t := []) rfl (T1 := T) (t1 := t) (by obtain ⟨B1, B2, hz⟩ := h0; have := hz.tmp.length; simpa using this) (by simpa using z2)
end
section
variable {X : Cx} {S : Type} {F : FC X.K S} {U A : Type} {n k : Nat} {Pr : U → List Slot} {f : U → SM TS0 Unit} {fm : A → SM TS0 Unit} {E : XK} {ta : TA} {G G' : S → List Slot} {LA : A → List Arg} {mA : SM S A} {CX : CXT} {fA : Addr} {fd : FuncData} {ps : List Str} {x : Str} {p pos : Pos} {e : Expr} {es : List Expr}
theorem ex_make (u : A → U) (M : Mk X.K (tapeC X.K) fA) (FO : FnOk X.prog X.w X.K X.mg X.base CX k fA fd ps (SpI X.K n rSelf Pr rNon f)) (hr : Room (k + 1) X.A) (hg : Gl X x) (hm : X.mg x = some (.ref (tapeC X.K))) (hb : Binds X.K fd ps []) (hx : Passes CX X E)
    (h : EA X F (e :: es) ta G G' LA mA) (hn : ∀ a, (LA a).length + 1 = n) (he : ∀ a s, EntS (G' s) (LA a) (Pr (u a))) (hW : ∀ c d σ H, F.W c d σ H → E c d H) (hw : ∀ s, Weak (G' s) (F.io s)) (hf : ∀ a, fm a = f (u a) := by intro _; rfl)
    (hst : PySem.W.isStarred e = false := by rfl) (hpl : (backTo pos (starEach es X.env)).any (·.1) = false := by rfl) (hdb : (x == ("__debug__" : Str)) = false := by decide) :
    EX X F (.Call (.Name x p) (e :: es) [] pos) (tMakeR (tapeC X.K) (SpI X.K n rSelf Pr rNon f) E ta) G G' (sh rTape) (bnd mA fun a => bnd (subM (fm a) TS0.new) fun p => tapeM p.2) :=
  ⟨pe_makeR M ((FnOk.raw FO hb .nil).imp fun vs H Q E q => by rw [List.append_nil]; exact q) hr hg hm hx h.pa (hdb := hdb) (he := star1 hst) (hpl := hpl), go_make u hf h.go hn he hW hw⟩
end
end Td
set_option Elab.async false
set_option linter.all false
set_option maxRecDepth 100000
set_option maxHeartbeats 4000000
namespace Td
open PySem PySem.Spec PyProof.Rows L2 SlX StX
structure FnG (P : Program) (w : World) (K : PySem.W.Frag) (mg : Str → Option Value) (base : Heap) (k : Nat) (f : Addr) (fd : FuncData) (ps : List Str) (sp : Sp) : Prop where
  len : ∀ vs H Q E, sp vs H Q E → vs.length = ps.length
  run : ∀ (A : Around) (outer : List Env) (s : Shared) (H : Hp) (args : Args) (us : List Value) (vs : List V) (Q : VK) (E : XK), Room k A → A.guards = some [] → Env0 P w K mg base A outer s H → BindsTo s fd args (ps.zip us) → Vals vs us → sp vs H Q E →
    codeAny (model P w) A (.call (.ref f) args) (CR (L2.CX P w) outer P w H s Q E) s
section
variable {P : Program} {w : World} {K : PySem.W.Frag} {mg : Str → Option Value} {base : Heap} {x qual : Str} {params : Arguments} {body : List Stmt} {scope : Scope} {f : Addr} {fd : FuncData} {N ps : List Str} {k : Nat} {sp : Sp}
theorem FnG.of (FD : FunD K x qual params body scope [] [] f fd) (Sc : FnScope N ps scope) (len : ∀ vs H Q E, sp vs H Q E → vs.length = ps.length)
    (hbody : ∀ (cdv : Value) (A : Around) (outer : List Env) (s : Shared) (H : Hp) (vs : List V) (Q : VK) (E : XK), Room k (A.deeper (envOfC qual scope s.heap.objs.size f cdv)) → A.guards = some [] → sp vs H Q E →
      ∃ t, PSs (cxOf (L2.CX P w) P w K mg base N qual scope f cdv A outer s H E) body t ∧ t { nx := fun _ H' => Q .non H', rt := Q } (start N vs) H) : FnG P w K mg base (k + 1) f fd ps sp := by
  obtain ⟨oc, od, dV, kV, doc, pm, an, cdv, ct, osl, efd, lk, hcd, _, _⟩ := FD.ex
  subst efd
  refine ⟨len, fun A outer s H args us vs Q E hr hgd e0 hb r hsp => ?_⟩
  have kept : ∀ b o, base.get? b = some o → s.heap.get? b = some o := fun b o e => (e0.bs b o e).1
  have KX : K.In s.heap := e0.mod.kin.keeps kept
  have kinds : ∀ y ∈ ps.zip us, scope.names.lookup y.1 = some .local ∨ (scope.names.lookup y.1 = some .cell ∧ ((cellsFrom (s.heap.objs.size + 1) scope.names []).lookup y.1).isSome = true) := fun y hy =>
    (Sc.par y.1 (List.of_mem_zip (show (y.1, y.2) ∈ ps.zip us from hy)).1).imp id fun q => ⟨q, PySem.W.cellsFrom_some _ _ _ (.inl q)⟩
  refine codeAny_call_function hr.depth (KX _ _ lk) rfl Sc.co Sc.gen rfl (PySem.W.codeRec_of KX hcd) (hb _ _ _ _ ?_)
  refine wpAny_newFunctionEnv_cells Sc.kind kinds fun env he s1 x1 => ?_
  subst he
  refine ⟨(e0.mod.nolimit.keeps kept).keeps x1.toInCall.keep, codeAny_func ?_⟩
  obtain ⟨t, ht, hq⟩ := hbody cdv A outer s H vs Q E (hr.deeper _) hgd hsp
  refine wpAny_mono (ht.run [] s1 (start N vs) H _ (inv_start Sc hr.hd e0 (len _ _ _ _ hsp) r x1) hq) (fun fl s' hs => ?_) fun e s' hs => hs
  cases fl with
  | next =>
    obtain ⟨σ', H', J, q⟩ := hs
    exact ⟨V.non, H', J.os, J.bare, J.base, J.hok, rfl, q⟩
  | ret u =>
    obtain ⟨v, σ', H', J, rv, q⟩ := hs
    exact ⟨v, H', J.os, J.bare, J.base, J.hok, rv, q⟩
  | brk => obtain ⟨_, _, _, q⟩ := hs; exact q.elim
  | cont => obtain ⟨_, _, _, q⟩ := hs; exact q.elim
theorem fnG_pure {U W : Type} {Ps : U → List Slot} {r : Rp W} {fm : U → SM Unit W} (FD : FunD K x qual params body scope [] [] f fd) (Sc : FnScope N ps scope) (out : U → SM Unit (Fl Empty Empty W)) (hfm : ∀ u, fm u = runB (out u))
    (hbody : ∀ (u : U) (cdv : Value) (A : Around) (outer : List Env) (s : Shared) (H : Hp) (E : XK), Room k (A.deeper (envOfC qual scope s.heap.objs.size f cdv)) → A.guards = some [] →
      ∀ F : FC K Unit, F.io = (fun _ => uns N.length) → F.W = (fun c d _ H' => E c d H') → ∃ t, BX (cxOf (L2.CX P w) P w K mg base N qual scope f cdv A outer s H E) F body t (fun _ => Ps u ++ uns (N.length - ps.length)) (fun (e : Empty) _ => e.elim) (fun (e : Empty) _ => e.elim) r (out u)) :
    FnG P w K mg base (k + 1) f fd ps (SpP K ps.length Ps r fm) := by
  refine FnG.of FD Sc (fun vs H Q E h => ?_) (fun cdv A outer s H vs Q E hr hgd h => ?_)
  · obtain ⟨u, _, _, _, h, _⟩ := h
    exact h
  · obtain ⟨u, s0, I, M0, hl, at0, q⟩ := h
    obtain ⟨t, hB⟩ := hbody u cdv A outer s H E hr hgd ⟨H, I, M0, fun _ => uns N.length, fun c d _ H' => E c d H'⟩ rfl rfl
    refine ⟨t, hB.ps, hB.go [] [] (start N vs) s0 H _ ?_ ?_⟩
    · have z := at_start (N := N) at0
      rw [hl] at z
      exact z.re rfl rfl rfl
    · rw [hfm u] at q
      refine wp_mono (wp_bnd q) (fun fl s1 q1 => ?_) (fun e s1 q1 σ d H' h1 => q1 d H' ((at_exit h1).re rfl rfl rfl))
      cases fl with
      | nx n => exact n.elim
      | bk n => exact n.elim
      | ct n => exact n.elim
      | rt b => exact fun v σ' H' h1 => q1 v H' ((at_exit h1).re rfl rfl rfl)
theorem fnG_io {S U W : Type} {rio : Rp S} {Pr : U → List Slot} {r : Rp W} {fm : U → SM S W} (FD : FunD K x qual params body scope [] [] f fd) (Sc : FnScope N ps scope) (out : U → SM S (Fl Empty Empty W)) (hfm : ∀ u, fm u = runB (out u))
    (hbody : ∀ (u : U) (v0 : V) (cdv : Value) (A : Around) (outer : List Env) (s : Shared) (H : Hp) (E : XK), Room k (A.deeper (envOfC qual scope s.heap.objs.size f cdv)) → A.guards = some [] →
      ∀ F : FC K S, F.io = (fun s => .pn v0 rio s :: uns (N.length - 1)) → F.W = (fun c d _ H' => E c d H') → ∃ t, BX (cxOf (L2.CX P w) P w K mg base N qual scope f cdv A outer s H E) F body t (fun s => .pn v0 rio s :: (Pr u ++ uns (N.length - ps.length))) (fun (e : Empty) _ => e.elim) (fun (e : Empty) _ => e.elim) r (out u)) :
    FnG P w K mg base (k + 1) f fd ps (SpI K ps.length rio Pr r fm) := by
  refine FnG.of FD Sc (fun vs H Q E h => ?_) (fun cdv A outer s H vs Q E hr hgd h => ?_)
  · obtain ⟨u, _, _, _, h, _⟩ := h
    exact h
  · obtain ⟨u, s0, I, M0, hl, at0, q⟩ := h
    obtain ⟨t, hB⟩ := hbody u (vs.headD .non) cdv A outer s H E hr hgd ⟨H, I, M0, fun s => .pn (vs.headD .non) rio s :: uns (N.length - 1), fun c d _ H' => E c d H'⟩ rfl rfl
    refine ⟨t, hB.ps, hB.go [] [] (start N vs) s0 H _ ?_ ?_⟩
    · have z := at_start (N := N) at0
      rw [hl] at z
      exact z.re rfl rfl rfl
    · rw [hfm u] at q
      refine wp_mono (wp_bnd q) (fun fl s1 q1 => ?_) (fun e s1 q1 σ d H' h1 => q1 d H' ((at_exitIo h1).re rfl rfl rfl))
      cases fl with
      | nx n => exact n.elim
      | bk n => exact n.elim
      | ct n => exact n.elim
      | rt b => exact fun v σ' H' h1 => q1 v H' ((at_exitIo h1).re rfl rfl rfl)
end
section
variable {X : Cx} {k : Nat} {f : Addr} {fd : FuncData} {ps : List Str} {sp : Sp} {E : XK} {x : Str} {p pos : Pos} {e : Expr} {es : List Expr} {t : TA}
theorem pe_callG (FO : FnG X.prog X.w X.K X.mg X.base k f fd ps sp) (hr : Room k X.A) (hgd : X.A.guards = some []) (hg : Gl X x) (hm : X.mg x = some (.ref f)) (hk : PySem.W.keepIn X.K (.ref f) = true) (hb : Binds X.K fd ps []) (hx : Passes (L2.CX X.prog X.w) X E)
    (ha : PA X (e :: es) t) (hdb : (x == ("__debug__" : Str)) = false := by decide) (hst : starEach (e :: es) X.env = (false, eval e X.env) :: starEach es X.env := by rfl) (hpl : (backTo pos (starEach es X.env)).any (·.1) = false := by rfl) :
    PE X (.Call (.Name x p) (e :: es) [] pos) (tCall sp [] E t) := by
  refine ⟨fun pins s σ H Q I h => wpAny_Call_Name_kw (ld_glob I hg hm (PySem.W.callWith_K (h₀ := X.base) I.ok.mod.kin hk (thn (ha.run pos pins s σ H _ I h) fun us s1 ⟨vs, H1, I1, r, q⟩ => ⟨I1.kIn, ?_⟩) hst hpl) hdb)⟩
  have q : sp vs H1 Q E := by
    have z : sp (vs ++ []) H1 Q E := q
    rwa [List.append_nil] at z
  have hl : (us ++ ([] : List Value)).length = ps.length := by rw [List.append_nil, ← r.length]; exact FO.len _ _ _ _ q
  have hb2 := hb s1 us I1.kIn hl
  rw [List.append_nil] at hb2
  refine wpAny_call (codeAny_mono (FO.run X.A X.stack s1 H1 ⟨us, []⟩ us vs Q E hr hgd I1.env0 hb2 r q) fun z s' hq => ?_)
  cases z with
  | error e => exact hx pins σ H1 s1 e s' I1 hq
  | ok fl =>
    cases fl with
    | ret u => exact I1.after hq
    | next => exact hq.elim
    | brk => exact hq.elim
    | cont => exact hq.elim
end
section
variable {X : Cx} {S S' : Type} {F : FC X.K S} {U W A : Type} {n k : Nat} {r : Rp W} {E : XK} {ta : TA} {G G' : S → List Slot} {LA : A → List Arg} {mA : SM S A} {fA : Addr} {fd : FuncData} {ps : List Str} {x : Str} {p pos : Pos} {e : Expr} {es : List Expr}
theorem ex_callIoG {rio : Rp S} {Pr : U → List Slot} {f : U → SM S W} {fm : A → SM S W} {w : V} (hgd : X.A.guards = some []) (j : Nat) (u : A → U) (FO : FnG X.prog X.w X.K X.mg X.base k fA fd ps (SpI X.K n rio Pr r f)) (hr : Room k X.A) (hg : Gl X x) (hm : X.mg x = some (.ref fA)) (hk : PySem.W.keepIn X.K (.ref fA) = true) (hb : Binds X.K fd ps []) (hx : Passes (L2.CX X.prog X.w) X E)
    (cio : rio.Clo) (h : EA X F (e :: es) ta G G' (fun a => .v j :: LA a) mA) (hn : ∀ a, (LA a).length + 1 = n) (hG : ∀ s, (G' s)[j]? = some (.pn w rio s)) (hS : ∀ s s', (G' s).set j (.pn w rio s') = G' s')
    (he : ∀ a s, EntS (G' s) (LA a) (Pr (u a))) (hW : ∀ c d σ H, F.W c d σ H → E c d H) (hw : ∀ s, Weak (G' s) (F.io s)) (hf : ∀ a, fm a = f (u a) := by intro _; rfl)
    (hst : PySem.W.isStarred e = false := by rfl) (hpl : (backTo pos (starEach es X.env)).any (·.1) = false := by rfl) (hdb : (x == ("__debug__" : Str)) = false := by decide) :
    EX X F (.Call (.Name x p) (e :: es) [] pos) (tCall (SpI X.K n rio Pr r f) [] E ta) G G' r (bnd mA fm) :=
  ⟨pe_callG FO hr hgd hg hm hk hb hx h.pa (hdb := hdb) (hst := star1 hst) (hpl := hpl), go_callIo j u hf cio h.go hn hG hS he hW hw⟩
end
section
variable {X : Cx} {S : Type} {F : FC X.K S} {U : Type} {e : Expr} {te : TE} {G G' : S → List Slot} {m : SM S U} {arg : U → Arg} {pos p0 : Pos} {da : U → PyData}
end
end Td
set_option Elab.async false
set_option linter.all false
set_option maxRecDepth 100000
set_option maxHeartbeats 4000000
namespace Td
open PySem PySem.Spec PyProof.Rows L2 SlX StX
instance decRg (a b : Int) : Decidable (RgOk a b) := by unfold RgOk; infer_instance
theorem all_int {K : PySem.W.Frag} {M : List Addr} {H : Hp} : ∀ (xs : List Int), All3 (rInt.rel K M H) (xs.map V.int) xs []
  | [] => .nil
  | x :: xs => .cons (B := []) ⟨rfl, rfl⟩ (all_int xs)
/-- a new list of plain ints -/
theorem At.ints {K : PySem.W.Frag} {S : Type} {F : FC K S} {T : List Slot} {t : List V} {G : List Slot} {σ : L2.St} {H : Hp} (h : At F T t G σ H) (xs : List Int) {p : Addr} (hp : H p = none) : At F (.is (rList rInt) xs :: T) (.ref p :: t) G σ (upd H p (.lst (xs.map V.int))) := by
  obtain ⟨A1, A2, h⟩ := h
  exact At.lst ⟨A1, A2, h.pushAll (all_int xs) rfl⟩ (by simp) hp
section
variable {X : Cx} {S : Type} {F : FC X.K S} {a b : Expr} {ta tb : TE} {G G1 G2 G' : S → List Slot} {mi m1 m2 : SM S Int} {pos p0 q0 rpos : Pos}
end
section
variable {X : Cx} {S : Type} {F : FC X.K S} {a b : Expr} {ta tb : TE} {G G1 G2 G' : S → List Slot} {mi : SM S Int} {pos : Pos}
variable {m2 : SM S (Int × Int)} {m3 : SM S (Int × Int × Int)}
end
end Td
set_option Elab.async false
set_option linter.all false
set_option maxRecDepth 100000
set_option maxHeartbeats 4000000
namespace Td
open PySem PySem.Spec PyProof.Rows L2 LamX
/-- nothing is tracked but the script and the tables -/
def OnlyT (ts : List Addr) (H : Hp) : Prop := ∀ b, H b = none ∨ b ∈ ts ∨ ∃ o xs, H b = some (.frz o (.lst xs))
section
variable {P : Program} {w : World} {K : PySem.W.Frag} {mg mb : Str → Option Value} {k : Nat} {fa a : Addr} {fd : FuncData} {x : Str} {sp : Sp} {sh : Shared} {H : Hp} {cs : List (Addr × Addr)}
/-- the call over one abstract heap that knows at most the script and the tables -/
theorem callG_at {vs : List Value} (KX : K.In sh.heap) (hns : sh.heap.Ns mainGlobals mg) (hb : sh.heap.Ns builtinsNs mb) (hbb : ∀ x : Str, x ≠ "__name__" → mb x = bootBuiltins x) (hlim : sh.heap.NoLimit) (hg : sh.gens = #[])
    (hT : ∀ p ∈ cs, sh.heap.get? p.2 = some { cls := .none, data := .fields #[] }) (nT : ∀ p ∈ cs, K.lookup p.2 = none) (C : ∀ p ∈ cs, PySem.W.CodeHd sh.heap p.1 p.2)
    (hbm : ∃ (bm : Addr) (ob : Obj), mg "__builtins__" = some (.ref bm) ∧ bm ≠ builtinsNs ∧ sh.heap.get? bm = some ob ∧ ob.cls = .type "module" ∧ ob.dict = some builtinsNs ∧ ob.data = .plain)
    (ho : sh.heap.get? a = some { cls := .type "list", data := .seq vs.toArray }) (hr : Room k callerA) (F : ∀ base : Heap, K.In base → base.Ns mainGlobals mg → (∀ p ∈ cs, TabB base mg p.1 p.2) → FnG P w K mg base k fa fd [x] sp) (hbind : ∀ (s : Shared) (u : Value), BindsTo s fd ⟨[u], []⟩ [(x, u)])
    (hH : ∀ b, b ∈ cs.map (·.2) → H b = some (.tbl #[])) (hO : OnlyT (cs.map (·.2)) H) (hok : HOk P w H sh.heap) (hA : ∀ b, H b ≠ none → b = a ∨ b ∈ cs.map (·.2)) (hK : H a ≠ none → K.lookup a = none) (hsp : sp [.ref a] H (fun v _ => v = .bl true) fun _ _ _ => False) :
    codeAny (model P w) callerA (.call (.ref fa) ⟨[.ref a], []⟩) (fun r s' => r = .ok (.ret (.bool true)) ∧ OldK sh.heap s'.heap ∧ s'.os = sh.os ∧ AllBare s'.gens) sh := by
  have isT : ∀ b, b ∈ cs.map (·.2) → sh.heap.get? b = some { cls := .none, data := .fields #[] } := fun b hb => by
    obtain ⟨p, hp, e⟩ := List.mem_map.mp hb
    rw [← e]; exact hT p hp
  have isN : ∀ b, b ∈ cs.map (·.2) → K.lookup b = none := fun b hb => by
    obtain ⟨p, hp, e⟩ := List.mem_map.mp hb
    rw [← e]; exact nT p hp
  have free : ∀ {b : Addr}, b ≠ a → b ∉ cs.map (·.2) → H b = none := fun {b} h h2 => by
    cases q : H b with
    | none => rfl
    | some u => exact (hA b (by rw [q]; exact fun z => nomatch z)).elim (fun z => absurd z h) fun z => absurd z h2
  -- what is neither a list nor an empty table is not tracked
  have untr : ∀ {b : Addr} {ob : Obj}, sh.heap.get? b = some ob → (∀ us, ob ≠ { cls := .type "list", data := .seq us }) → ob ≠ { cls := .none, data := .fields #[] } → H b = none := fun {b ob} e h1 h2 => free
    (fun z => by subst z; rw [ho] at e; exact h1 _ (Option.some.inj e).symm) fun z => h2 (Option.some.inj ((isT b z).symm.trans e)).symm
  have nsK : ∀ {b : Addr} {m : Str → Option Value}, sh.heap.Ns b m → (hidT sh.heap H).Ns b m := fun {b m} hn => by
    obtain ⟨ob, es, ep, e, d, r⟩ := hn
    refine ⟨ob, es, ep, hidT_get e (untr e (fun us z => ?_) fun z => ?_), d, r⟩
    · rw [z] at d; cases d
    · rw [z] at d; cases d
  have hKb : K.In (hidT sh.heap H) := fun b ob e => by
    refine hidT_get (KX b ob e) ?_
    by_cases hb : b = a
    · subst hb
      cases q : H b with
      | none => rfl
      | some u =>
        have z := hK (by rw [q]; exact fun z => nomatch z)
        rw [z] at e; cases e
    · refine free hb fun z => ?_
      rw [isN b z] at e; cases e
  have TB : ∀ p ∈ cs, TabB (hidT sh.heap H) mg p.1 p.2 := fun p hp => by
    have hTp := hT p hp
    refine ⟨?_, ?_, fun z => ?_⟩
    · obtain ⟨oc, us, file, tf, flags, tg, inF, text, tt, e1, r1, r2, r3, rest⟩ := C p hp
      refine ⟨oc, us, file, tf, flags, tg, inF, text, tt, hidT_get e1 (untr e1 (fun us' z => ?_) fun z => ?_), r1, r2, r3, rest⟩
      · rw [z] at r2; cases r2
      · rw [z] at r2
        cases r2
        simp at r3
    · obtain ⟨bm, ob, b1, b2, b3, b4, b5, b6⟩ := hbm
      refine ⟨bm, ob, b1, b2, fun q => ?_, fun q => ?_, hidT_get b3 (untr b3 (fun us z => ?_) fun z => ?_), b4, b5, b6⟩
      · obtain ⟨o2, es, ep, e, hd, _⟩ := hns
        rw [q, e] at b3
        cases b3
        rw [hd] at b6
        cases b6
      · rw [q, hTp] at b3
        cases b3
        cases b6
      · rw [z] at b6; cases b6
      · rw [z] at b6; cases b6
    · obtain ⟨o2, es, ep, e, hd, _⟩ := hns
      rw [z, hTp] at e
      cases e
      cases hd
  obtain ⟨mc, lim1, lim2⟩ := hlim
  have e0 : Env0 P w K mg (hidT sh.heap H) callerA [] sh H := ⟨rfl, ⟨hKb, nsK hns, ⟨mb, nsK hb, hbb⟩, ⟨mc, nsK lim1, lim2⟩⟩, fun b ob e => of_hidT e, Nat.le_of_eq (hidT_size _ _), trivial, fun b hb => (nomatch hb), hok, .of_eq hg⟩
  refine codeAny_mono ((F _ hKb (nsK hns) TB).run callerA [] sh H ⟨[.ref a], []⟩ [.ref a] [.ref a] _ _ hr rfl e0 (hbind sh (.ref a)) (.cons rfl .nil) hsp) fun r s' h => ?_
  cases r with
  | error e =>
    obtain ⟨_, _, _, _, _, _, _, _, _, _, _, _, hf⟩ := h
    exact hf.elim
  | ok fl =>
    cases fl with
    | next => exact h.elim
    | brk => exact h.elim
    | cont => exact h.elim
    | ret u =>
      obtain ⟨v, H', os, bare, un, hok', ru, ev⟩ := h
      have ev' : v = .bl true := ev
      subst ev'
      have eu : u = Value.bool true := ru
      have kept : ∀ b ob, b ∉ cs.map (·.2) → sh.heap.get? b = some ob → s'.heap.get? b = some ob := fun b ob nb e => by
        rcases hO b with z | z | ⟨o2, ys, z⟩
        · exact un.keep b ob e z (fun z => nomatch (show b ∈ ([] : List Addr) from z)) (fun z => nomatch z)
        · exact absurd z nb
        · obtain ⟨e1, _⟩ := hok b _ z
          obtain ⟨e2, _⟩ := hok' b _ (un.frzs b o2 _ z)
          rw [e] at e1; cases e1
          exact e2
      have grown : ∀ b, b ∈ cs.map (·.2) → ∃ more : Array Value, s'.heap.get? b = some { cls := .none, data := .fields more } := fun b hb => by
        obtain ⟨more, z⟩ := un.tbls b #[] (hH b hb)
        exact ⟨_, hok' b _ z⟩
      refine ⟨by rw [eu], ⟨fun b ob e => ?_, fun b ob e => ?_⟩, os, bare⟩
      · by_cases hb : b ∈ cs.map (·.2)
        · obtain ⟨more, hm⟩ := grown b hb
          obtain ⟨p, hp, ep⟩ := List.mem_map.mp hb
          subst ep
          rw [hT p hp] at e
          cases e
          exact .inr (.inl ⟨((C p hp).tab (hT p hp)).isCodeTable, rfl, #[], more, rfl, by rw [Array.empty_append]; exact hm⟩)
        · exact .inl (kept b ob hb e)
      · by_cases hb : b ∈ cs.map (·.2)
        · obtain ⟨more, hm⟩ := grown b hb
          exact ⟨_, hm⟩
        · exact ⟨ob, kept b ob hb e⟩
theorem law_callG {vs : List Value} {ns : List Int} (KX : K.In sh.heap) (hns : sh.heap.Ns mainGlobals mg) (hb : sh.heap.Ns builtinsNs mb) (hbb : ∀ x : Str, x ≠ "__name__" → mb x = bootBuiltins x) (hlim : sh.heap.NoLimit) (hg : sh.gens = #[])
    (hT : ∀ p ∈ cs, sh.heap.get? p.2 = some { cls := .none, data := .fields #[] }) (nT : ∀ p ∈ cs, K.lookup p.2 = none) (C : ∀ p ∈ cs, PySem.W.CodeHd sh.heap p.1 p.2)
    (hbm : ∃ (bm : Addr) (ob : Obj), mg "__builtins__" = some (.ref bm) ∧ bm ≠ builtinsNs ∧ sh.heap.get? bm = some ob ∧ ob.cls = .type "module" ∧ ob.dict = some builtinsNs ∧ ob.data = .plain)
    (ha : sh.heap.get? a = some { cls := .type "list", data := .seq vs.toArray }) (hi : IntsAre vs ns) (hl : ns.length ≤ sizeLine) (hr : Room k callerA)
    (F : ∀ base : Heap, K.In base → base.Ns mainGlobals mg → (∀ p ∈ cs, TabB base mg p.1 p.2) → FnG P w K mg base k fa fd [x] sp) (hbind : ∀ (s : Shared) (u : Value), BindsTo s fd ⟨[u], []⟩ [(x, u)])
    (hsp : ∀ H : Hp, (∀ b, b ∈ cs.map (·.2) → H b = some (.tbl #[])) → OnlyT (cs.map (·.2)) H → SqL K H a (ns.map V.int) → sp [.ref a] H (fun v _ => v = .bl true) fun _ _ _ => False) :
    codeAny (model P w) callerA (.call (.ref fa) ⟨[.ref a], []⟩) (fun r s' => r = .ok (.ret (.bool true)) ∧ OldK sh.heap s'.heap ∧ s'.os = sh.os ∧ AllBare s'.gens) sh := by
  have rv := vals_ints hi
  have isT : ∀ b, b ∈ cs.map (·.2) → sh.heap.get? b = some { cls := .none, data := .fields #[] } := fun b hb => by
    obtain ⟨p, hp, e⟩ := List.mem_map.mp hb
    rw [← e]; exact hT p hp
  have aT : a ∉ cs.map (·.2) := fun z => by
    have q := isT a z
    rw [ha] at q
    have z' : Data.seq vs.toArray _ = Data.fields #[] := congrArg Obj.data (Option.some.inj q)
    cases z'
  have key := fun (H : Hp) (hH : ∀ b, b ∈ cs.map (·.2) → H b = some (.tbl #[])) (hO : OnlyT (cs.map (·.2)) H) (hS : SqL K H a (ns.map V.int)) => callG_at (H := H) KX hns hb hbb hlim hg hT nT C hbm ha hr F hbind hH hO (hsp := hsp H hH hO hS)
  obtain ⟨tb, htb⟩ : ∃ u : HO, u = .tbl #[] := ⟨_, rfl⟩
  cases hk : K.lookup a with
  | some o =>
    have e := KX a o hk
    rw [ha] at e
    cases e
    have at_t : ∀ b, b ∈ cs.map (·.2) → (fun b : Addr => if b ∈ cs.map (·.2) then some tb else none) b = some tb := fun b h => if_pos h
    have off : ∀ b, b ∉ cs.map (·.2) → (fun b : Addr => if b ∈ cs.map (·.2) then some tb else none) b = none := fun b h => if_neg h
    refine key (fun b => if b ∈ cs.map (·.2) then some tb else none) (fun b h => (at_t b h).trans (by rw [htb])) (fun b => ?_) (.inr ⟨_, vs.toArray, _, hk, rfl, rfl, rfl, by rw [List.size_toArray, hi.length]; exact hl, by simpa using rv⟩) (fun b u z => ?_) (fun b z => ?_) (fun z => absurd (off a aT) z)
    · by_cases h : b ∈ cs.map (·.2)
      · exact .inr (.inl h)
      · exact .inl (off b h)
    · by_cases h : b ∈ cs.map (·.2)
      · rw [at_t b h] at z
        cases z
        subst htb
        exact isT b h
      · rw [off b h] at z; cases z
    · exact .inr (Classical.byContradiction fun h => z (off b h))
  | none =>
    obtain ⟨u0, hu0⟩ : ∃ u : HO, u = .frz { cls := .type "list", data := .seq vs.toArray } (.lst (ns.map V.int)) := ⟨_, rfl⟩
    have at_a : (fun b : Addr => if b = a then some u0 else if b ∈ cs.map (·.2) then some tb else none) a = some u0 := if_pos rfl
    have at_t : ∀ b, b ∈ cs.map (·.2) → (fun b : Addr => if b = a then some u0 else if b ∈ cs.map (·.2) then some tb else none) b = some tb := fun b h => (if_neg fun z => aT (by rw [← z]; exact h)).trans (if_pos h)
    have off : ∀ b, b ≠ a → b ∉ cs.map (·.2) → (fun b : Addr => if b = a then some u0 else if b ∈ cs.map (·.2) then some tb else none) b = none := fun b h h2 => (if_neg h).trans (if_neg h2)
    refine key (fun b => if b = a then some u0 else if b ∈ cs.map (·.2) then some tb else none) (fun b h => (at_t b h).trans (by rw [htb])) (fun b => ?_) (.inl (.inr ⟨{ cls := .type "list", data := .seq vs.toArray }, by rw [← hu0]; exact at_a⟩)) (fun b u z => ?_) (fun b z => ?_) fun _ => hk
    · by_cases h : b = a
      · exact .inr (.inr ⟨_, _, by rw [h, at_a, hu0]⟩)
      · by_cases h2 : b ∈ cs.map (·.2)
        · exact .inr (.inl h2)
        · exact .inl (off b h h2)
    · by_cases h : b = a
      · subst h
        rw [at_a] at z
        cases z
        subst hu0
        exact ⟨ha, by rw [List.length_map]; exact hl, vs, _, rv, ha⟩
      · by_cases h2 : b ∈ cs.map (·.2)
        · rw [at_t b h2] at z
          cases z
          subst htb
          exact isT b h2
        · rw [off b h h2] at z; cases z
    · exact Classical.byContradiction fun h => z (off b (fun y => h (.inl y)) fun y => h (.inr y))
end
/-- a law over a head by facts -/
theorem walk_ofG {l : PySem.W.OpenLaw} {n k : Nat} {q : Program} {loose : List Str} {XP : (Str → Option Value) → Heap → Prop} {YP : World → Heap → Prop} {d : DefRec} {x : Str}
    (hn : l.most = some n) (hn2 : n ≤ sizeLine) (hdf : d.params.defaults = []) (hr : Room k callerA)
    (F : ∀ (w : World) (mg : Str → Option Value) (fa : Addr) (h : Heap), YP w h → h.Ns mainGlobals mg → mg d.name = some (.ref fa) →
      ∃ (K : PySem.W.Frag) (cs : List (Addr × Addr)) (fd : FuncData) (sp : Sp), K.In h ∧ (∀ p ∈ cs, h.get? p.2 = some { cls := .none, data := .fields #[] }) ∧ (∀ p ∈ cs, K.lookup p.2 = none) ∧ (∀ p ∈ cs, PySem.W.CodeHd h p.1 p.2) ∧ (∀ (s : Shared) (u : Value), BindsTo s fd ⟨[u], []⟩ [(x, u)]) ∧
        (∀ (H : Hp) (a : Addr) (ns : List Int), ns.length ≤ n → (∀ b, b ∈ cs.map (·.2) → H b = some (.tbl #[])) → OnlyT (cs.map (·.2)) H → SqL K H a (ns.map V.int) → sp [.ref a] H (fun v _ => v = .bl true) fun _ _ _ => False) ∧
        ∀ base : Heap, K.In base → base.Ns mainGlobals mg → (∀ p ∈ cs, TabB base mg p.1 p.2) → FnG l.prog w K mg base k fa fd [x] sp) :
    PySem.W.WalkO q loose XP YP l.row.toRowW d [] (fun f vs => PySem.call f vs) := by
  refine Att.attach_call hn hdf fun w s₀ s₁ mg mb fa o pm cd doc a vs ns G Y ho hd hcd hmg hobj hints hlen hg => ?_
  obtain ⟨K, cs, fd, sp, KX, hT, nT, C, hb, hsp, hF⟩ := F w mg fa _ Y G.T.g hmg
  exact law_callG KX G.T.g G.T.b G.T.builtins G.T.nolimit hg hT nT C G.T.bmain hobj hints (Nat.le_trans hlen hn2) hr hF hb fun H hH hO hS => hsp H a ns hlen hH hO hS
end Td
namespace Td
open PySem PySem.Spec PyProof.Rows L2 LamX
def rScr : Rp (List Int) where
  rel := fun K M H v xs B => B = [] ∧ ∃ p, v = .ref p ∧ ((∃ o, H p = some (.frz o (.lst (xs.map V.int)))) ∨ ∀ H', SqL K H' p (xs.map V.int))
  keep := by
    rintro K M H H' v a B ⟨eB, p, ev, h⟩ k
    refine ⟨eB, p, ev, h.imp (fun ⟨o, e⟩ => ⟨o, k p _ e (.inr (.inr rfl))⟩) id⟩
  grow := fun h _ => h
  trk := by
    rintro K M H v a B ⟨eB, _⟩ x hx
    rw [eB] at hx; cases hx
theorem cp_scr : rScr.Cp := fun h => h.1
theorem scr_seq {K : PySem.W.Frag} {M : List Addr} {H : Hp} {v : V} {xs : List Int} {B : List Addr} (h : rScr.rel K M H v xs B) : ∃ p, v = .ref p ∧ SqL K H p (xs.map V.int) := by
  obtain ⟨_, p, ev, h⟩ := h
  exact ⟨p, ev, h.elim (fun ⟨o, e⟩ => .inl (.inr ⟨o, e⟩)) fun h => h H⟩
theorem scr_of {K : PySem.W.Frag} {H : Hp} {a : Addr} {xs : List Int} {ts : List Addr} (hH : ∀ b, b ∈ ts → H b = some (.tbl #[])) (hO : OnlyT ts H) (h : SqL K H a (xs.map V.int)) (M : List Addr) : rScr.rel K M H (.ref a) xs [] := by
  refine ⟨rfl, a, rfl, ?_⟩
  rcases h with (h | h) | h
  · rcases hO a with z | z | ⟨o, ys, z⟩
    · rw [h] at z; cases z
    · rw [hH a z] at h; cases h
    · rw [h] at z; cases z
  · exact .inl h
  · exact .inr fun _ => .inr h
theorem atI_map {xs : List Int} {i a : Int} (h : atI xs i = some a) : atI (xs.map V.int) i = some (.int a) := by
  unfold atI at *
  rw [List.length_map]
  cases e : ixN xs.length i with
  | none => rw [e] at h; cases h
  | some j =>
    rw [e] at h
    show (xs.map V.int)[j]? = _
    have h' : xs[j]? = some a := h
    rw [List.getElem?_map, h']; rfl
section
variable {X : Cx} {S : Type} {F : FC X.K S} {U : Type} {a b e : Expr} {ta tb te : TE} {G G1 G2 G' : S → List Slot} {m1 m : SM S U} {mi : SM S Int} {argU arg : U → Arg} {xs : U → List Int} {pos p0 : Pos}
theorem ex_ixScr (h1 : EO X F a ta G G1 argU m1) (h2 : EX X F b tb G1 G2 rInt mi) (hx : ∀ a s, Rdd (G2 s) (argU a) rScr (xs a)) (hs : PlainIx b := by exact fun _ _ => rfl) :
    EX X F (.Subscript a b pos) (tOp (rIxL X.K) ta tb) G G2 rInt (bnd m1 fun a => bnd mi fun i => ixM (xs a) i) :=
  ⟨pe_ix ix_list h1.pe h2.pe hs, go_op2 h1.go (eo_t h2).go (fun _ _ => stl_ixM _ _) fun a i s T t ts x y σ H Q A1 A2 at1 av q => by
    obtain ⟨v, B, e1, k1⟩ := rddM (j := 0) at1 av rfl (hx a s)
    obtain ⟨w, B', e2, ew, _⟩ := rddM (j := 1) at1 av rfl .t
    cases e1; cases e2
    obtain ⟨p, ev, hs⟩ := scr_seq k1
    obtain ⟨z, ez, _, q⟩ := wp_ixM q
    exact ⟨p, _, i, .int z, ev, ew, hs, atI_map ez, q _ H (at1.fin av ⟨rfl, rfl⟩)⟩⟩
theorem ex_lenScr (h : EO X F e te G G' arg m) (hx : ∀ a s, Rdd (G' s) (arg a) rScr (xs a)) (hg : Gl X "len") (hm : X.mg "len" = none) (hs : PySem.W.isStarred e = false := by rfl) :
    EX X F (.Call (.Name "len" p0) [e] [] pos) (tCB (fun xs H Q => ∃ p ys, xs = [.ref p] ∧ (SqL X.K H p ys ∨ SqT X.K H p ys) ∧ Q (.int ys.length) H) (tCons te tNil)) G G' rInt (bnd m fun a => ret ((xs a).length : Int)) :=
  ex_callB1 call_len_seq hg hm PySem.boot_len h (go_call1 h.go (fun _ => stl_ret _) fun a s T t ts v σ H Q A1 A2 at1 av q => by
    obtain ⟨v', B, e1, k1⟩ := rddM (j := 0) at1 av rfl (hx a s)
    cases e1
    obtain ⟨p, ev, hs⟩ := scr_seq k1
    exact ⟨p, _, by rw [ev], .inl hs, q.2 _ H (at1.fin av ⟨by rw [List.length_map], rfl⟩)⟩) hs
end
/-- the law's promise from what the head gives -/
theorem law_sp {K : PySem.W.Frag} {H : Hp} {a : Addr} {ns : List Int} {f : List Int → SM Unit Bool} (hH : ∀ b, b ∈ tabL K → H b = some (.tbl #[])) (hO : OnlyT (tabL K) H) (h : SqL K H a (ns.map V.int)) (hf : ∃ s, f ns () = .ok true s) : SpP K 1 (fun u : List Int => [.is rScr u]) rBool f [.ref a] H (fun v _ => v = .bl true) fun _ _ _ => False := by
  have tb : Tb K H := fun nm hn P hP => ⟨#[], hH P (List.mem_filterMap.mpr ⟨nm, hn, hP⟩), trivial, fun pos cv hc => by cases hc⟩
  refine ⟨ns, (), [], tabL K, rfl, ⟨[], [] ++ [], .nil, .cons (B := []) ⟨_, rfl, scr_of hH hO h _⟩ .nil, good_c (fun p hp => tb.weak hp) (fun p hp => hp) tb⟩, ?_⟩
  obtain ⟨s, e⟩ := hf
  rw [e]
  intro v H' hx
  obtain ⟨A1, A2, hx⟩ := hx
  obtain ⟨B, A', eA, ⟨v', ev, hv, _⟩, _⟩ := AtS.cons_inv hx.tmp
  cases ev
  exact hv
end Td
set_option Elab.async false
set_option linter.all false
set_option maxRecDepth 100000
set_option maxHeartbeats 4000000
namespace L2
open PySem PySem.Spec PyProof.Rows HT
namespace HT
section
variable {prog : Program} {w : World} {A : Around} {E : Value → Shared → Prop} {s : Shared}
end
end HT
section
variable {X : Cx}
end
end L2
namespace Td
open PySem PySem.Spec PyProof.Rows L2
section
variable {X : Cx} {S : Type} {F : FC X.K S} {U W Z N L R : Type} {r r1 : Rp U} {r2 : Rp W} {r3 : Rp Z} {a b e : Expr} {es : List Expr} {ta tb te : TE} {tr : TA} {G G1 G2 G3 G' : S → List Slot} {m1 : SM S U} {m2 : SM S W} {ml : SM S (List Z)} {pos p0 p2 : Pos} {argU : U → Arg} {argW : W → Arg}
/-- t[lo:hi] of a tuple -/
theorem ex_sliceT {lo hi : Option Expr} {tl th : TO} {mlo mhi : SM S (Option Int)} {xs : U → List Z} (h1 : EO X F a ta G G1 argU m1) (hl : EPa X F lo tl G1 G2 mlo) (hh : EPa X F hi th G2 G3 mhi) (c : r3.Cp) (hx : ∀ a s, Rdd (G3 s) (argU a) (rTupL r3) (xs a)) :
    EX X F (.Subscript a (.Slice lo hi none p2) pos) (tSl (rSlA X.K) ta tl th) G G3 (rTupL r3) (bnd m1 fun a => bnd mlo fun l => bnd mhi fun u => ret (cutL (xs a) l u)) :=
  ⟨pe_slice sl_tupA h1.pe hl.po hh.po, fun T t σ s H Q h0 q => by
    refine h1.go T t σ s H _ h0 (wp_mono (wp_bnd q) (fun a s1 q1 ts x H1 at1 av => ?_) fun _ _ z => z)
    refine hl.go _ _ σ s1 H1 _ at1 (wp_mono (wp_bnd q1) (fun lo' s2 q2 H2 at2 => ?_) fun _ _ z => z)
    refine hh.go _ _ σ s2 H2 _ at2 (wp_mono (wp_bnd q2) (fun u s3 q3 H3 at3 => ?_) fun _ _ z => z)
    obtain ⟨A1, A2, at3⟩ := at3
    obtain ⟨v, B, e1, p, vs, ev, hp, hA⟩ := rddM (j := 0) at3 av rfl (hx a s3)
    cases e1
    have eA := cp_all c hA
    subst eA
    refine ⟨p, vs, ev, hp, fun hw => ?_, fun _ l hl => ?_⟩
    · have ec : cutL (xs a) lo' u = xs a := by
        unfold cutL
        rw [← hA.length, hw.1, hw.2, List.drop_zero, Nat.sub_zero, hA.length, List.take_length]
      exact q3 _ H3 (at3.fin av ⟨p, vs, rfl, hp, by rw [ec]; exact hA⟩)
    · obtain ⟨A', hA', sub⟩ := all3_cut hA lo' u
      have eA' := cp_all c hA'
      subst eA'
      exact q3 _ _ (at3.newT av hA' hl)⟩
/-- *t in a list's display, t a tuple -/
theorem el_starT {p : Pos} {xs : W → List Z} (h1 : EO X F e te G G1 argW m2) (c : r3.Cp) (hx : ∀ a s, Rdd (G1 s) (argW a) (rTupL r3) (xs a)) (h2 : EL X F es tr G1 G2 r3 ml) (hs : starEach (.Starred e p :: es) X.env = (true, eval e X.env) :: starEach es X.env := by rfl) :
    EL X F (.Starred e p :: es) (StX.tStar X.K te tr) G G2 r3 (bnd m2 fun a => bnd ml fun l => ret (xs a ++ l)) :=
  ⟨StX.pa_star h1.pe h2.pa hs, fun T t σ s H Q h q => by
    refine h1.go T t σ s H _ h (wp_mono (wp_bnd q) (fun a s1 q1 ts v H1 at1 av => ?_) fun _ _ z => z)
    obtain ⟨A1, A2, at1⟩ := at1
    obtain ⟨v', B, e1, p, vs, ev, hp, hA⟩ := rddM (j := 0) at1 av rfl (hx a s1)
    cases e1
    have eA := cp_all c hA
    subst eA
    refine ⟨p, vs, ev, .inl hp, ?_⟩
    have at2 := at1.pushAll hA rfl
    have at3 : At F (pend r3 (xs a) ++ T) (vs.reverse ++ t) (G1 s1) σ H1 := At.dropM (by rw [List.length_reverse, pend_len, hA.length]) (by simp [(argV_len av).2]) ⟨A1, A2, at2⟩
    refine h2.go _ _ σ s1 H1 _ at3 (wp_mono (wp_bnd q1) (fun l s2 q2 ws H2 at4 hl => ?_) fun _ _ z => z)
    exact q2 (vs ++ ws) H2 (by simpa [pend] using at4) (by simp [hl, hA.length])⟩
end
end Td
set_option Elab.async false
set_option linter.all false
set_option maxRecDepth 100000
set_option maxHeartbeats 4000000
namespace L2
open PySem PySem.Spec PyProof.Rows
/-- the values at the places is -/
def permL {α : Type} (is : List Nat) (xs : List α) : List α := is.filterMap (xs[·]?)
theorem permL_cons {α : Type} (i : Nat) (is : List Nat) (xs : List α) : permL (i :: is) xs = (match xs[i]? with | some x => x :: permL is xs | none => permL is xs) := by
  unfold permL
  rw [List.filterMap_cons]
  cases xs[i]? <;> rfl
theorem vals_get : ∀ {vs : List V} {us : List Value}, Vals vs us → ∀ i : Nat, (∃ v u, vs[i]? = some v ∧ us[i]? = some u ∧ RelV v u) ∨ (vs[i]? = none ∧ us[i]? = none)
  | _, _, .nil, i => .inr ⟨rfl, rfl⟩
  | _, _, .cons r t, 0 => .inl ⟨_, _, rfl, rfl, r⟩
  | _, _, .cons r t, i + 1 => by simpa using vals_get t i
theorem vals_perm {vs : List V} {us : List Value} (r : Vals vs us) : ∀ is : List Nat, Vals (permL is vs) (permL is us)
  | [] => .nil
  | i :: is => by
    rw [permL_cons, permL_cons]
    rcases vals_get r i with ⟨v, u, e1, e2, rv⟩ | ⟨e1, e2⟩
    · rw [e1, e2]; exact .cons rv (vals_perm r is)
    · rw [e1, e2]; exact vals_perm r is
section
variable {K : PySem.W.Frag} {x qual : Str} {params : Arguments} {body : List Stmt} {scope : Scope} {kws : List (Str × V)} {f : Addr} {fd : FuncData} {ps : List Str}
/-- no defaults: n values, then keywords ks, bound at the places is -/
theorem FunD.kbP (F : FunD K x qual params body scope [] kws f fd) (n : Nat) (ks : List Str) (is : List Nat)
    (h : ∀ (kV doc pm : Value) (an : Option Addr) (cdv ct : Value) (us ws : List Value), us.length = n → ws.length = ks.length → bindArgs (PySem.W.fnOf x qual params body scope .none kV doc pm an cdv ct) ⟨us, ks.zip ws⟩ = pure (ps.zip (permL is (us ++ ws)))) :
    KBn K fd ps n ks (fun us ws => permL is (us ++ ws)) (fun vs zs => permL is (vs ++ zs)) := by
  obtain ⟨oc, od, dV, kV, doc, pm, an, cdv, ct, osl, rfl, lk, hcd, hD, hK⟩ := F.ex
  rcases hD with ⟨_, rfl⟩ | ⟨e, _⟩
  · exact ⟨fun s us ws _ l1 l2 => .of_eq (h kV doc pm an cdv ct us ws l1 l2), fun r1 r2 => vals_perm (r1.append r2) is⟩
  · exact absurd rfl e
end
section
variable {X : Cx} {CX : CXT} {k n : Nat} {f : Addr} {fd : FuncData} {ps ks : List Str} {sp : Sp} {E : XK} {x : Str} {p pos : Pos} {kws : List Keyword} {tk : TA} {g : List Value → List Value → List Value} {gV : List V → List V → List V}
/-- f(k = v, ..) -/
theorem pe_callN0 (F : FnOk X.prog X.w X.K X.mg X.base CX k f fd ps sp) (hr : Room k X.A) (hg : Gl X x) (hm : X.mg x = some (.ref f)) (hk : PySem.W.keepIn X.K (.ref f) = true) (hb : KBn X.K fd ps 0 ks g gV) (hx : Passes CX X E)
    (hkw : PK X kws tk) (hall : (backToKw pos (keywordEach kws X.env)).all (·.1.isSome) = true := by rfl) (hks : (backToKw pos (keywordEach kws X.env)).filterMap (·.1) = ks := by rfl)
    (hdb : (x == ("__debug__" : Str)) = false := by decide)
    (hpl : ((backTo pos (starEach [] X.env)).any (·.1) || (backToKw pos (keywordEach kws X.env)).any (·.1.isNone)) = false := by rfl) :
    PE X (.Call (.Name x p) [] kws pos) (tCallN 0 ks.length sp gV E tNil tk) := by
  refine ⟨fun pins s σ H Q I h => ?_⟩
  refine wpAny_Call_Name_kw (ld_glob I hg hm ?_ hdb)
  refine PySem.W.callWith_KW0 (h₀ := X.base) I.ok.mod.kin hk hall ?_ hpl
  refine thn (hkw.run pos pins s σ H _ I h) fun ws s2 ⟨zs, H2, I2, rz, l1, l2, q2⟩ => ⟨I2.kIn, ?_⟩
  rw [hks]
  exact run_fnN (us := []) (vs := []) F hr hb hx I2 .nil rz rfl l2 q2
end
end L2
namespace Td
open PySem PySem.Spec PyProof.Rows L2
theorem atS_get {K : PySem.W.Frag} {M : List Addr} {H : Hp} : ∀ {G : List Slot} {xs : List (Option V)} {A : List Addr}, AtS K M H G xs A → A = [] → ∀ i : Nat, (∃ g x, G[i]? = some g ∧ xs[i]? = some x ∧ g.ok K M H x []) ∨ (G[i]? = none ∧ xs[i]? = none)
  | _, _, _, .nil, _, i => .inr ⟨rfl, rfl⟩
  | _, _, _, .cons h t, eA, 0 => by
    obtain ⟨e1, e2⟩ := List.append_eq_nil_iff.mp eA
    subst e1
    exact .inl ⟨_, _, rfl, rfl, h⟩
  | _, _, _, .cons h t, eA, i + 1 => by
    obtain ⟨e1, e2⟩ := List.append_eq_nil_iff.mp eA
    simpa using atS_get t e2 i
theorem atS_perm {K : PySem.W.Frag} {M : List Addr} {H : Hp} {G : List Slot} {xs : List (Option V)} (h : AtS K M H G xs []) : ∀ is : List Nat, AtS K M H (is.filterMap (G[·]?)) (permL is xs) []
  | [] => .nil
  | i :: is => by
    rw [permL_cons, List.filterMap_cons]
    rcases atS_get h rfl i with ⟨g, x, e1, e2, k⟩ | ⟨e1, e2⟩
    · rw [e1, e2]; exact .cons (B := []) k (atS_perm h is)
    · rw [e1, e2]; exact atS_perm h is
theorem permL_map {α β : Type} (f : α → β) (xs : List α) : ∀ is : List Nat, permL is (xs.map f) = (permL is xs).map f
  | [] => rfl
  | i :: is => by
    rw [permL_cons, permL_cons, List.getElem?_map, permL_map f xs is]
    cases xs[i]? <;> rfl
/-- keywords' values -/
structure EK (X : Cx) {S : Type} (F : FC X.K S) {U : Type} (kws : List Keyword) (ta : TA) (G G' : S → List Slot) (L : U → List Arg) (m : SM S U) : Prop where
  pk : PK X kws ta
  go : GA F ta G G' L m
section
variable {X : Cx} {S : Type} {F : FC X.K S} {U W : Type} {e : Expr} {kws : List Keyword} {te : TE} {tr : TA} {G G1 G2 : S → List Slot} {m1 : SM S U} {m2 : SM S W} {arg : U → Arg} {L : W → List Arg} {nm : Option Str} {kp : Pos}
theorem ek_nil : EK X F [] tNil G G (fun _ : Unit => []) (ret ()) := ⟨pk_nil, ga_nil⟩
theorem ek_cons (h1 : EO X F e te G G1 arg m1) (h2 : EK X F kws tr G1 G2 L m2) :
    EK X F (⟨nm, e, kp⟩ :: kws) (tCons te tr) G G2 (fun p : U × W => arg p.1 :: L p.2) (bnd m1 fun a => bnd m2 fun b => ret (a, b)) :=
  ⟨pk_cons h1.pe h2.pk, fun T t σ s H Q h q => by
    refine h1.go T t σ s H _ h (wp_mono (wp_bnd q) (fun a s1 q1 ts v H1 at1 av1 => ?_) fun _ _ z => z)
    refine h2.go _ _ σ s1 H1 _ at1 (wp_mono (wp_bnd q1) (fun b s2 q2 us ws H2 at2 av2 => ?_) fun _ _ z => z)
    refine q2 (ts ++ us) (v :: ws) H2 ?_ (argV_cons av1 av2)
    rw [tmps_cons]
    simpa using at2⟩
end
section
variable {K : PySem.W.Frag} {S : Type} {F : FC K S} {σ : L2.St}
theorem argV_app {σ : L2.St} : ∀ {L1 L2 : List Arg} {ts us vs ws : List V}, ArgV σ L1 ts vs → ArgV σ L2 us ws → ArgV σ (L1 ++ L2) (ts ++ us) (vs ++ ws)
  | _, _, _, _, _, _, .nil, h => h
  | _, _, _, _, _, _, .t h, h2 => .t (argV_app h h2)
  | _, _, _, _, _, _, .v e h, h2 => .v e (argV_app h h2)
  | _, _, _, _, _, _, .u h, h2 => .u (argV_app h h2)
theorem tmps_app : ∀ L1 L2 : List Arg, tmps (L1 ++ L2) = tmps L1 ++ tmps L2
  | [], _ => rfl
  | .t g :: L1, L2 => by show g :: tmps (L1 ++ L2) = _; rw [tmps_app]; rfl
  | .v i :: L1, L2 => tmps_app L1 L2
  | .u i :: L1, L2 => tmps_app L1 L2
def tCallNS (n m : Nat) (sp : Sp) (gV : List V → List V → List V) (E : L2.St → XK) (t tk : TA) : TE := fun σ H Q => t σ H fun vs H1 => tk σ H1 fun zs H2 => vs.length = n ∧ zs.length = m ∧ sp (gV vs zs) H2 Q (E σ)
/-- positional values, then keywords' values -/
theorem go_callK {U W A B : Type} {n m0 nn : Nat} {is : List Nat} {Ps Pe : U → List Slot} {r : Rp W} {f : U → SM Unit W} {fa : A → B → SM Unit W} {E : L2.St → XK} {ta tk : TA} {G G1 G' : S → List Slot} {LA : A → List Arg} {LB : B → List Arg} {mA : SM S A} {mB : SM S B} (u : A → B → U) (hf : ∀ a b, fa a b = f (u a b)) (h : GA F ta G G1 LA mA) (hk : GA F tk G1 G' LB mB)
    (hn : ∀ a, (LA a).length = n) (hm : ∀ b, (LB b).length = m0) (hl : ∀ u, (Ps u).length = nn) (hp : ∀ u, (is.filterMap ((Pe u)[·]?)) = Ps u)
    (he : (r.Clo ∧ ∀ a b s, Ent (G' s) (LA a ++ LB b) (Pe (u a b))) ∨ ∀ a b s, EntS (G' s) (LA a ++ LB b) (Pe (u a b))) (hW : ∀ c d σ H, F.W c d σ H → E σ c d H) (hw : ∀ s, Weak (G' s) (F.io s)) :
    GE F (tCallNS n m0 (SpP K nn Ps r f) (fun vs zs => permL is (vs ++ zs)) E ta tk) G G' r (bnd mA fun a => bnd mB fun b => lft (fa a b)) := by
  intro T t σ s H Q h0 q
  have ef : fa = fun a b => f (u a b) := by funext a b; exact hf a b
  subst ef
  refine h T t σ s H _ h0 (wp_mono (wp_bnd q) (fun a s1 q1 ts vs H1 at1 av => ?_) fun _ _ z => z)
  refine hk _ _ σ s1 H1 _ at1 (wp_mono (wp_bnd q1) (fun b s2 q2 us zs H2 at2 av2 => ?_) fun _ _ z => z)
  refine ⟨by rw [(argV_len av).1, hn], by rw [(argV_len av2).1, hm], ?_⟩
  have q3 := wp_lft q2
  have av3 := argV_app av av2
  have at3' : At F ((tmps (LA a ++ LB b)).reverse ++ T) ((ts ++ us).reverse ++ t) (G' s2) σ H2 := by
    rw [tmps_app]
    simpa using at2
  obtain ⟨A1, A2, at3⟩ := at3'
  have run : ∀ (M0 : List Addr), (∀ p, p ∈ M0 → ∃ o, H2 p = some o ∧ isTup o = false) → (∀ p, p ∈ tabL K → p ∈ M0) → AtS K M0 H2 (Pe (u a b)) ((vs ++ zs).map some) [] → (r.Clo ∨ ∀ p, p ∈ A1 ++ A2 ++ F.M0 → p ∈ M0) → SpP K nn Ps r f (permL is (vs ++ zs)) H2 Q (E σ) := by
    intro M0 hM0 htm hat hor
    have hat1 := atS_perm hat is
    rw [hp, permL_map] at hat1
    have lv : (permL is (vs ++ zs)).length = nn := by
      have := hat1.length
      rw [List.length_map, hl] at this
      exact this
    have hat2 : AtS K ([] ++ [] ++ (FC.c (K := K) (S := Unit) H2 [] M0).M0) H2 (Ps (u a b)) ((permL is (vs ++ zs)).map some) [] := hat1
    refine ⟨u a b, (), [], M0, lv, ⟨[], [], .nil, hat2, good_c hM0 htm at3.good.tb⟩, wp_mono q3 (fun b _ q4 v H' hx => ?_) (fun e _ q4 d H' hx => ?_)⟩
    · have z := At.back at3 hx hor
      exact q4 v H' (At.dropU (by rw [List.length_reverse, List.length_reverse, (argV_len av3).2]) z)
    · have z := At.back at3 hx (.inl clo_xd)
      have z2 := (At.dropU (by rw [List.length_reverse, List.length_reverse, (argV_len av3).2]) z).weak (hw s2)
      refine hW _ _ σ _ (q4 d H' ?_)
      exact At.dropM (T0 := [_]) (t0 := [.ref d]) (T := []) (t := []) rfl (T1 := T) (t1 := t) (by obtain ⟨B1, B2, hz⟩ := h0; have := hz.tmp.length; simpa using this) (by simpa using z2)
  rcases he with ⟨c, he⟩ | he
  · exact run (tabL K) (fun _ z => at3.good.tb.weak z) (fun _ z => z) (ent_at at3 av3 (he a b s2)) (.inl c)
  · exact run (A1 ++ A2 ++ F.M0) at3.m_trk (fun p hp => List.mem_append_right _ (at3.good.tm p hp)) (entS_at at3 av3 (he a b s2)) (.inr fun _ z => z)
end
section
variable {X : Cx} {S : Type} {F : FC X.K S} {U W A B : Type} {n nn k : Nat} {is : List Nat} {Ps Pe : U → List Slot} {r : Rp W} {f : U → SM Unit W} {E : XK} {ta tk : TA} {G G1 G' : S → List Slot} {LA : A → List Arg} {LB : B → List Arg} {mA : SM S A} {mB : SM S B} {CX : CXT} {fA : Addr} {fd : FuncData} {ps ks : List Str} {x : Str} {p pos : Pos} {e : Expr} {es : List Expr} {kws : List Keyword} {g : List Value → List Value → List Value}
/-- f(k = v, ..) -/
theorem ex_callK0 {fm : B → SM Unit W} (u : B → U) (FO : FnOk X.prog X.w X.K X.mg X.base CX k fA fd ps (SpP X.K nn Ps r f)) (hr : Room k X.A) (hg : Gl X x) (hm : X.mg x = some (.ref fA)) (hk : PySem.W.keepIn X.K (.ref fA) = true) (hb : KBn X.K fd ps 0 ks g (fun vs zs => permL is (vs ++ zs))) (hx : Passes CX X E)
    (h2 : EK X F kws tk G G' LB mB) (hn2 : ∀ b, (LB b).length = ks.length) (hl : ∀ u, (Ps u).length = nn) (hp : ∀ u, (is.filterMap ((Pe u)[·]?)) = Ps u)
    (he : (r.Clo ∧ ∀ b s, Ent (G' s) (LB b) (Pe (u b))) ∨ ∀ b s, EntS (G' s) (LB b) (Pe (u b))) (hW : ∀ c d σ H, F.W c d σ H → E c d H) (hw : ∀ s, Weak (G' s) (F.io s))
    (hf : ∀ b, fm b = f (u b) := by intros; rfl)
    (hall : (backToKw pos (keywordEach kws X.env)).all (·.1.isSome) = true := by rfl) (hks : (backToKw pos (keywordEach kws X.env)).filterMap (·.1) = ks := by rfl)
    (hpl : ((backTo pos (starEach [] X.env)).any (·.1) || (backToKw pos (keywordEach kws X.env)).any (·.1.isNone)) = false := by rfl) (hdb : (x == ("__debug__" : Str)) = false := by decide) :
    EX X F (.Call (.Name x p) [] kws pos) (tCallN 0 ks.length (SpP X.K nn Ps r f) (fun vs zs => permL is (vs ++ zs)) E tNil tk) G G' r (bnd mB fun b => lft (fm b)) :=
  ⟨pe_callN0 FO hr hg hm hk hb hx h2.pk hall hks hdb hpl, go_callK (E := fun _ => E) (U := U) (LA := fun _ : Unit => []) (mA := ret ()) (fun _ b => u b) (fun _ b => hf b) ga_nil h2.go (fun _ => rfl) hn2 hl hp (he.imp (fun z => ⟨z.1, fun _ b s => z.2 b s⟩) fun z _ b s => z b s) hW hw⟩
end
end Td
set_option Elab.async false
set_option linter.all false
set_option maxRecDepth 100000
set_option maxHeartbeats 4000000
namespace Td
open PySem PySem.Spec PyProof.Rows L2 SlX
section
variable {K : PySem.W.Frag} {S : Type} {F : FC K S} {T : List Slot} {t : List V} {G : S → List Slot} {σ : L2.St} {H : Hp}
/-- a promise run at values in hand; what is raised goes on -/
theorem run_spE {U W : Type} {n : Nat} {Ps : U → List Slot} {r : Rp W} {f : U → SM Unit W} {E : XK} {L : List Arg} {ts vs : List V} {u : U} {A1 A2 : List Addr} {Q : VK} {s : S} (at1 : AtP F ((tmps L).reverse ++ T) (ts.reverse ++ t) (G s) σ H A1 A2) (av : ArgV σ L ts vs) (hn : L.length = n) (ht : t.length = T.length)
    (he : (r.Clo ∧ Ent (G s) L (Ps u)) ∨ EntS (G s) L (Ps u)) (hW : ∀ c d H, F.W c d σ H → E c d H) (hw : Weak (G s) (F.io s))
    (q : (f u ()).wp (fun b _ => ∀ v H', At F (.is r b :: T) (v :: t) (G s) σ H' → Q v H') (fun e _ => XP F σ e s)) : SpP K n Ps r f vs H Q E := by
  have run : ∀ (M0 : List Addr), (∀ p, p ∈ M0 → ∃ o, H p = some o ∧ isTup o = false) → (∀ p, p ∈ tabL K → p ∈ M0) → AtS K M0 H (Ps u) (vs.map some) [] → (r.Clo ∨ ∀ p, p ∈ A1 ++ A2 ++ F.M0 → p ∈ M0) → SpP K n Ps r f vs H Q E := by
    intro M0 hM0 htm hat hor
    have hat2 : AtS K ([] ++ [] ++ (FC.c (K := K) (S := Unit) H [] M0).M0) H (Ps u) (vs.map some) [] := hat
    refine ⟨u, (), [], M0, by rw [(argV_len av).1, hn], ⟨[], [], .nil, hat2, good_c hM0 htm at1.good.tb⟩, wp_mono q (fun b _ q3 v H' hx => ?_) (fun e _ q3 d H' hx => ?_)⟩
    · have z := At.back at1 hx hor
      exact q3 v H' (At.dropU (by simp [(argV_len av).2]) z)
    · have z := At.back at1 hx (.inl clo_xd)
      have z2 := (At.dropU (by simp [(argV_len av).2]) z).weak hw
      refine hW _ _ _ (q3 d H' ?_)
      exact At.dropM (T0 := [_]) (t0 := [.ref d]) (T := []) (t := []) rfl (T1 := T) (t1 := t) (by rw [ht]) (by simpa using z2)
  rcases he with ⟨c, he⟩ | he
  · exact run (tabL K) (fun _ z => at1.good.tb.weak z) (fun _ z => z) (ent_at at1 av he) (.inl c)
  · exact run (A1 ++ A2 ++ F.M0) at1.m_trk (fun p hp => List.mem_append_right _ (at1.good.tm p hp)) (entS_at at1 av he) (.inr fun _ z => z)
end
section
variable {X : Cx} {S : Type} {F : FC X.K S} {U W A : Type} {e a b : Expr} {es : List Expr} {te ta tb : TE} {tA : TA} {G G1 G' : S → List Slot} {m m1 : SM S U} {m2 : SM S A} {arg argA : U → Arg} {argB : A → Arg} {tx txA : U → TapeV} {txB : A → TapeV} {pos p0 apos : Pos} {r : Rp W} {k n : Nat} {g : Addr} {fd : FuncData} {nm : Str} {ps : List Str} {E : XK}
theorem at_len {T : List Slot} {t : List V} {Gs : List Slot} {σ : L2.St} {H : Hp} (h : At F T t Gs σ H) : t.length = T.length := by
  obtain ⟨B1, B2, hz⟩ := h
  have := hz.tmp.length
  simpa using this
/-- tape.m(i) -/
theorem ex_methI {mi : SM S Int} {fm : U → Int → SM Unit W} {f : TapeV × Int → SM Unit W} {pl : Sem Bool} (tc : TapeCls X.K) (mt : Meth X.K (tapeC X.K) nm g) (FO : FnOk X.prog X.w X.K X.mg X.base (L2.CX X.prog X.w) k g fd ps (SpP X.K 2 (fun u : TapeV × Int => [.is (sh rTape) u.1, .is rInt u.2]) r f)) (hb : Binds X.K fd ps []) (hr : Room k X.A) (hx : Passes (L2.CX X.prog X.w) X E)
    (h : EO X F e te G G1 arg m) (h2 : EX X F b tb G1 G' rInt mi) (hxt : ∀ a s, RdS (G' s) (arg a) rTape (tx a)) (hxt1 : ∀ a s, RdS (G1 s) (arg a) rTape (tx a)) (hW : ∀ c d σ H, F.W c d σ H → E c d H) (hw : ∀ s, Weak (G' s) (F.io s)) (hf : ∀ a i, fm a i = f (tx a, i) := by intros; rfl)
    (hst : PySem.W.isStarred b = false := by rfl) (hpl : (backTo pos (starEach [] X.env)).any (·.1) = false := by rfl)
    (ht : eval (.Call (.Attribute e nm apos) [b] [] pos) X.env = (do
      let ov ← eval e X.env
      standAt apos.atName
      let (f, first) ← holding [ov] (getMethod ov nm pl)
      callWith pos f first (backTo pos (starEach [b] X.env)) (backToKw pos (keywordEach [] X.env))) := by rfl) :
    EX X F (.Call (.Attribute e nm apos) [b] [] pos) (tMethSl (tapeC X.K) (SpP X.K 2 (fun u : TapeV × Int => [.is (sh rTape) u.1, .is rInt u.2]) r f) E te (tCons tb tNil)) G G' r (bnd m fun a => bnd mi fun i => lft (fm a i)) :=
  ⟨pe_methSl h.pe tc.sc mt ((FnOk.raw FO hb .nil).imp fun vs H Q E q => by rw [List.append_nil]; exact q) hr hx (pa_cons h2.pe pa_nil (star1 hst)) (star1 hst) hpl ht, fun T t σ s H Q h0 q => by
    have hl := at_len h0
    refine h.go T t σ s H _ h0 (wp_mono (wp_bnd q) (fun a s1 q1 ts x H1 at1 av1 => ?_) fun _ _ z => z)
    have at1' := at1
    obtain ⟨A1, A2, at1⟩ := at1
    obtain ⟨v', e1, _, B, k1, _⟩ := rdS (j := 0) at1 av1 rfl (hxt1 a s1)
    cases e1
    obtain ⟨p, dx, w, ev, hs, _⟩ := tape_slt k1
    refine ⟨p, dx, _, ev, hs, ?_⟩
    refine h2.go _ _ σ s1 H1 _ at1' (wp_mono (wp_bnd q1) (fun i s2 q2 y H2 at2 => ?_) fun _ _ z => z)
    obtain ⟨A1, A2, at2⟩ := at2
    have at3 : AtP F ((tmps [arg a, .t (.is rInt i)]).reverse ++ T) ((ts ++ [y]).reverse ++ t) (G' s2) σ H2 A1 A2 := by
      rw [tmps_cons]
      simpa [tmps] using at2
    have av2 : ArgV σ [arg a, .t (.is rInt i)] (ts ++ [y]) [x, y] := argV_cons av1 (.t .nil)
    rw [hf a i] at q2
    exact run_spE at3 av2 rfl hl (.inr (.sh (hxt a s2) (.cp cp_int (.tc cp_int) .nil))) (fun c d H => hW c d σ H) (hw s2) (wp_lft q2)⟩
/-- isinstance(tape, Tape) -/
theorem ex_isTape {q0 : Pos} (tc : TapeCls X.K) (ti : SlX.SIsi X.K (tapeC X.K)) (h : EO X F e te G G' arg m) (hxt : ∀ a s, RdS (G' s) (arg a) rTape (tx a)) (hg : Gl X "isinstance") (hm : X.mg "isinstance" = none) (hg2 : Gl X "Tape") (hm2 : X.mg "Tape" = some (.ref (tapeC X.K))) (hs : PySem.W.isStarred e = false := by rfl) :
    EX X F (.Call (.Name "isinstance" p0) [e, .Name "Tape" q0] [] pos) (tCB (rIsiSl X.K (.ref (tapeC X.K))) (tCons te (tCons (tC (.ref (tapeC X.K))) tNil))) G G' rBool (bnd m fun a => ret true) :=
  ⟨pe_callB (call_isiSl (.ref (tapeC X.K))) hg hm (by decide +kernel) (pa_cons h.pe (pa_cons (pe_glob hg2 hm2 rfl) pa_nil (star1 rfl)) (star1 hs)) (he := star1 hs), fun T t σ s H Q h0 q => h.go T t σ s H _ h0 (wp_mono (wp_bnd q) (fun a s1 q1 ts v H1 at1 av => by
    have at0 := at1
    obtain ⟨A1, A2, at1⟩ := at1
    obtain ⟨v', e1, _, B, k1, _⟩ := rdS (j := 0) at1 av rfl (hxt a s1)
    cases e1
    obtain ⟨p, dx, w, ev, hs, _⟩ := tape_slt k1
    subst ev
    refine ⟨p, tapeC X.K, dx, _, .ref (tapeC X.K), true, rfl, rfl, fun w hw => hw, hs, tc.sc, ti, by unfold PySem.W.kitOne; rw [if_pos (by simp)], q1 _ H1 (at1.fin av ⟨rfl, rfl⟩)⟩) fun _ _ z => z)⟩
/-- tape == tape -/
theorem go_eqTape {f : TapeV × TapeV → SM Unit Bool} {fm : U → A → SM Unit Bool} (h : GO F ta G G1 argA m1) (h2 : GO F tb G1 G' argB m2) (x1 : ∀ a s, RdS (G' s) (argA a) rTape (txA a)) (x2 : ∀ a s, RdS (G' s) (argB a) rTape (txB a)) (hw : ∀ s, Weak (G' s) (F.io s)) (hf : ∀ a b, fm a b = f (txA a, txB b)) :
    GE F (tOp (rOwn X.K (tapeC X.K) (SpP X.K 2 (fun u : TapeV × TapeV => [.is (sh rTape) u.1, .is (sh rTape) u.2]) rBool f) (fun _ _ _ => False)) ta tb) G G' rBool (bnd m1 fun a => bnd m2 fun b => nxc (lft (fm a b))) := fun T t σ s H Q h0 q => by
  have hl := at_len h0
  refine h T t σ s H _ h0 (wp_mono (wp_bnd q) (fun a s1 q1 ts x H1 at1 av1 => ?_) fun _ _ z => z)
  refine h2 _ _ σ s1 H1 _ at1 (wp_mono (wp_bnd q1) (fun b s2 q2 us y H2 at2 av2 => ?_) fun _ _ z => z)
  have av3 : ArgV σ [argA a, argB b] (ts ++ us) [x, y] := argV_cons av1 av2
  have at3 : At F ((tmps [argA a, argB b]).reverse ++ T) ((ts ++ us).reverse ++ t) (G' s2) σ H2 := by
    rw [tmps_cons]
    simpa using at2
  obtain ⟨A1, A2, at3⟩ := at3
  obtain ⟨v1, e1, _, B1, k1, _⟩ := rdS (j := 0) at3 av3 rfl (x1 a s2)
  obtain ⟨v2, e2, _, B2, k2, _⟩ := rdS (j := 1) at3 av3 rfl (x2 b s2)
  cases e1
  cases e2
  obtain ⟨p, dx, w, ev, hs, _⟩ := tape_slt k1
  obtain ⟨p2, dx2, w2, ev2, hs2, _⟩ := tape_slt k2
  subst ev ev2
  rw [hf a b] at q2
  refine ⟨p, dx, _, p2, tapeC X.K, dx2, _, rfl, rfl, hs, hs2, by unfold PySem.W.notFirst; simp, ?_⟩
  exact run_sp at3 av3 rfl (.sh (x1 a s2) (.sh (x2 b s2) .nil)) (wp_mono (wp_lft (wp_nxc (E' := fun _ _ => False) q2)) (fun b _ q3 v H' z => q3 v H' z) fun _ _ z => z)
theorem et_eqTape {f : TapeV × TapeV → SM Unit Bool} {fm : U → A → SM Unit Bool} (mt : Meth X.K (tapeC X.K) "__eq__" g) (FO : FnOk X.prog X.w X.K X.mg X.base (L2.CX X.prog X.w) k g fd ps (SpP X.K 2 (fun u : TapeV × TapeV => [.is (sh rTape) u.1, .is (sh rTape) u.2]) rBool f)) (hb : Binds X.K fd ps []) (hr : Room k X.A)
    (h : EO X F a ta G G1 argA m1) (h2 : EO X F b tb G1 G' argB m2) (x1 : ∀ a s, RdS (G' s) (argA a) rTape (txA a)) (x2 : ∀ a s, RdS (G' s) (argB a) rTape (txB a)) (hw : ∀ s, Weak (G' s) (F.io s)) (hf : ∀ a b, fm a b = f (txA a, txB b) := by intros; rfl) (hm : behindInMarks .Eq b = false := by rfl) :
    ET X F (.Compare a [.Eq] [b] pos) (tTest (tOp (rOwn X.K (tapeC X.K) (SpP X.K 2 (fun u : TapeV × TapeV => [.is (sh rTape) u.1, .is (sh rTape) u.2]) rBool f) (fun _ _ _ => False)) ta tb)) G G' (bnd m1 fun a => bnd m2 fun b => nxc (lft (fm a b))) :=
  ⟨pt_cmpR (op_own (fun _ _ => rfl) mt.at_ mt.fn ((FnOk.raw FO hb .nil).imp fun vs H Q E q => by rw [List.append_nil]; exact q) hr (passes_nx rfl)) h.pe h2.pe hm, go_test (go_eqTape h.go h2.go x1 x2 hw hf)⟩
end
end Td
set_option Elab.async false
set_option linter.all false
set_option maxRecDepth 100000
set_option maxHeartbeats 4000000
namespace Td
open PySem PySem.Spec PyProof.Rows L2 StX
section
variable {K : PySem.W.Frag} {S : Type} {F : FC K S} {T : List Slot} {t : List V} {G : List Slot} {σ : L2.St} {H : Hp} {A : Type} {rx : Rp A} {xs : List A}
theorem At.pin {i : Nat} {U : Type} {r : Rp U} {a : U} (h : At F T t G σ H) (e : G[i]? = some (.is r a)) : ∃ w, At F T t (G.set i (.pn w r a)) σ H := by
  obtain ⟨v, M, B, ev, hr⟩ := h.slot e
  exact ⟨v, h.repin e ev⟩
end
section
variable {X : Cx} {S : Type} {F : FC X.K S} {N L R U W Z A : Type} {G G1 G2 : S → List Slot} {GN : N → S → List Slot} {GL : L → S → List Slot} {r : Rp R} {r1 : Rp U} {r2 : Rp W} {q1 : Rp Z} {rx : Rp A} {pos p0 p1 cpos apos : Pos} {sts rest : List Stmt} {ts tr : TS} {tg e e2 : Expr} {te te2 : TE}
theorem en_sh {T : Type} {r : Rp T} {f : T → PyData} (h : Enc r f) : Enc (sh r) f := by
  rintro K M H v a B ⟨_, A, k, _⟩
  exact h k
end
section
variable {K : PySem.W.Frag} {S : Type} {F : FC K S} {T : List Slot} {t : List V} {G : List Slot} {σ : L2.St} {H : Hp}
end
section
variable {X : Cx} {S : Type} {F : FC X.K S} {U A : Type} {n k : Nat} {Pr : U → List Slot} {f : U → SM TS0 Unit} {fm : A → SM TS0 Unit} {E : XK} {ta : TA} {G G' : S → List Slot} {LA : A → List Arg} {mA : SM S A} {CX : CXT} {fA : Addr} {fd : FuncData} {ps : List Str} {x : Str} {p pos : Pos} {e : Expr} {es : List Expr}
end
end Td
set_option Elab.async false
set_option linter.all false
set_option maxRecDepth 100000
set_option maxHeartbeats 4000000
namespace L2
open PySem PySem.Spec PyProof.Rows
/-- a caught error that is kept: its object at a -/
def ExK (cls : Value) (d : Option Addr) (a : Addr) : HO := .ext fun h => ∃ (oe : Obj) (vs : Array Value), h.get? a = some oe ∧ Zc cls d oe ∧ oe.data = .fields vs
section
variable {X : Cx} {pins : List (Addr × Obj)} {σ : St} {H : Hp} {s : Shared} {a : Addr} {oe : Obj} {vs : Array Value} {cls : Value} {d : Option Addr}
end
section
variable {X : Cx} {x n : Str} {c : Value} {i : Nat} {body suite : List Stmt} {b₀ : Stmt} {np pos pos' : Pos} {tb : WX → TS} {ts : Addr → Value → Option Addr → TS} {Wout : WX}
end
end L2
set_option Elab.async false
set_option linter.all false
set_option maxRecDepth 100000
set_option maxHeartbeats 4000000
namespace Td
open PySem PySem.Spec PyProof.Rows L2
section
variable {P : Program} {w : World} {K : PySem.W.Frag} {mg : Str → Option Value} {base : Heap} {qual : Str} {params : Arguments} {body : List Stmt} {scope : Scope} {f : Addr} {fd : FuncData} {k : Nat} {p1 p2 p3 p4 p5 p6 p7 p8 p9 p10 : Pos}
end
section
variable {K : PySem.W.Frag} {S : Type} {F : FC K S} {T : List Slot} {t : List V} {G : List Slot} {σ : L2.St} {H : Hp}
theorem At.xd {U : Type} {r : Rp U} {a : U} {v : V} {pay : U → Pay} (h : At F (.is r a :: T) (v :: t) G σ H) (hp : ∀ {K M H v a B}, r.rel K M H v a B → rPay.rel K M H v (pay a) B) {d : Addr} (hd : H d = none) :
    At F (.is rXd (pay a) :: T) (.ref d :: t) G σ (upd H d (.xd [("value", v)])) := by
  obtain ⟨A1, A2, h⟩ := h
  have k : ∀ x o, H x = some o → upd H d (.xd [("value", v)]) x = some o := fun x o e => by rw [upd_ne (ne_of_none e hd)]; exact e
  have nd := h.good.nd
  have hg := h.good
  have tr := h.m_trk
  obtain ⟨B, A', eA, ⟨v', ev, h1⟩, ht⟩ := AtS.cons_inv h.tmp
  cases ev
  subst eA
  have dn : ∀ p, p ∈ (B ++ A') ++ A2 ++ F.M0 → p ≠ d := fun p hp z => by
    obtain ⟨o, e, _⟩ := tr p hp
    rw [z, hd] at e; cases e
  have hM : ∀ x, x ∈ (d :: B ++ A') ++ A2 ++ F.M0 → x ∈ (B ++ A') ++ A2 ++ F.M0 ∨ H x = none := fun x hx => by
    have hx' : x ∈ d :: (B ++ A' ++ A2 ++ F.M0) := hx
    rcases List.mem_cons.mp hx' with z | z
    · exact .inr (by rw [z]; exact hd)
    · exact .inl z
  obtain ⟨f1, f2, f3⟩ := hg.fresh hd
  refine ⟨d :: B ++ A', A2, .cons (B := d :: B) ⟨_, rfl, d, v, B, rfl, upd_same, rPay.keep (hp (r.grow h1 hM)) (fun x o e _ => k x o e), rfl⟩ ((ht.grow hM).keep fun x o e _ => k x o e), (h.loc.grow hM).keep fun x o e _ => k x o e, ⟨?_, fun p hp => ?_, fun p hp => ?_, fun p hp => ?_, fun p o e hI ww => k p o (hg.stay p o e hI ww), hg.m0, hg.tm, hg.tb.up k⟩⟩
  · show (d :: ((B ++ A') ++ A2)).Nodup
    exact List.nodup_cons.mpr ⟨fun z => dn d (List.mem_append_left _ z) rfl, nd⟩
  · rcases List.mem_cons.mp (show p ∈ d :: ((B ++ A') ++ A2) from hp) with z | z
    · rw [z]; exact f2
    · exact hg.out p z
  · rcases List.mem_cons.mp (show p ∈ d :: ((B ++ A') ++ A2) from hp) with z | z
    · rw [z]; exact .inl f1
    · exact hg.new p z
  · obtain ⟨o, e, z⟩ := hg.has p hp
    exact ⟨o, k p o e, z⟩
end
section
variable {X : Cx} {S : Type} {F : FC X.K S} {N N' L L' R : Type} {G G1 G2 : S → List Slot} {GN : N → S → List Slot} {GJ : N' → S → List Slot} {GL : L → S → List Slot} {r : Rp R} {pos p0 p1 : Pos} {rest : List Stmt} {tr : TS}
end
end Td
set_option Elab.async false
set_option linter.all false
set_option maxRecDepth 100000
set_option maxHeartbeats 4000000
namespace Td
open PySem PySem.Spec PyProof.Rows L2
/-- a caught error -/
def rExc : Rp Exn where
  rel := fun K M H v e B => ∃ a d w C, v = .ref a ∧ H a = some (ExK (.ref (He.ga K e.cls)) (some d) a) ∧ H d = some (.xd [("value", w)]) ∧ rPay.rel K M H w e.pay C ∧ B = a :: d :: C
  keep := by
    rintro K M H H' v e B ⟨a, d, w, C, ev, ha, hd, h, eB⟩ k
    subst eB
    exact ⟨a, d, w, C, ev, k a _ ha (.inr (.inl (List.mem_cons_self ..))), k d _ hd (.inr (.inl (List.mem_cons_of_mem _ (List.mem_cons_self ..)))), rPay.keep h (fun p o e h => k p o e (h.imp id (Or.imp (fun z => List.mem_cons_of_mem _ (List.mem_cons_of_mem _ z)) id))), rfl⟩
  grow := by
    rintro K M M' H v e B ⟨a, d, w, C, ev, ha, hd, h, eB⟩ k
    exact ⟨a, d, w, C, ev, ha, hd, rPay.grow h k, eB⟩
  trk := by
    rintro K M H v e B ⟨a, d, w, C, ev, ha, hd, h, eB⟩ x hx
    subst eB
    rcases List.mem_cons.mp hx with hx | hx
    · subst hx; exact ⟨_, ha, rfl⟩
    · rcases List.mem_cons.mp hx with hx | hx
      · subst hx; exact ⟨_, hd, rfl⟩
      · exact rPay.trk h x hx
section
variable {K : PySem.W.Frag} {S : Type} {F : FC K S} {T : List Slot} {t : List V} {G : List Slot} {σ : L2.St} {H : Hp}
/-- a new object on top of what the top temp owns -/
theorem At.top {U W : Type} {r : Rp U} {q : Rp W} {a : U} {b : W} {v : V} (h : At F (.is r a :: T) (v :: t) G σ H) {p : Addr} {o : HO} (hp : H p = none) (ho : isOwn o = true)
    (hq : ∀ M B, r.rel K M (upd H p o) v a B → q.rel K M (upd H p o) (.ref p) b (p :: B)) : At F (.is q b :: T) (.ref p :: t) G σ (upd H p o) := by
  obtain ⟨A1, A2, h⟩ := h
  have k : ∀ x u, H x = some u → upd H p o x = some u := fun x u e => by rw [upd_ne (ne_of_none e hp)]; exact e
  have nd := h.good.nd
  have hg := h.good
  have tr := h.m_trk
  obtain ⟨B, A', eA, ⟨v', ev, h1⟩, ht⟩ := AtS.cons_inv h.tmp
  cases ev
  subst eA
  have dn : ∀ x, x ∈ (B ++ A') ++ A2 ++ F.M0 → x ≠ p := fun x hx z => by
    obtain ⟨u, e, _⟩ := tr x hx
    rw [z, hp] at e; cases e
  have hM : ∀ x, x ∈ (p :: B ++ A') ++ A2 ++ F.M0 → x ∈ (B ++ A') ++ A2 ++ F.M0 ∨ H x = none := fun x hx => by
    have hx' : x ∈ p :: (B ++ A' ++ A2 ++ F.M0) := hx
    rcases List.mem_cons.mp hx' with z | z
    · exact .inr (by rw [z]; exact hp)
    · exact .inl z
  obtain ⟨f1, f2, f3⟩ := hg.fresh hp
  refine ⟨p :: B ++ A', A2, .cons (B := p :: B) ⟨_, rfl, hq _ _ (r.keep (r.grow h1 hM) (fun x u e _ => k x u e))⟩ ((ht.grow hM).keep fun x u e _ => k x u e), (h.loc.grow hM).keep fun x u e _ => k x u e, ⟨?_, fun x hx => ?_, fun x hx => ?_, fun x hx => ?_, fun x u e hI ww => k x u (hg.stay x u e hI ww), hg.m0, hg.tm, hg.tb.up k⟩⟩
  · show (p :: ((B ++ A') ++ A2)).Nodup
    exact List.nodup_cons.mpr ⟨fun z => dn p (List.mem_append_left _ z) rfl, nd⟩
  · rcases List.mem_cons.mp (show x ∈ p :: ((B ++ A') ++ A2) from hx) with z | z
    · rw [z]; exact f2
    · exact hg.out x z
  · rcases List.mem_cons.mp (show x ∈ p :: ((B ++ A') ++ A2) from hx) with z | z
    · rw [z]; exact .inl f1
    · exact hg.new x z
  · obtain ⟨u, e, z⟩ := hg.has x hx
    exact ⟨u, k x u e, z⟩
theorem At.top2 {U W : Type} {r : Rp U} {q : Rp W} {a : U} {b : W} {v : V} (h : At F (.is r a :: T) (v :: t) G σ H) (k : ∀ M B, r.rel K M H v a B → q.rel K M H v b B) : At F (.is q b :: T) (v :: t) G σ H := by
  obtain ⟨A1, A2, h⟩ := h
  obtain ⟨B, A', eA, ⟨v', ev, hr⟩, ht⟩ := AtS.cons_inv h.tmp
  subst eA
  exact ⟨B ++ A', A2, .cons ⟨v', ev, by cases ev; exact k _ _ hr⟩ ht, h.loc, h.good⟩
theorem At.kept {e : Exn} {d : Addr} (h : At F (.is rXd e.pay :: T) (.ref d :: t) G σ H) {a : Addr} (ha : H a = none) :
    At F (.is rExc e :: T) (.ref a :: t) G σ (upd H a (ExK (.ref (He.ga K e.cls)) (some d) a)) :=
  h.top ha rfl fun M B ⟨d', w, C, ev, hd, hw, eB⟩ => by
    cases ev
    subst eB
    exact ⟨a, d, w, C, rfl, upd_same, hd, hw, rfl⟩
/-- a suite by itself: what the temps own is no one's business in it -/
def FC.sub (F : FC K S) (H : Hp) (A1 A2 : List Addr) (io : S → List Slot) (W : WX) : FC K S := ⟨H, A2, A1 ++ F.M0, io, W⟩
end
section
variable {X : Cx} {S : Type} {F : FC X.K S} {N N' L R : Type} {G G1 : S → List Slot} {GN : N → S → List Slot} {GJ : N' → S → List Slot} {GL : L → S → List Slot} {r : Rp R} {pos p0 p1 p2 np pos' : Pos} {body rest : List Stmt} {tr : TS}
end
end Td
set_option Elab.async false
set_option linter.all false
set_option maxRecDepth 100000
set_option maxHeartbeats 4000000
namespace L2
open PySem PySem.Spec PyProof.Rows
section
variable {X : Cx} {CX : CXT} {k n : Nat} {f : Addr} {fd : FuncData} {ps ks : List Str} {sp : Sp} {E : St → XK} {x : Str} {p pos : Pos} {e : Expr} {es : List Expr} {kws : List Keyword} {t tk : TA} {g : List Value → List Value → List Value} {gV : List V → List V → List V}
end
end L2
namespace Td
open PySem PySem.Spec PyProof.Rows L2 He
section
variable {X : Cx} {S : Type} {F : FC X.K S} {U W A B : Type} {n nn k : Nat} {is : List Nat} {Ps Pe : U → List Slot} {r : Rp W} {f : U → SM Unit W} {ta tk : TA} {G G1 G' : S → List Slot} {LA : A → List Arg} {LB : B → List Arg} {mA : SM S A} {mB : SM S B} {fA : Addr} {fd : FuncData} {ps ks : List Str} {x : Str} {p pos : Pos} {e : Expr} {es : List Expr} {kws : List Keyword} {g : List Value → List Value → List Value} {Wx : WX}
end
def rL2 {T U : Type} (r : Rp T) (q : Rp U) : Rp (T × U) where
  rel := fun K M H v a B => ∃ p v1 v2 B1 B2, v = .ref p ∧ H p = some (.lst [v1, v2]) ∧ r.rel K M H v1 a.1 B1 ∧ q.rel K M H v2 a.2 B2 ∧ B = p :: (B1 ++ B2)
  keep := by
    rintro K M H H' v a B ⟨p, v1, v2, B1, B2, e, hT, h1, h2, eB⟩ k
    subst eB
    exact ⟨p, v1, v2, B1, B2, e, k p _ hT (.inr (.inl (List.mem_cons_self ..))), r.keep h1 (fun p o e h => k p o e (h.imp id (Or.imp (fun z => List.mem_cons_of_mem _ (List.mem_append_left _ z)) id))), q.keep h2 (fun p o e h => k p o e (h.imp id (Or.imp (fun z => List.mem_cons_of_mem _ (List.mem_append_right _ z)) id))), rfl⟩
  grow := by
    rintro K M M' H v a B ⟨p, v1, v2, B1, B2, e, hT, h1, h2, eB⟩ k
    exact ⟨p, v1, v2, B1, B2, e, hT, r.grow h1 k, q.grow h2 k, eB⟩
  trk := by
    rintro K M H v a B ⟨p, v1, v2, B1, B2, e, hT, h1, h2, eB⟩ x hx
    subst eB
    rcases List.mem_cons.mp hx with hx | hx
    · subst hx; exact ⟨_, hT, rfl⟩
    · rcases List.mem_append.mp hx with hx | hx
      · exact r.trk h1 x hx
      · exact q.trk h2 x hx
instance {A B : Type} [Inhabited A] : Inhabited (A ⊕ B) := ⟨.inl default⟩
section
variable {K : PySem.W.Frag} {S : Type} {F : FC K S} {T : List Slot} {t : List V} {G : List Slot} {σ : L2.St} {H : Hp}
theorem At.l2 {U W : Type} {r : Rp U} {q : Rp W} {a : U} {b : W} {v w : V} (h : At F (.is q b :: .is r a :: T) (w :: v :: t) G σ H) {p : Addr} (hp : H p = none) : At F (.is (rL2 r q) (a, b) :: T) (.ref p :: t) G σ (upd H p (.lst [v, w])) := by
  obtain ⟨A1, A2, h⟩ := h
  have nd := h.good.nd
  obtain ⟨B2, A', eA, ⟨w', ew, h2⟩, ht⟩ := AtS.cons_inv h.tmp
  obtain ⟨B1, A'', eA', ⟨v', ev, h1⟩, ht⟩ := AtS.cons_inv ht
  cases ew; cases ev
  subst eA; subst eA'
  have k : ∀ x o, H x = some o → upd H p (.lst [v, w]) x = some o := fun x o e => by rw [upd_ne (ne_of_none e hp)]; exact e
  have hg := h.good
  have tr := h.m_trk
  have dn : ∀ x, x ∈ B2 ++ (B1 ++ A'') ++ A2 ++ F.M0 → x ≠ p := fun x hx z => by
    obtain ⟨u, e, _⟩ := tr x hx
    rw [z, hp] at e; cases e
  have hM : ∀ x, x ∈ (p :: (B1 ++ B2) ++ A'') ++ A2 ++ F.M0 → x ∈ B2 ++ (B1 ++ A'') ++ A2 ++ F.M0 ∨ H x = none := fun x hx => by
    have hx' : x ∈ p :: ((B1 ++ B2) ++ A'' ++ A2 ++ F.M0) := hx
    rcases List.mem_cons.mp hx' with z | z
    · exact .inr (by rw [z]; exact hp)
    · exact .inl (by simp only [List.mem_append] at *; grind)
  obtain ⟨f1, f2, f3⟩ := hg.fresh hp
  refine ⟨p :: (B1 ++ B2) ++ A'', A2, .cons (B := p :: (B1 ++ B2)) ⟨_, rfl, p, v, w, B1, B2, rfl, upd_same, r.keep (r.grow h1 hM) (fun x u e _ => k x u e), q.keep (q.grow h2 hM) (fun x u e _ => k x u e), rfl⟩ ((ht.grow hM).keep fun x u e _ => k x u e), (h.loc.grow hM).keep fun x u e _ => k x u e, ⟨?_, fun x hx => ?_, fun x hx => ?_, fun x hx => ?_, fun x u e hI ww => k x u (hg.stay x u e hI ww), hg.m0, hg.tm, hg.tb.up k⟩⟩
  · show (p :: (((B1 ++ B2) ++ A'') ++ A2)).Nodup
    refine List.nodup_cons.mpr ⟨fun z => dn p ?_ rfl, ?_⟩
    · simp only [List.mem_append] at *; grind
    · simp only [List.nodup_append, List.mem_append] at *; grind
  · rcases List.mem_cons.mp (show x ∈ p :: (((B1 ++ B2) ++ A'') ++ A2) from hx) with z | z
    · rw [z]; exact f2
    · exact hg.out x (by simp only [List.mem_append] at *; grind)
  · rcases List.mem_cons.mp (show x ∈ p :: (((B1 ++ B2) ++ A'') ++ A2) from hx) with z | z
    · rw [z]; exact .inl f1
    · exact hg.new x (by simp only [List.mem_append] at *; grind)
  · obtain ⟨u, e, z⟩ := hg.has x hx
    exact ⟨u, k x u e, z⟩
end
end Td
set_option Elab.async false
set_option linter.all false
set_option maxRecDepth 100000
set_option maxHeartbeats 4000000
namespace Td
open PySem PySem.Spec PyProof.Rows L2 He
section
variable {X : Cx} {S : Type} {F : FC X.K S} {U W Z A B : Type} {r r1 : Rp U} {r2 : Rp W} {q : Rp Z} {e a b : Expr} {te ta tb : TE} {G G1 G2 G' : S → List Slot} {m m1 : SM S U} {m2 : SM S W} {arg : U → Arg} {argW : W → Arg} {pos p0 p1 p2 : Pos}
/-- the answer read another way, where it can be -/
def asM {T : Type} : Option T → SM S T
  | some a => ret a
  | none => stk
theorem wp_asM {T : Type} {o : Option T} {s : S} {P : T → S → Prop} {E : Exn → S → Prop} (h : (asM o s).wp P E) : ∃ a, o = some a ∧ P a s := by
  cases o with
  | none => exact h.elim
  | some a => exact ⟨a, rfl, h⟩
theorem go_asM {f : U → Option W} (h : GE F te G G' r1 m1) (k : ∀ {K M H v a B b}, r1.rel K M H v a B → f a = some b → r2.rel K M H v b B) : GE F te G G' r2 (bnd m1 fun a => asM (f a)) := by
  intro T t σ s H Q h0 q
  refine h T t σ s H Q h0 (wp_mono (wp_bnd q) (fun a s1 q1 v H1 at1 => ?_) fun _ _ z => z)
  obtain ⟨b, e, q2⟩ := wp_asM q1
  exact q2 v H1 (at1.top2 fun M B hr => k hr e)
theorem ex_asM {f : U → Option W} (h : EX X F e te G G' r1 m1) (k : ∀ {K M H v a B b}, r1.rel K M H v a B → f a = some b → r2.rel K M H v b B) : EX X F e te G G' r2 (bnd m1 fun a => asM (f a)) := ⟨h.pe, go_asM h.go k⟩
end
end Td
set_option Elab.async false
set_option linter.all false
set_option maxRecDepth 100000
set_option maxHeartbeats 4000000
namespace L2
open PySem PySem.Spec PyProof.Rows SlX StX
section
variable {X : Cx} {pins : List (Addr × Obj)} {σ : L2.St} {H : Hp} {s : Shared} {k n : Nat} {g C : Addr} {sp : Sp} {E : L2.St → XK} {fd : FuncData} {ps ks : List Str} {gg : List Value → List Value → List Value} {gV : List V → List V → List V}
/-- a callee below the running body; what it raises is wished for at the slots -/
theorem at_slots {A : Around} {CX : CXT} {Q : VK} {us : List Value} {ws : List V} (F : FnR X.prog X.w X.K X.mg X.base CX k g sp) (hr : Room k A) (e0 : Env0 X.prog X.w X.K X.mg X.base A X.stack s H) (hx : PassesAt CX X σ (E σ)) (I : Inv X pins σ H s) (r : Vals ws us) (h : sp ws H Q (E σ)) :
    codeAny (model X.prog X.w) A (.call (.ref g) ⟨us, []⟩) (fun r s' => match r with | .ok (.ret v) => EP X pins σ Q v s' | .ok _ => False | .error e => X.xe e s') s :=
  codeAny_mono (F A X.stack s H us ws Q (E σ) hr e0 r h) fun z s' hq => match z, hq with
    | .error e, hq => hx pins H s e s' I hq
    | .ok (.ret u), hq => I.after hq
    | .ok .next, hq => hq.elim
    | .ok .brk, hq => hq.elim
    | .ok .cont, hq => hq.elim
/-- C(..): the new instance, then __init__ -/
theorem make_slots {CX : CXT} {Q : VK} {us : List Value} {vs : List V} (M : Mk X.K C g) (F : FnR X.prog X.w X.K X.mg X.base CX k g sp) (hr : Room (k + 1) X.A) (hx : PassesAt CX X σ (E σ)) (I : Inv X pins σ H s) (r : Vals vs us)
    (h : ∀ x dx, H x = Option.none → H dx = Option.none → dx ≠ x → sp (V.ref x :: vs) (upd (upd H dx (.own x)) x (.ins C dx [])) (fun v H2 => v = .non ∧ Q (.ref x) H2) (E σ)) :
    wpAny (model X.prog X.w) X.A (call (.ref C) us) (EP X pins σ Q) X.xe s := by
  have I2 := Inv.made (C := C) I
  have hq := h (s.heap.objs.size + 1) s.heap.objs.size (I.hok.fresh (Nat.le_succ _)) (I.hok.fresh (Nat.le_refl s.heap.objs.size)) (Nat.ne_of_lt (Nat.lt_succ_self _))
  refine wpAny_call (make_map (f := g) I.kIn M.makes M.init (beq_iff_eq.mp M.fn) (codeAny_mono (at_slots (us := Value.ref (s.heap.objs.size + 1) :: us) F (hr.make C us []) (I2.env0.make C us []) hx I2 (.cons (show RelV (V.ref (s.heap.objs.size + 1)) _ from rfl) r) hq) fun z s' hz => ?_))
  match z, hz with
  | .error e, hz => exact hz
  | .ok (.ret u), hz =>
    obtain ⟨v, H', I3, rv, ev, q3⟩ := hz
    subst ev
    exact ⟨rv, ⟨V.ref (s.heap.objs.size + 1), H', I3, rfl, q3⟩⟩
end
section
variable {X : Cx} {CX : CXT} {k n : Nat} {C g : Addr} {sp : Sp} {E : L2.St → XK} {fd : FuncData} {ps ks : List Str} {gg : List Value → List Value → List Value} {gV : List V → List V → List V} {x m : Str} {p pos apos : Pos} {e o : Expr} {es : List Expr} {kws : List Keyword} {ta : TE} {t tk : TA}
theorem pe_makeS (M : Mk X.K C g) (F : FnR X.prog X.w X.K X.mg X.base CX k g sp) (hr : Room (k + 1) X.A) (hg : Gl X x) (hm : X.mg x = some (.ref C)) (hx : ∀ σ, PassesAt CX X σ (E σ)) (ha : PA X (e :: es) t) (hdb : (x == ("__debug__" : Str)) = false := by decide)
    (he : starEach (e :: es) X.env = (false, eval e X.env) :: starEach es X.env := by rfl) (hpl : (backTo pos (starEach es X.env)).any (·.1) = false := by rfl) : PE X (.Call (.Name x p) (e :: es) [] pos) (fun σ H Q => tMakeR C sp (E σ) t σ H Q) :=
  ⟨fun pins s σ H Q I h => wpAny_Call_Name_kw (ld_glob I hg hm (PySem.W.callWith_K (h₀ := X.base) I.ok.mod.kin M.kp (thn (ha.run pos pins s σ H _ I h) fun _ _ ⟨_, _, I1, r, q⟩ => ⟨I1.kIn, make_slots M F hr (hx σ) I1 r q⟩) he hpl) hdb)⟩
end
end L2
namespace Td
open PySem PySem.Spec PyProof.Rows L2 He SlX StX
section
variable {K : PySem.W.Frag} {S : Type} {F : FC K S} {T : List Slot} {t : List V} {G : S → List Slot} {σ : L2.St} {H : Hp}
theorem make_at {U : Type} {n : Nat} {Pr : U → List Slot} {f : U → SM TS0 Unit} {E : XK} {L : List Arg} {ts vs : List V} {u : U} {A1 A2 : List Addr} {Q : VK} {s : S} (at1 : AtP F ((tmps L).reverse ++ T) (ts.reverse ++ t) (G s) σ H A1 A2) (lts : ts.length = (tmps L).length) (hn : vs.length + 1 = n)
    (hent : AtS K (A1 ++ A2 ++ F.M0) H (Pr u) (vs.map some) []) (ht : t.length = T.length) (hW : ∀ c d H, F.W c d σ H → E c d H) (hw : Weak (G s) (F.io s))
    (q : (f u TS0.new).wp (fun _ s' => match s' with | .full a => ∀ v H', At F (.is rTape a :: T) (v :: t) (G s) σ H' → Q v H' | _ => False) (fun e _ => XP F σ e s)) {x dx : Addr} (hx : H x = none) (hd : H dx = none) (ne : dx ≠ x) :
    SpI K n rSelf Pr rNon f (.ref x :: vs) (upd (upd H dx (.own x)) x (.ins (tapeC K) dx [])) (fun v H2 => v = .non ∧ Q (.ref x) H2) E := by
  obtain ⟨at2, tail, rel, k, hM⟩ := at1.alloc hx hd ne
  refine run_ioS clo_self rel tail at2 lts hn ((hent.grow hM).keep fun p o e _ => k p o e) (wp_mono q (fun b s' q3 v H' hz => ?_) (fun e s' q3 d H' hz => ?_))
  · obtain ⟨_, _, hz0⟩ := id hz
    obtain ⟨_, _, _, _, ht0⟩ := AtS.cons_inv hz0.tmp
    obtain ⟨_, _, _, ⟨v', ev, eb, _⟩, _⟩ := AtS.cons_inv ht0
    cases ev
    subst eb
    refine ⟨rfl, ?_⟩
    cases s' with
    | new => exact q3.elim
    | half _ => exact q3.elim
    | full a =>
      have z1 : At F (.is rTape a :: .is rNon b :: T) (.ref x :: .non :: t) (G s) σ H' := by
        obtain ⟨C1, C2, hz⟩ := hz
        obtain ⟨B, A', eA, ⟨v', ev, hr⟩, ht⟩ := AtS.cons_inv hz.tmp
        subst eA
        exact ⟨_, C2, .cons ⟨v', ev, hr⟩ ht, hz.loc, hz.good⟩
      exact q3 _ H' (At.dropU (T1 := [_]) (t1 := [_]) rfl z1)
  · refine hW _ _ _ (q3 d H' ?_)
    have z2 := hz.weak hw
    exact At.dropM (T0 := [_]) (t0 := [.ref d]) (T := []) (t := []) rfl (T1 := T) (t1 := t) (by rw [ht]) (by simpa using z2)
end
section
variable {X : Cx} {S : Type} {F : FC X.K S} {U A B : Type} {n k : Nat} {is : List Nat} {Pr Pe : U → List Slot} {f : U → SM TS0 Unit} {ta tk : TA} {G G' : S → List Slot} {LA : A → List Arg} {mA : SM S A} {fA : Addr} {fd : FuncData} {ps ks : List Str} {x : Str} {p pos : Pos} {e : Expr} {es : List Expr} {kws : List Keyword} {gg : List Value → List Value → List Value} {Wx : WX}
theorem wp_tapeM {s : S} {s' : TS0} {P : TapeV → S → Prop} {E : Exn → S → Prop} (h : (tapeM s' s).wp P E) : match s' with | .full a => P a s | _ => False := by
  cases s' with
  | new => exact h.elim
  | half _ => exact h.elim
  | full a => exact h
/-- Tape(e, ..) in a try's body, a new one -/
theorem ex_makeS {fm : A → SM TS0 Unit} (u : A → U) (M : Mk X.K (tapeC X.K) fA) (FO : FnOk X.prog X.w X.K X.mg X.base (L2.CX X.prog X.w) k fA fd ps (SpI X.K n rSelf Pr rNon f)) (hr : Room (k + 1) X.A) (hg : Gl X x) (hm : X.mg x = some (.ref (tapeC X.K))) (hb : Binds X.K fd ps []) (tkx : Takes X Wx) (hW : F.W = Wx)
    (h : EA X F (e :: es) ta G G' LA mA) (hn : ∀ a, (LA a).length + 1 = n) (he : ∀ a s, EntS (G' s) (LA a) (Pr (u a))) (hw : ∀ s, Weak (G' s) (F.io s)) (hf : ∀ a, fm a = f (u a) := by intro _; rfl)
    (hst : PySem.W.isStarred e = false := by rfl) (hpl : (backTo pos (starEach es X.env)).any (·.1) = false := by rfl) (hdb : (x == ("__debug__" : Str)) = false := by decide) :
    EX X F (.Call (.Name x p) (e :: es) [] pos) (fun σ H Q => tMakeR (tapeC X.K) (SpI X.K n rSelf Pr rNon f) (WE Wx σ) ta σ H Q) G G' rTape (bnd mA fun a => bnd (subM (fm a) TS0.new) fun p => tapeM p.2) :=
  ⟨pe_makeS M ((FnOk.raw FO hb .nil).imp fun vs H Q E q => by rw [List.append_nil]; exact q) hr hg hm (fun σ => passAt tkx σ) h.pa (hdb := hdb) (he := star1 hst) (hpl := hpl), fun T t σ s H Q h0 q => by
    have hl := at_len h0
    refine h.go T t σ s H _ h0 (wp_mono (wp_bnd q) (fun a s1 q1 ts vs H1 at1 av => ?_) fun _ _ z => z)
    have q2 := wp_subM (wp_bnd q1)
    obtain ⟨A1, A2, at1⟩ := at1
    rw [hf a] at q2
    intro x dx hx hd ne
    exact make_at at1 (argV_len av).2 (by rw [(argV_len av).1, hn]) (entS_at at1 av (he a s1)) hl (fun c d H z => by rw [hW] at z; exact z) (hw s1) (wp_mono q2 (fun b s' q3 => by
      have := wp_tapeM q3
      cases s' with
      | new => exact this
      | half _ => exact this
      | full a => exact this) fun _ _ z => z) hx hd ne⟩
end
end Td
set_option Elab.async false
set_option linter.all false
set_option maxRecDepth 100000
set_option maxHeartbeats 4000000
namespace Td
open PySem PySem.Spec PyProof.Rows L2 He
section
variable {X : Cx} {A : Type} {F : FC X.K Unit} {N L R : Type} {G : Unit → List Slot} {GN : N → Unit → List Slot} {GL : L → Unit → List Slot} {GN' : N → List A → List Slot} {GL' : L → List A → List Slot} {r : Rp R} {ra : Rp A} {sts : List Stmt} {ts : TS}
/-- the list in slot i is the state of what follows -/
theorem bx_st {xs : List A} {out : SM (List A) (Fl N L R)} (i : Nat) (h0 : ∀ s, (G s)[i]? = some (.is (rList ra) xs)) (hn : ∀ n s', Weak (GN' n s') (GN n ())) (hl : ∀ l s', Weak (GL' l s') (GL l ()))
    (h : ∀ (w : V) (F' : FC X.K (List A)), F'.io = (fun _ => F.io ()) → F'.W = F.W → BX X F' sts ts (fun s' => (G ()).set i (.pn w (rList ra) s')) GN' GL' r out) :
    BX X F sts ts G GN GL r (bnd (subM out xs) fun p => ret p.1) :=
  ⟨(h .non ⟨F.H0, F.I, F.M0, fun _ => F.io (), F.W⟩ rfl rfl).ps, fun T t σ s H D at0 q => by
    obtain ⟨w, at1⟩ := at0.pin (h0 s)
    obtain ⟨F', eF⟩ : ∃ F' : FC X.K (List A), F' = ⟨F.H0, F.I, F.M0, fun _ => F.io (), F.W⟩ := ⟨_, rfl⟩
    have e1 : F'.H0 = F.H0 := by rw [eF]
    have e2 : F'.I = F.I := by rw [eF]
    have e3 : F'.M0 = F.M0 := by rw [eF]
    have e4 : F'.io = fun _ => F.io () := by rw [eF]
    have e5 : F'.W = F.W := by rw [eF]
    refine (h w F' e4 e5).go T t σ xs H D (at1.re e1 e2 e3) (wp_mono (wp_subM (wp_bnd q)) (fun fl s' q1 => ?_) fun e s' q1 σ' d H' z => ?_)
    · have q2 : FlP F T t GN GL r D fl s := q1
      cases fl with
      | nx n => exact fun σ' H' z => q2 σ' H' ((z.weak (hn n s')).re e1.symm e2.symm e3.symm)
      | bk l => exact fun σ' H' z => q2 σ' H' ((z.weak (hl l s')).re e1.symm e2.symm e3.symm)
      | ct l => exact fun σ' H' z => q2 σ' H' ((z.weak (hl l s')).re e1.symm e2.symm e3.symm)
      | rt b => exact fun v σ' H' z => q2 v σ' H' (by
          rw [e4] at z
          exact z.re e1.symm e2.symm e3.symm)
    · rw [e4] at z
      rw [e5]
      exact q1 σ' d H' (z.re e1.symm e2.symm e3.symm)⟩
end
end Td
set_option Elab.async false
set_option linter.all false
set_option maxRecDepth 100000
set_option maxHeartbeats 4000000
namespace Td
open PySem PySem.Spec PyProof.Rows L2 He
instance : Inhabited PyData := ⟨.none⟩
section
variable {K : PySem.W.Frag} {H H' : Hp}
end
section
variable {T U W : Type} {r : Rp T} {q : Rp U} {l : Rp W} {f : T → PyData} {g : U → PyData} {k : W → PyData}
end
section
variable {X : Cx} {S : Type} {F : FC X.K S} {U W Z A : Type} {r r1 : Rp U} {r2 : Rp W} {q : Rp Z} {e a b : Expr} {te ta tb : TE} {G G1 G2 G' : S → List Slot} {m m1 : SM S U} {m2 : SM S W} {arg : U → Arg} {pos p0 p1 p2 : Pos} {f : U → PyData}
def isT : PyData → Bool
  | .tuple _ => true
  | _ => false
variable {md : SM S PyData}
end
end Td
set_option Elab.async false
set_option linter.all false
set_option maxRecDepth 100000
set_option maxHeartbeats 4000000
namespace Td
open PySem PySem.Spec PyProof.Rows L2 He
section
variable {K : PySem.W.Frag} {S : Type} {F : FC K S} {T : List Slot} {t : List V} {G : List Slot} {σ : L2.St} {H H' : Hp} {U W Z : Type} {r : Rp U} {q : Rp W} {l : Rp Z} {a : U} {b : W} {c : Z} {v w u : V}
end
section
variable {K : PySem.W.Frag} {S : Type} {F : FC K S} {T : List Slot} {t : List V} {G : List Slot} {σ : L2.St} {H H' : Hp} {k : Bool} {v x : V} {ds : List PyData} {d : PyData} {i : Nat}
end
section
variable {X : Cx} {N L R : Type} {GN : N → Unit → List Slot} {GL : L → Unit → List Slot} {r : Rp R} {rest : List Stmt} {tr : TS}
theorem PI.or {tg e : Expr} {w1 w2 : TI} (h1 : PI X tg e w1) (h2 : PI X tg e w2) : PI X tg e (fun σ H R => w1 σ H R ∨ w2 σ H R) := ⟨fun pins s σ H R I h => h.elim (h1.run pins s σ H R I) (h2.run pins s σ H R I)⟩
end
end Td
set_option Elab.async false
set_option linter.all false
set_option maxRecDepth 100000
set_option maxHeartbeats 4000000
namespace L2
open PySem PySem.Spec PyProof.Rows
section
variable {prog : Program} {w : World} {A : Around} {E : Value → Shared → Prop} {s : Shared} {K : PySem.W.Frag} {x C f : Addr} {ox : Obj} {od : Option Obj}
open PySem.W
theorem ifBoundB {M : Model} {name : Str} {id : String} {args : List Value} {Q : Option Value → Shared → Prop} (X : K.In s.heap) (I : InstAt s.heap x ox C od) (hs : findIn K (.ref C) name = some (some (.builtin id))) (hb : ∀ self, bindSpecial (.builtin id) self = pure (.builtin id, [self]))
    (h : wpAny M A (call (.builtin id) (.ref x :: args)) (fun v => Q (some v)) E s) : wpAny M A (callSpecialIfBound? (.ref x) name args) Q E s := by
  simp only [callSpecialIfBound?, bindSpecialIfBound?]
  refine wpAny_holding (wpAny_bind (wpAny_bind (wpAny_bind (I.type.here ((looks_findIn X hs).here ?_)))))
  refine wpAny_bind (wpAny_askSetting (wpAny_ite ?_))
  have fin : wpAny M A (call (.builtin id) ([.ref x] ++ args) >>= fun v => pure (some v)) Q E s := wpAny_bind (wpAny_mono h (fun v s' z => wpAny_pure z) fun _ _ z => z)
  split
  · exact wpAny_bind ((Looks.of_pure (hb _)).here (wpAny_pure (by exact fin)))
  · exact wpAny_tryCatch (wpAny_bind ((Looks.of_pure (hb _)).here (wpAny_pure (by exact fin))))
open Builtin in
theorem call_ne {b : Value} {Q : Value → Shared → Prop} (hu : A.in1.units < cLine) (X : K.In s.heap) (I : InstAt s.heap x ox C od) (hm : mroIn K C (.type "object") = some true) (hr : findIn K (.ref C) "__eq__" = some (some (.ref f))) (hf : isFn K (.ref f) = true)
    (h : wpAny (model prog w) A.in1 (call (.ref f) [.ref x, b]) (fun v s' => ∃ k, v = .bool k ∧ Q (.bool (!k)) s') E s) : wpAny (model prog w) A (call (.builtin "object.__ne__") [.ref x, b]) Q E s := by
  refine wpAny_call (codeAny_call_builtin (PySem.F.cmp_object).ne.plain PySem.F.cmpEntry_ne (check_slot (i := "object.__ne__") (owner := "object") (n := "__ne__") (by decide +kernel) (by decide +kernel) (I.type.andThen (looks_mroIn X hm)) (PySem.F.cmpArgs_ne _ _) ?_))
  unfold Builtin.«object.__ne__»
  refine wpAny_bind (m := slotArgs "__ne__" 1 _) (wpAny_pure ?_)
  refine wpAny_bind (m := cRoomFor _ _) (wpAny_cRoomFor hu ?_)
  refine wpAny_bind (m := callSpecialIfBound? (.ref x) (Str.ofString "__eq__") _) (ifBound_K X I hr hf (wpAny_mono h (fun r s' hq => ?_) fun _ _ y => y))
  obtain ⟨k, rfl, q⟩ := hq
  exact wpAny_bind (m := truthy (.bool k)) (wpAny_truthy_bool (wpAny_pure q))
theorem cmpNe_K {L : Addr} {h₀ : Heap} {m : Str → Option Value} {b tb : Value} {Q : Value → Shared → Prop} (hu : A.units < cLine) (hu1 : A.in1.units < cLine) (F : Fr h₀ L s.heap m) (X₀ : K.In h₀) (I : InstAt s.heap x ox C od) (hb : Looks (model prog w) s.heap (typeOf b) tb) (hn : notFirst K C tb = true)
    (hm : mroIn K C (.type "object") = some true) (hne : findIn K (.ref C) "__ne__" = some (some (.builtin "object.__ne__"))) (hr : findIn K (.ref C) "__eq__" = some (some (.ref f))) (hf : isFn K (.ref f) = true)
    (h : wpAny (model prog w) A.in1 (call (.ref f) [.ref x, b]) (fun v s' => ∃ k, v = .bool k ∧ Q (.bool (!k)) s') E s) : wpAny (model prog w) A (richCompare .NotEq (.ref x) b) Q E s := by
  have X := X₀.keeps F.keep
  have one : wpAny (model prog w) A (tryCompare (.ref x) (cmpInfo .NotEq).2.1 b) (fun r s' => ∃ v, r = some v ∧ Q v s') E s := by
    unfold tryCompare
    refine wpAny_bind (ifBoundB X I hne (PySem.F.cmp_object).ne.bind (call_ne hu1 X I hm hr hf (wpAny_mono h (fun v s' hv => ?_) fun _ _ e => e)))
    obtain ⟨k, e, q⟩ := hv
    exact ⟨k, e, wpAny_pure ⟨_, rfl, q⟩⟩
  -- what was compared is the answer, on either road
  have settle : ∀ {R : Option Value → Sem Value}, (∀ v, R (some v) = pure v) → wpAny (model prog w) A (tryCompare (.ref x) (cmpInfo .NotEq).2.1 b >>= R) Q E s := fun hR =>
    wpAny_bind (wpAny_mono one (fun _ _ ⟨v, e, q⟩ => by rw [e, hR]; exact wpAny_pure q) fun _ _ z => z)
  unfold richCompare
  simp only [oneThing_ref]
  refine wpAny_holding (wpAny_bind (wpAny_cRoomFor hu (wpAny_bind (I.type.here (wpAny_bind (hb.here ?_))))))
  by_cases other : (Value.ref C != tb) = true
  · have below : subIn K tb (.ref C) = some false := ((Bool.or_eq_true _ _).mp hn).elim (fun z => by rw [beq_iff_eq.mp z] at other; simp at other) beq_iff_eq.mp
    rw [if_pos other]
    refine wpAny_bind ((looks_subIn X below).here ?_)
    rw [if_neg Bool.false_ne_true]
    exact settle fun _ => rfl
  · rw [if_neg other]
    refine wpAny_bind (wpAny_pure ?_)
    rw [if_neg Bool.false_ne_true]
    exact settle fun _ => rfl
end
end L2
namespace SlX
open PySem PySem.Spec PyProof.Rows L2
section
variable {X : Cx} {CX : CXT} {C g : Addr} {n : Nat} {sp : Sp} {E : XK}
/-- x != y, x an instance of the class at C whose == is at g and which has no != of its own -/
def rOwnNe (K : PySem.W.Frag) (C : Addr) (sp : Sp) (E : XK) : R2 := fun x y H Q => ∃ a dx vs b C' dy ws, x = .ref a ∧ y = .ref b ∧ Slt H a C dx vs ∧ Slt H b C' dy ws ∧ PySem.W.notFirst K C (.ref C') = true ∧ sp [x, y] H (fun z H' => ∃ k, z = .bl k ∧ Q (.bl (!k)) H') E
theorem op_ownNe (hm : PySem.W.mroIn X.K C (.type "object") = some true) (hne : PySem.W.findIn X.K (.ref C) "__ne__" = some (some (.builtin "object.__ne__"))) (hs : PySem.W.findIn X.K (.ref C) "__eq__" = some (some (.ref g))) (hf : PySem.W.isFn X.K (.ref g) = true) (F : FnR X.prog X.w X.K X.mg X.base CX n g sp)
    (hr : Room (n + 1) X.A) (hx : Passes CX X E) : OpR X (compareOp .NotEq) (rOwnNe X.K C sp E) := by
  intro pins s σ H x y v u Q I rx ry h
  obtain ⟨a, dx, vs, b, C', dy, ws, rfl, rfl, ha, hb, hn, q⟩ := h
  cases (show v = Value.ref a from rx)
  cases (show u = Value.ref b from ry)
  obtain ⟨_, _, _, J, _⟩ := slt_inst I ha
  obtain ⟨_, _, _, J', _⟩ := slt_inst I hb
  obtain ⟨m, hF⟩ := I.fr
  refine L2.cmpNe_K (tb := .ref C') hr.units0 hr.in1.units0 hF I.ok.mod.kin J J'.type hn hm hne hs hf ?_
  refine wpAny_mono (wpAny_call (run_at (us := [.ref a, .ref b]) (ws := [.ref a, .ref b]) F hr.in1 I.env0.in1 hx I (.cons rfl (.cons rfl .nil)) q)) (fun w s' z => ?_) fun _ _ x => x
  obtain ⟨z', H', I', rz, k, ek, qz⟩ := z
  subst ek
  cases (show w = Value.bool k from rz)
  exact ⟨k, rfl, .bl (!k), H', I', rfl, qz⟩
variable {k : Nat} {fd : FuncData} {ps ks : List Str} {o e : Expr} {es : List Expr} {m : Str} {pos apos : Pos} {ta tb : TE} {t tk : TA} {kws : List Keyword} {ES : L2.St → XK} {gg : List Value → List Value → List Value} {gV : List V → List V → List V}
end
end SlX
namespace Td
open PySem PySem.Spec PyProof.Rows L2 SlX He
section
variable {X : Cx} {S : Type} {F : FC X.K S} {U W A : Type} {e a b : Expr} {te ta tb : TE} {G G1 G' : S → List Slot} {m m1 : SM S U} {m2 : SM S A} {mi : SM S Int} {arg argA : U → Arg} {argB : A → Arg} {tx txA : U → TapeV} {txB : A → TapeV} {pos apos : Pos} {r : Rp W} {k n : Nat} {g : Addr} {fd : FuncData} {nm : Str} {ps ks : List Str} {Wx : WX} {kws : List Keyword} {tk : TA} {gg : List Value → List Value → List Value}
/-- tape != tape -/
structure NeCls (K : PySem.W.Frag) (C : Addr) : Prop where
  ob : PySem.W.mroIn K C (.type "object") = some true
  ne : PySem.W.findIn K (.ref C) "__ne__" = some (some (.builtin "object.__ne__"))
def neClsB (K : PySem.W.Frag) (C : Addr) : Bool := decide (PySem.W.mroIn K C (.type "object") = some true) && eqO (PySem.W.findIn K (.ref C) "__ne__") (some (some (.builtin "object.__ne__")))
theorem neCls_ok {K : PySem.W.Frag} {C : Addr} (h : neClsB K C = true) : NeCls K C := by
  unfold neClsB at h
  rw [Bool.and_eq_true] at h
  exact ⟨of_decide_eq_true h.1, eqO_ok h.2⟩
theorem go_neTape {f : TapeV × TapeV → SM Unit Bool} {fm : U → A → SM Unit Bool} (h : GO F ta G G1 argA m1) (h2 : GO F tb G1 G' argB m2) (x1 : ∀ a s, RdS (G' s) (argA a) rTape (txA a)) (x2 : ∀ a s, RdS (G' s) (argB a) rTape (txB a)) (hf : ∀ a b, fm a b = f (txA a, txB b)) :
    GE F (tOp (rOwnNe X.K (tapeC X.K) (SpP X.K 2 (fun u : TapeV × TapeV => [.is (sh rTape) u.1, .is (sh rTape) u.2]) rBool f) (fun _ _ _ => False)) ta tb) G G' rBool (bnd m1 fun a => bnd m2 fun b => bnd (nxc (lft (fm a b))) fun k => ret (!k)) := fun T t σ s H Q h0 q => by
  refine h T t σ s H _ h0 (wp_mono (wp_bnd q) (fun a s1 q1 ts x H1 at1 av1 => ?_) fun _ _ z => z)
  refine h2 _ _ σ s1 H1 _ at1 (wp_mono (wp_bnd q1) (fun b s2 q2 us y H2 at2 av2 => ?_) fun _ _ z => z)
  have av3 : ArgV σ [argA a, argB b] (ts ++ us) [x, y] := argV_cons av1 av2
  have at3 : At F ((tmps [argA a, argB b]).reverse ++ T) ((ts ++ us).reverse ++ t) (G' s2) σ H2 := by
    rw [tmps_cons]
    simpa using at2
  obtain ⟨A1, A2, at3⟩ := at3
  obtain ⟨v1, e1, _, B1, k1, _⟩ := rdS (j := 0) at3 av3 rfl (x1 a s2)
  obtain ⟨v2, e2, _, B2, k2, _⟩ := rdS (j := 1) at3 av3 rfl (x2 b s2)
  cases e1
  cases e2
  obtain ⟨p, dx, w, ev, hs, _⟩ := tape_slt k1
  obtain ⟨p2, dx2, w2, ev2, hs2, _⟩ := tape_slt k2
  subst ev ev2
  rw [hf a b] at q2
  refine ⟨p, dx, _, p2, tapeC X.K, dx2, _, rfl, rfl, hs, hs2, by unfold PySem.W.notFirst; simp, ?_⟩
  refine run_sp at3 av3 rfl (.sh (x1 a s2) (.sh (x2 b s2) .nil)) (wp_mono (wp_lft (wp_nxc (E' := fun _ _ => False) (wp_bnd q2))) (fun b _ q3 v H' z => ?_) fun _ _ z => z)
  obtain ⟨_, _, ek, _⟩ := top_rel z
  subst ek
  exact ⟨b, rfl, q3 _ H' (z.pop.push fun _ => ⟨rfl, rfl⟩)⟩
theorem et_neTape {f : TapeV × TapeV → SM Unit Bool} {fm : U → A → SM Unit Bool} (nc : NeCls X.K (tapeC X.K)) (mt : Meth X.K (tapeC X.K) "__eq__" g) (FO : FnOk X.prog X.w X.K X.mg X.base (L2.CX X.prog X.w) k g fd ps (SpP X.K 2 (fun u : TapeV × TapeV => [.is (sh rTape) u.1, .is (sh rTape) u.2]) rBool f)) (hb : Binds X.K fd ps []) (hr : Room (k + 1) X.A)
    (h : EO X F a ta G G1 argA m1) (h2 : EO X F b tb G1 G' argB m2) (x1 : ∀ a s, RdS (G' s) (argA a) rTape (txA a)) (x2 : ∀ a s, RdS (G' s) (argB a) rTape (txB a)) (hf : ∀ a b, fm a b = f (txA a, txB b) := by intros; rfl) (hm : behindInMarks .NotEq b = false := by rfl) :
    ET X F (.Compare a [.NotEq] [b] pos) (tTest (tOp (rOwnNe X.K (tapeC X.K) (SpP X.K 2 (fun u : TapeV × TapeV => [.is (sh rTape) u.1, .is (sh rTape) u.2]) rBool f) (fun _ _ _ => False)) ta tb)) G G' (bnd m1 fun a => bnd m2 fun b => bnd (nxc (lft (fm a b))) fun k => ret (!k)) :=
  ⟨pt_cmpR (op_ownNe nc.ob nc.ne mt.at_ mt.fn ((FnOk.raw FO hb .nil).imp fun vs H Q E q => by rw [List.append_nil]; exact q) hr (passes_nx rfl)) h.pe h2.pe hm, go_test (go_neTape h.go h2.go x1 x2 hf)⟩
end
end Td
set_option Elab.async false
set_option linter.all false
set_option maxRecDepth 100000
set_option maxHeartbeats 4000000
namespace Td
open PySem PySem.Spec PyProof.Rows L2 He
section
variable {X : Cx} {S : Type} {F : FC X.K S} {N L R U W Z : Type} {G G1 G2 : S → List Slot} {GN : N → S → List Slot} {GL : L → S → List Slot} {r : Rp R} {r1 : Rp U} {r2 : Rp W} {r3 : Rp Z} {pos p0 p1 cpos apos : Pos} {rest : List Stmt} {tr : TS} {e e2 a b : Expr} {te te2 ta tb : TE} {argU : U → Arg} {argW : W → Arg} {m : SM S U} {m1 : SM S U} {m2 : SM S W}
/-- what a slot owns is shared from here on -/
theorem bx_frz {ss : List Stmt} {xa : U} {out : SM S (Fl N L R)} (i : Nat) (hG : ∀ s, (G s)[i]? = some (.is r1 xa)) (h : BX X F ss tr (fun s => (G s).set i (.is (sh r1) xa)) GN GL r out) : BX X F ss tr G GN GL r out :=
  ⟨h.ps, fun T t σ s H D h0 q => by
    obtain ⟨v, ev, at1⟩ := h0.move (hG s)
    have hi : i < (G s).length := (List.getElem?_eq_some_iff.mp (hG s)).1
    have at2 := at1.freeze.store i (g' := .un) (by rw [List.getElem?_set_self hi])
    rw [set_self ev, List.set_set] at at2
    exact h.go T t σ s H D at2 q⟩
end
end Td
set_option Elab.async false
set_option linter.all false
set_option maxRecDepth 100000
set_option maxHeartbeats 4000000
namespace Td
open PySem PySem.Spec PyProof.Rows L2 He SlX StX
section
variable {K : PySem.W.Frag} {S : Type} {F : FC K S} {T : List Slot} {t : List V} {G : List Slot} {σ : L2.St} {H : Hp}
end
section
variable {X : Cx} {S : Type} {F : FC X.K S} {Z : Type} {r3 : Rp Z} {a b : Expr} {ta tb : TE} {G G1 G2 : S → List Slot} {m1 m2 : SM S (List Z)} {pos : Pos}
theorem stl_asMS {S T : Type} (o : Option T) : Stl (asM o : SM S T) := by cases o; exact stl_stk; exact stl_ret _
end
end Td
set_option Elab.async false
set_option linter.all false
set_option maxRecDepth 100000
set_option maxHeartbeats 4000000
namespace L2
open PySem PySem.Spec PyProof.Rows
section
variable {X : Cx} {pos : Pos}
/-- x, *y = a list -/
def gStar (K : PySem.W.Frag) (t : TGs) : TG := fun v σ H Q => ∃ a x xs, v = .ref a ∧ SqL K H a (x :: xs) ∧ ∀ p, H p = none → t [x, .ref p] σ (upd H p (.lst xs)) Q
theorem pg_star {e1 e2 : Expr} {k : Nat} {t : TGs} {p2 : Pos} (hc : X.calm = true) (h : PGs X [e1, e2] t) (h1 : (assignEach [e1, .Starred e2 p2] X.env).map (·.2) = (assignEach [e1, e2] X.env).map (·.2) := by rfl)
    (hn : (assignEach [e1, .Starred e2 p2] X.env).length = 2 := by rfl) (hst : (assignEach [e1, .Starred e2 p2] X.env).findIdx? (·.1) = some 1 := by rfl) : PG X (.Tuple [e1, .Starred e2 p2] k pos) (gStar X.K t) := by
  refine ⟨fun pins s σ H v u Q I r hw => ?_⟩
  obtain ⟨a, x, xs, e1, hq, hw⟩ := hw
  subst e1
  cases r
  obtain ⟨its, rv, pl, hz⟩ := I.list hq
  cases rv with
  | @cons _ it _ its r0 rt =>
  have hl : s.heap.IsList a (it :: its).toArray := by
    obtain ⟨o, m, e, c, d, q⟩ := pl
    exact ⟨o, e, c, m, q⟩
  have hlt : a ≠ s.heap.objs.size := by obtain ⟨o, ho, _⟩ := hl; exact Nat.ne_of_lt (Heap.lt_size ho)
  have hlen := rt.length
  rw [List.length_cons] at hz
  rw [PyProof.Rows.assign_Tuple]
  refine wpAny_bind (wpAny_standAt ?_)
  unfold unpack
  rw [hn, hst, h1]
  have iterable : ∀ {R : Bool → Shared → Prop}, R false s → wpAny (model X.prog X.w) X.A (notIterableAtAll (.ref a)) R X.xe s := fun q => by
    unfold notIterableAtAll
    exact wpAny_bind (wpAny_specialOf hl.typeIs slot_list_iter.lookup (wpAny_pure q))
  refine wpAny_bind (wpAny_holding ?_)
  unfold unpackItems
  refine wpAny_bind (iterable ?_)
  rw [if_neg Bool.false_ne_true]
  refine wpAny_bind (wpAny_holding (wpAny_pyIter_list hl ?_))
  refine wpAny_bind (wpAny_holding (PySem.W.kun_draw hlt 1 0 _ _ ⟨_, Heap.get?_push_size _ rfl, rfl, rfl⟩ (hl.push _) (by rw [List.size_toArray, List.length_cons]; omega) fun h₁ hit₁ hs₁ => ?_))
  have hl₁ : h₁.IsList a (it :: its).toArray := (hl.push _).extBut hs₁.extBut hlt
  rw [Nat.zero_add] at hit₁
  obtain ⟨oi, hoi, _⟩ := id hit₁
  obtain ⟨ol, hol, _⟩ := id hl₁
  have e0 : List.take 1 (List.drop 0 (it :: its).toArray.toList) = [it] := rfl
  rw [e0]
  show wpAny _ _ (if [it].length < 1 then _ else _) _ _ _
  rw [if_neg (by simp)]
  refine wpAny_bind (wpAny_holding (PySem.W.kun_collect (s := { s with heap := h₁ }) (T := "list_iterator") (.inr (.inr (.inl rfl))) (Walks.list (A := X.A.in1) (I.ok.hd hc) s.heap.objs.size a hlt (it :: its).toArray) (fun j u st => st.1.typeIs) (k := 1) (by rw [List.size_toArray, List.length_cons]; omega) ⟨hit₁, hl₁⟩ (Heap.lt_size hoi) (Heap.lt_size hol) (fun h₂ tk hk => ?_) (by rw [List.size_toArray, List.length_cons]; omega)))
  have e1 : List.drop 1 (it :: its).toArray.toList = its := rfl
  rw [e1]
  show wpAny _ _ (if its.length < 0 then _ else _) _ _ _
  rw [if_neg (by omega)]
  show wpAny _ _ (newList (its.take (its.length - 0)) >>= fun d => pure ([it] ++ [d] ++ its.drop (its.length - 0))) _ _ _
  rw [Nat.sub_zero, List.take_length, List.drop_length]
  have I1 : Inv X pins σ H { s with heap := h₂, toks := tk } := I.kept fun b o e => hk b o (Nat.ne_of_lt (Heap.lt_size e)) (hs₁.extBut b o (Nat.ne_of_lt (Heap.lt_size e)) (Heap.get?_push_of_some _ e))
  refine wpAny_bind (wpAny_newList ?_ (by omega))
  have I2 := I1.lnew (t' := tk) rt (by omega)
  refine wpAny_pure ?_
  exact h.run pins _ σ _ _ [it, .ref h₂.objs.size] Q I2 (.cons r0 (.cons (show RelV (V.ref h₂.objs.size) (Value.ref h₂.objs.size) from rfl) .nil)) (hw _ I1.fresh)
end
section
variable {X : Cx}
/-- None among plain things and tuples -/
def nonB : V → Bool
  | .non => true
  | _ => false
def rInN (K : PySem.W.Frag) (neg : Bool) : R2 := fun x y H Q => ∃ p xs, x = .non ∧ y = .ref p ∧ SqL K H p xs ∧ (∀ z, z ∈ xs → flatV z = true ∨ ∃ a ys, z = .ref a ∧ SqT K H a ys) ∧ Q (.bl (if neg then !xs.any nonB else xs.any nonB)) H
def nonU : Value → Bool
  | .none => true
  | _ => false
theorem none_eqAt {pins : List (Addr × Obj)} {σ : St} {H : Hp} {s : Shared} (hu : X.A.units + 64 < cLine) (I : Inv X pins σ H s) : ∀ {xs : List V} {us : List Value}, Vals xs us → (∀ z, z ∈ xs → flatV z = true ∨ ∃ a ys, z = .ref a ∧ SqT X.K H a ys) → (∀ u ∈ us, SeqAt.EqAt X.A.in1 s u .none (nonU u)) ∧ us.any nonU = xs.any nonB
  | _, _, .nil, _ => ⟨fun u hu => (nomatch hu), rfl⟩
  | x :: xs, u :: us, .cons r t, f => by
    obtain ⟨h1, h2⟩ := none_eqAt hu I t fun z hz => f z (List.mem_cons_of_mem _ hz)
    have h0 : SeqAt.EqAt X.A.in1 s u .none (nonU u) ∧ nonU u = nonB x := by
      rcases f x (List.mem_cons_self ..) with fx | ⟨a, ys, e, hq⟩
      · have z := eqAt_V (A := X.A.in1) (s := s) r (show RelV .non .none from rfl) fx rfl
        cases x with
        | non => cases r; exact ⟨z, rfl⟩
        | bl b => cases r; exact ⟨z, rfl⟩
        | int b => obtain ⟨t, rfl⟩ := r; exact ⟨z, rfl⟩
        | str b => obtain ⟨t, rfl⟩ := r; exact ⟨z, rfl⟩
        | _ => exact absurd (show false = true from fx) Bool.false_ne_true
      · subst e
        cases r
        obtain ⟨its, _, ht, _⟩ := I.tuple hq
        exact ⟨SeqAt.EqAt.tuple_none ht (by show X.A.in1.units < cLine; have : X.A.in1.units ≤ X.A.units + 1 := by first | exact Nat.le_refl _ | (simp [Around.in1])
                                            omega), rfl⟩
    refine ⟨fun w hw => ?_, by rw [List.any_cons, List.any_cons, h0.2, h2]⟩
    rcases List.mem_cons.mp hw with rfl | hw
    · exact h0.1
    · exact h1 w hw
theorem op_in_none (hu : X.A.units + 64 < cLine) : OpR X (compareOp .In) (rInN X.K false) := by
  intro pins s σ H x y v u Q I rx ry h
  obtain ⟨p, xs, rfl, rfl, hq, f, q⟩ := h
  cases rx
  cases ry
  obtain ⟨its, r, pl, hz⟩ := I.list hq
  obtain ⟨h1, h2⟩ := none_eqAt hu I r f
  refine SeqAt.in_listAt nonU pl.isList (fun w hw => h1 w (by simpa using hw)) ⟨.bl _, H, I, rfl, ?_⟩
  rw [show its.toArray.any nonU = its.any nonU by simp, h2]
  exact q
theorem op_notIn_none (hu : X.A.units + 64 < cLine) : OpR X (compareOp .NotIn) (rInN X.K true) := by
  intro pins s σ H x y v u Q I rx ry h
  obtain ⟨p, xs, rfl, rfl, hq, f, q⟩ := h
  cases rx
  cases ry
  obtain ⟨its, r, pl, hz⟩ := I.list hq
  obtain ⟨h1, h2⟩ := none_eqAt hu I r f
  refine SeqAt.notIn_listAt nonU pl.isList (fun w hw => h1 w (by simpa using hw)) ⟨.bl _, H, I, rfl, ?_⟩
  rw [show its.toArray.any nonU = its.any nonU by simp, h2]
  exact q
end
end L2
set_option Elab.async false
set_option linter.all false
set_option maxRecDepth 100000
set_option maxHeartbeats 4000000
namespace Td
open PySem PySem.Spec PyProof.Rows L2 He SlX StX
def istr (i : Int) : Str := toString i
theorem all3_str {K : PySem.W.Frag} {M : List Addr} {H : Hp} : ∀ ys : List Str, All3 (rStr.rel K M H) (ys.map V.str) ys []
  | [] => .nil
  | y :: ys => .cons (B := []) ⟨rfl, rfl⟩ (all3_str ys)
theorem strs_all3 {K : PySem.W.Frag} {M : List Addr} {H : Hp} {vs : List V} {ys : List Str} {A : List Addr} (h : All3 (rStr.rel K M H) vs ys A) : vs = ys.map V.str := by
  induction h with
  | nil => rfl
  | cons h t ih => rw [h.1, ih]; rfl
section
variable {X : Cx} {S : Type} {F : FC X.K S} {U W Z : Type} {e a b v1 v2 : Expr} {es rest : List Expr} {te ta tb : TE} {ts : List TE} {G G1 G2 G3 G' : S → List Slot} {pos p0 p2 apos : Pos} {argU : U → Arg} {argW : W → Arg}
theorem ex_strI {m : SM S Int} (h : EX X F e te G G' rInt m) (hg : Gl X "str") (hm : X.mg "str" = none) (hs : PySem.W.isStarred e = false := by rfl) :
    EX X F (.Call (.Name "str" p0) [e] [] pos) (tCB (fun xs H Q => ∃ i, xs = [.int i] ∧ i.natAbs.log2 < 1920 ∧ Q (.str (toString i)) H) (tCons te tNil)) G G' rStr (bnd m fun i => bnd (grd (i.natAbs.log2 < 1920)) fun _ => ret (istr i)) :=
  ⟨pe_callTy call_str_int hg hm PyProof.Rows.boot_str (pa_cons h.pe pa_nil (star1 hs)) (he := star1 hs), go_callP1 h.go (fun _ => stl_bnd stl_grd fun _ => stl_ret _) fun a v M B H Q s k q => by
    obtain ⟨hz, q⟩ := wp_grd (wp_bnd q)
    exact ⟨a, by rw [k.1], hz, q rfl _ fun _ => ⟨rfl, rfl⟩⟩⟩
theorem ex_intS {m : SM S Str} (h : EX X F e te G G' rStr m) (hg : Gl X "int") (hm : X.mg "int" = none) (hs : PySem.W.isStarred e = false := by rfl) :
    EX X F (.Call (.Name "int" p0) [e] [] pos) (tCB (fun xs H Q => ∃ a n, xs = [.str a] ∧ PySem.intText? a = some n ∧ a.length ≤ 640 ∧ Q (.int n) H) (tCons te tNil)) G G' rInt (bnd m fun z => bnd (grd (z.length ≤ 640)) fun _ => asM (PySem.intText? z)) :=
  ⟨pe_callTy call_int_str hg hm PyProof.Rows.boot_int (pa_cons h.pe pa_nil (star1 hs)) (he := star1 hs), go_callP1 h.go (fun _ => stl_bnd stl_grd fun _ => stl_asMS _) fun a v M B H Q s k q => by
    obtain ⟨hz, q⟩ := wp_grd (wp_bnd q)
    obtain ⟨n, en, q⟩ := wp_asM q
    exact ⟨a, n, by rw [k.1], en, hz, q rfl _ fun _ => ⟨rfl, rfl⟩⟩⟩
theorem ex_lenS {m : SM S Str} (h : EX X F e te G G' rStr m) (hg : Gl X "len") (hm : X.mg "len" = none) (hs : PySem.W.isStarred e = false := by rfl) :
    EX X F (.Call (.Name "len" p0) [e] [] pos) (tCB (fun xs H Q => ∃ z, xs = [.str z] ∧ z.length ≤ sizeLine ∧ Q (.int z.length) H) (tCons te tNil)) G G' rInt (bnd m fun z => bnd (grd (z.length ≤ sizeLine)) fun _ => ret (z.length : Int)) :=
  ⟨pe_callB call_len_str hg hm PySem.boot_len (pa_cons h.pe pa_nil (star1 hs)) (he := star1 hs), go_callP1 h.go (fun _ => stl_bnd stl_grd fun _ => stl_ret _) fun a v M B H Q s k q => by
    obtain ⟨hz, q⟩ := wp_grd (wp_bnd q)
    exact ⟨a, by rw [k.1], hz, q rfl _ fun _ => ⟨rfl, rfl⟩⟩⟩
def catS {S : Type} (x y : Str) : SM S Str := bnd (grd (x.length + y.length ≤ sizeLine)) fun _ => ret (x ++ y)
theorem stl_catS {S : Type} (x y : Str) : Stl (catS x y : SM S Str) := stl_bnd stl_grd fun _ => stl_ret _
theorem vo_catS {K : PySem.W.Frag} {S : Type} : VO2 K S rStr rStr rStr (fun x y H Q => ∃ i j, x = .str i ∧ y = .str j ∧ i.length + j.length ≤ sizeLine ∧ Q (.str (i ++ j)) H) catS :=
  fun a b v w _ _ _ _ H Q s h1 h2 q => by
    obtain ⟨hc, q⟩ := wp_grd (wp_bnd q)
    exact ⟨a, b, h1.1, h2.1, hc, q rfl _ fun _ => ⟨rfl, rfl⟩⟩
def ixSM {S : Type} (z : Str) (i : Int) : SM S Str := bnd (grd (z.length ≤ sizeLine)) fun _ => bnd (asM (atI z.cps.toList i)) fun c => ret (⟨#[c]⟩ : Str)
theorem ex_ixStr {m1 : SM S Str} {mi : SM S Int} (h1 : EX X F a ta G G1 rStr m1) (h2 : EX X F b tb G1 G2 rInt mi) (hs : PlainIx b := by exact fun _ _ => rfl) :
    EX X F (.Subscript a b pos) (tOp rIxS ta tb) G G2 rStr (bnd m1 fun z => bnd mi fun i => ixSM z i) :=
  ⟨pe_ix ix_str h1.pe h2.pe hs, go_op (fun _ _ => stl_bnd stl_grd fun _ => stl_bnd (stl_asMS _) fun _ => stl_ret _) (fun z i v w _ _ _ _ H Q s k1 k2 q => by
    obtain ⟨hc, q⟩ := wp_grd (wp_bnd q)
    obtain ⟨c, ec, q⟩ := wp_asM (wp_bnd q)
    exact ⟨z, i, c, k1.1, k2.1, hc, ec, q rfl _ fun _ => ⟨rfl, rfl⟩⟩) h1.go h2.go⟩
theorem ex_slStr {lo hi : Option Expr} {tl th : TO} {m1 : SM S Str} {ml mh : SM S (Option Int)} (h1 : EX X F a ta G G1 rStr m1) (hl : EPa X F lo tl G1 G2 ml) (hh : EPa X F hi th G2 G3 mh) :
    EX X F (.Subscript a (.Slice lo hi none p2) pos) (tSl rSlS ta tl th) G G3 rStr (bnd m1 fun z => bnd ml fun l => bnd mh fun u => bnd (grd (z.length ≤ sizeLine)) fun _ => ret (cutS z l u)) :=
  ⟨pe_slice sl_str h1.pe hl.po hh.po, fun T t σ s H Q h0 q => by
    refine h1.go T t σ s H _ h0 (wp_mono (wp_bnd q) (fun z s1 q1 x H1 at1 => ?_) fun _ _ z => z)
    obtain ⟨_, _, ez, _⟩ := top_rel at1
    subst ez
    refine hl.go _ _ σ s1 H1 _ at1 (wp_mono (wp_bnd q1) (fun l s2 q2 H2 at2 => ?_) fun _ _ z => z)
    refine hh.go _ _ σ s2 H2 _ at2 (wp_mono (wp_bnd q2) (fun u s3 q3 H3 at3 => ?_) fun _ _ z => z)
    obtain ⟨hz, q4⟩ := wp_grd (wp_bnd q3)
    exact ⟨z, rfl, hz, q4 _ _ (at3.pop.push fun _ => ⟨rfl, rfl⟩)⟩⟩
/-- a sign in a text -/
def oneC (z : Str) : Option Nat := match z.cps.toList with
  | [c] => some c
  | _ => none
theorem oneC_eq {z : Str} {c : Nat} (h : oneC z = some c) : z = ⟨#[c]⟩ := by
  cases z with
  | mk cps =>
    cases cps with
    | mk l =>
      match l, h with
      | [d], h => cases h; rfl
theorem ex_inS {m1 m2 : SM S Str} (h1 : EX X F a ta G G1 rStr m1) (h2 : EX X F b tb G1 G2 rStr m2) (hm : behindInMarks .In b = false := by rfl) :
    EX X F (.Compare a [.In] [b] pos) (tOp (fun x y H Q => ∃ (c : Nat) (z : Str), x = .str ⟨#[c]⟩ ∧ y = .str z ∧ Q (.bl (decide (c ∈ z.cps.toList))) H) ta tb) G G2 rBool (bnd m1 fun x => bnd m2 fun z => bnd (asM (oneC x)) fun c => ret (decide (c ∈ z.cps.toList))) :=
  ⟨pe_cmpR op_in_sign h1.pe h2.pe hm, go_op (fun _ _ => stl_bnd (stl_asMS _) fun _ => stl_ret _) (fun z y v w _ _ _ _ H Q s k1 k2 q => by
    obtain ⟨c, ec, q⟩ := wp_asM (wp_bnd q)
    have e := oneC_eq ec
    subst e
    exact ⟨c, y, k1.1, k2.1, q rfl _ fun _ => ⟨rfl, rfl⟩⟩) h1.go h2.go⟩
/-- the parts of a written text -/
structure EJ (X : Cx) {S : Type} (F : FC X.K S) (es : List Expr) (ts : List TE) (G G' : S → List Slot) (m : Str → SM S Str) : Prop where
  pj : PJ X es ts
  go : ∀ (T : List Slot) (t : List V) (σ : L2.St) (s : S) (H : Hp) (acc : Str) (Q : Str → Hp → Prop), At F T t (G s) σ H → (m acc s).wp (fun out s' => ∀ H', At F T t (G' s') σ H' → Q out H') (XP F σ) → tJs ts acc σ H Q
theorem ej_nil : EJ X F [] [] G G (fun acc => ret acc) := ⟨.nil, fun T t σ s H acc Q h q => q H h⟩
theorem ej_cons {m1 : SM S Str} {mr : Str → SM S Str} (h : EX X F e te G G1 rStr m1) (r : EJ X F es ts G1 G2 mr) : EJ X F (e :: es) (te :: ts) G G2 (fun acc => bnd m1 fun y => bnd (grd ((acc ++ y).length ≤ sizeLine)) fun _ => mr (acc ++ y)) :=
  ⟨.cons h.pe r.pj, fun T t σ s H acc Q h0 q => by
    refine h.go T t σ s H _ h0 (wp_mono (wp_bnd q) (fun y s1 q1 v H1 at1 => ?_) fun _ _ z => z)
    obtain ⟨_, _, ez, _⟩ := top_rel at1
    obtain ⟨hz, q2⟩ := wp_grd (wp_bnd q1)
    exact ⟨y, ez, hz, r.go T t σ s1 H1 _ Q at1.pop q2⟩⟩
theorem ex_js {m : Str → SM S Str} (h : EJ X F (v1 :: v2 :: rest) ts G G' m) : EX X F (.JoinedStr (v1 :: v2 :: rest) pos) (fun σ H Q => tJs ts Str.empty σ H fun out H1 => Q (.str out) H1) G G' rStr (m Str.empty) :=
  ⟨pe_joined h.pj, fun T t σ s H Q h0 q => h.go T t σ s H _ _ h0 (wp_mono q (fun out s1 q1 H1 at1 => q1 _ H1 (at1.push fun _ => ⟨rfl, rfl⟩)) fun _ _ z => z)⟩
theorem ex_fmtI {m : SM S Int} (h : EX X F e te G G' rInt m) : EX X F (.FormattedValue e (-1) none pos) (tFmt te) G G' rStr (bnd m fun i => bnd (grd (i.natAbs.log2 < 1920)) fun _ => ret (istr i)) :=
  ⟨pe_fmt h.pe, fun T t σ s H Q h0 q => by
    refine h.go T t σ s H _ h0 (wp_mono (wp_bnd q) (fun i s1 q1 v H1 at1 => ?_) fun _ _ z => z)
    obtain ⟨_, _, ez, _⟩ := top_rel at1
    obtain ⟨hz, q2⟩ := wp_grd (wp_bnd q1)
    exact .inr ⟨i, ez, hz, q2 _ _ (at1.pop.push fun _ => ⟨rfl, rfl⟩)⟩⟩
/-- sep.join(xs) -/
def joinM {S : Type} (z : Str) (ys : List Str) : SM S Str := bnd (grd ((ys.map (·.length)).sum + ys.length * z.length ≤ 16777216)) fun _ => ret (Txt.join z ys)
theorem ex_join {m1 : SM S Str} {m2 : SM S W} {xs : W → List Str} (h1 : EX X F a ta G G1 rStr m1) (h2 : EO X F b tb G1 G2 argW m2) (hx : ∀ c s, Rdd (G2 s) (argW c) (rList rStr) (xs c)) (hs : starEach [b] X.env = [(false, eval b X.env)] := by rfl) (hbase : attributeBase a "join" X.env (eval a X.env) = eval a X.env := by rfl) (hline : (apos.endLine == pos.line) = true := by rfl) :
    EX X F (.Call (.Attribute a "join" apos) [b] [] pos) (tM1 (fun x xs H Q => ∃ a p, ∃ ys : List Str, x = .str a ∧ xs = [.ref p] ∧ (SqL X.K H p (ys.map V.str) ∨ SqT X.K H p (ys.map V.str)) ∧ (ys.map (·.length)).sum + ys.length * a.length ≤ 16777216 ∧ Q (.str (Txt.join a ys)) H) ta tb) G G2 rStr (bnd m1 fun z => bnd m2 fun c => joinM z (xs c)) :=
  ⟨pe_join h1.pe h2.pe hs hbase hline, fun T t σ s H Q h0 q => by
    refine h1.go T t σ s H _ h0 (wp_mono (wp_bnd q) (fun z s1 q1 v H1 at1 => ?_) fun _ _ z => z)
    obtain ⟨_, _, ez, _⟩ := top_rel at1
    refine ⟨⟨z, ez⟩, ?_⟩
    refine h2.go _ _ σ s1 H1 _ at1 (wp_mono (wp_bnd q1) (fun c s2 q2 ts w H2 at2 av => ?_) fun _ _ z => z)
    obtain ⟨A1, A2, at2⟩ := at2
    obtain ⟨v', B, e1, p, vs, A, ev, hp, hA, eB⟩ := rddM (j := 0) at2 av rfl (hx c s2)
    cases e1
    obtain ⟨hz, q3⟩ := wp_grd (wp_bnd q2)
    have es := strs_all3 hA
    rw [es] at hp
    exact ⟨z, p, xs c, ez, by rw [ev], .inl (SqL.of hp), hz, q3 _ _ ((At.drops ⟨A1, A2, at2⟩ av).pop.push fun _ => ⟨rfl, rfl⟩)⟩⟩
/-- x.split(sep): a new list -/
def splitM {S : Type} (z b : Str) : SM S (List Str) := bnd (grd ((b.length == 0) = false ∧ z.length + 2 ≤ sizeLine)) fun _ => ret (Txt.split z b)
theorem ex_split {m1 m2 : SM S Str} (h1 : EX X F a ta G G1 rStr m1) (h2 : EX X F b tb G1 G2 rStr m2) (hs : starEach [b] X.env = [(false, eval b X.env)] := by rfl) (hbase : attributeBase a "split" X.env (eval a X.env) = eval a X.env := by rfl) (hline : (apos.endLine == pos.line) = true := by rfl) :
    EX X F (.Call (.Attribute a "split" apos) [b] [] pos) (tM1 (fun x xs H Q => ∃ a b, x = .str a ∧ xs = [.str b] ∧ (b.length == 0) = false ∧ a.length + 2 ≤ sizeLine ∧ rNewStrs (Txt.split a b) H Q) ta tb) G G2 (rList rStr) (bnd m1 fun z => bnd m2 fun c => splitM z c) :=
  ⟨pe_split h1.pe h2.pe hs hbase hline, fun T t σ s H Q h0 q => by
    refine h1.go T t σ s H _ h0 (wp_mono (wp_bnd q) (fun z s1 q1 v H1 at1 => ?_) fun _ _ z => z)
    obtain ⟨_, _, ez, _⟩ := top_rel at1
    refine ⟨⟨z, ez⟩, ?_⟩
    refine h2.go _ _ σ s1 H1 _ at1 (wp_mono (wp_bnd q1) (fun c s2 q2 w H2 at2 => ?_) fun _ _ z => z)
    obtain ⟨_, _, ec, _⟩ := top_rel at2
    obtain ⟨⟨hb, hz⟩, q3⟩ := wp_grd (wp_bnd q2)
    refine ⟨z, c, ez, by rw [ec], hb, hz, fun p hp => q3 _ _ ?_⟩
    obtain ⟨A1, A2, at3⟩ := at2.pop.pop
    have z1 : AtP F ((tmps []).reverse ++ T) (([] : List V).reverse ++ t) (G2 s2) σ H2 A1 A2 := at3
    exact z1.newL .nil (all3_str _) hp⟩
/-- for c in text -/
def signs (z : Str) : List Str := z.cps.toList.map fun c => ⟨#[c]⟩
theorem src_str {z : Str} : Src F (fun _ => True) (Its z) [] [] rStr (signs z) where
  len := rfl
  go := fun _ _ _ hi => by
    unfold signs at hi
    rw [List.length_map] at hi
    exact hi
  stop := fun _ _ _ hi => by
    unfold signs at hi
    rw [List.length_map] at hi
    exact hi
  yld := by
    intro i a x T1 t1 T t G σ H H' _ e h hy ha
    obtain ⟨rfl, c, ec, rfl⟩ := hy
    unfold signs at ha
    rw [List.getElem?_map, Array.getElem?_toList, ec] at ha
    cases ha
    exact At.push h fun _ => ⟨rfl, rfl⟩
theorem ei_str {tg : Expr} {m : SM S Str} (h : EX X F e te G G' rStr m) : EI X F tg e (iStr te) G G' (fun _ => True) rStr (bnd m fun z => ret (signs z)) :=
  ⟨pi_str h.pe, fun T t σ s H R h0 q => h.go T t σ s H _ h0 (wp_mono (wp_bnd q) (fun z s1 q1 v H1 at1 => by
    obtain ⟨_, _, k, _⟩ := top_rel at1
    exact ⟨z, by rw [k], q1 _ [] [] H1 src_str at1.pop⟩) fun _ _ z => z)⟩
end
end Td
set_option Elab.async false
set_option linter.all false
set_option maxRecDepth 100000
set_option maxHeartbeats 4000000
namespace Td
open PySem PySem.Spec PyProof.Rows L2 He SlX StX
def allS {T : Type} : List (Option T) → Option (List T)
  | [] => some []
  | none :: _ => none
  | some a :: xs => match allS xs with
    | some ys => some (a :: ys)
    | none => none
theorem allS_eq {T : Type} : ∀ {xs : List (Option T)} {ys : List T}, allS xs = some ys → xs = ys.map some
  | [], ys, h => by cases h; rfl
  | none :: _, ys, h => by cases h
  | some a :: xs, ys, h => by
    unfold allS at h
    cases e : allS xs with
    | none => rw [e] at h; cases h
    | some zs => rw [e] at h; cases h; rw [allS_eq e]; rfl
theorem all3_some {T : Type} {r : Rp T} {K : PySem.W.Frag} {M : List Addr} {H : Hp} : ∀ {ys : List T} {vs : List V} {A : List Addr}, All3 ((rOpt r).rel K M H) vs (ys.map some) A ↔ All3 (r.rel K M H) vs ys A
  | [], vs, A => ⟨fun h => by cases h; exact .nil, fun h => by cases h; exact .nil⟩
  | y :: ys, vs, A => ⟨fun h => by cases h with
      | cons h t => exact .cons h (all3_some.mp t), fun h => by cases h with
      | cons h t => exact .cons h (all3_some.mpr t)⟩
theorem list_some {T : Type} {r : Rp T} {K : PySem.W.Frag} {M : List Addr} {H : Hp} {v : V} {ys : List T} {B : List Addr} : (rList (rOpt r)).rel K M H v (ys.map some) B ↔ (rList r).rel K M H v ys B :=
  ⟨fun ⟨p, vs, A, e, hp, hA, eB⟩ => ⟨p, vs, A, e, hp, all3_some.mp hA, eB⟩, fun ⟨p, vs, A, e, hp, hA, eB⟩ => ⟨p, vs, A, e, hp, all3_some.mpr hA, eB⟩⟩
section
variable {X : Cx} {S : Type} {F : FC X.K S} {U W Z : Type} {r : Rp U} {q : Rp W} {e a b : Expr} {te ta tb : TE} {G G1 G2 G' : S → List Slot} {pos p0 : Pos} {argW : W → Arg}
theorem ex_allS {m : SM S (List (Option U))} (h : EX X F e te G G' (rList (rOpt r)) m) : EX X F e te G G' (rList r) (bnd m fun xs => asM (allS xs)) :=
  ex_asM h fun {K M H v d B ds} hr e => by
    rw [allS_eq e] at hr
    exact list_some.mp hr
theorem ex_allSh {m : SM S (List (Option U))} (h : EX X F e te G G' (sh (rList (rOpt r))) m) : EX X F e te G G' (sh (rList r)) (bnd m fun xs => asM (allS xs)) :=
  ex_asM h fun {K M H v d B ds} ⟨eB, A, hr, hA⟩ e => by
    rw [allS_eq e] at hr
    exact ⟨eB, A, list_some.mp hr, hA⟩
/-- a slot's list, all there, while an expression is worked out -/
theorem At.nrw {T : List Slot} {t : List V} {Gs : List Slot} {σ : L2.St} {H : Hp} {i : Nat} {g g' : Slot} (h : At F T t Gs σ H) (e : Gs[i]? = some g) (k : ∀ {M H x B}, Slot.ok X.K M H g x B → Slot.ok X.K M H g' x B) : At F T t (Gs.set i g') σ H := by
  obtain ⟨A1, A2, h⟩ := h
  obtain ⟨x, B, P1, P2, e1, hg, eA, back⟩ := h.loc.at_ e
  have z := back _ H g' x B (fun h _ => h) (k hg)
  rw [set_self e1] at z
  exact ⟨A1, A2, h.tmp, by rw [eA]; rw [eA] at z; exact z, h.good⟩
theorem slot_some {K : PySem.W.Frag} {M : List Addr} {H : Hp} {x : Option V} {B : List Addr} {ys : List U} : Slot.ok K M H (.is (rList (rOpt r)) (ys.map some)) x B ↔ Slot.ok K M H (.is (rList r) ys) x B :=
  ⟨fun ⟨v, e, h⟩ => ⟨v, e, list_some.mp h⟩, fun ⟨v, e, h⟩ => ⟨v, e, list_some.mpr h⟩⟩
theorem slot_someS {K : PySem.W.Frag} {M : List Addr} {H : Hp} {x : Option V} {B : List Addr} {ys : List U} : Slot.ok K M H (.is (sh (rList (rOpt r))) (ys.map some)) x B ↔ Slot.ok K M H (.is (sh (rList r)) ys) x B :=
  ⟨fun ⟨v, e, eB, A, h, hA⟩ => ⟨v, e, eB, A, list_some.mp h, hA⟩, fun ⟨v, e, eB, A, h, hA⟩ => ⟨v, e, eB, A, list_some.mpr h, hA⟩⟩
theorem et_nrw {tt : TT} {m : List U → SM S Bool} {xs : List (Option U)} (i : Nat) (h0 : ∀ s, (G s)[i]? = some (.is (rList (rOpt r)) xs)) (h1 : ∀ s, (G' s)[i]? = some (.is (rList (rOpt r)) xs)) (h : ∀ ys, ET X F e tt (fun s => (G s).set i (.is (rList r) ys)) (fun s => (G' s).set i (.is (rList r) ys)) (m ys)) :
    ET X F e tt G G' (bnd (asM (allS xs)) m) :=
  ⟨(h []).pt, fun T t σ s H Q hA qq => by
    obtain ⟨ys, ey, q1⟩ := wp_asM (wp_bnd qq)
    have ex := allS_eq ey
    subst ex
    have at1 := hA.nrw (h0 s) (g' := .is (rList r) ys) slot_some.mp
    refine (h ys).go T t σ s H Q at1 (wp_mono q1 (fun a s' q2 H' at2 => q2 H' ?_) fun e s' q2 d H' at2 => q2 d H' at2)
    have hi := (List.getElem?_eq_some_iff.mp (h1 s')).1
    have z := at2.nrw (i := i) (g := .is (rList r) ys) (by rw [List.getElem?_set_self hi]) (g' := .is (rList (rOpt r)) (ys.map some)) slot_some.mpr
    rw [List.set_set, set_self (h1 s')] at z
    exact z⟩
/-- a tuple of two that are there -/
def pairO {T : Type} : List (Option T) → Option (T × T)
  | [some a, some b] => some (a, b)
  | _ => none
theorem ex_tupO {m : SM S (List (Option U))} (h : EX X F e te G G' (rTupL (rOpt r)) m) : EX X F e te G G' (rPair r r) (bnd m fun xs => asM (pairO xs)) :=
  ex_asM h fun {K M H v d B ds} hr e => by
    obtain ⟨p, vs, ev, hT, hA⟩ := hr
    match d, e with
    | [some a, some b], e =>
      cases e
      cases hA with
      | @cons v1 _ B1 _ _ A1 h1 t1 =>
        cases t1 with
        | @cons v2 _ B2 _ _ A2 h2 t2 =>
          cases t2
          exact ⟨p, v1, v2, B1, B2, ev, hT, h1, h2, by rw [List.append_nil]⟩
/-- None in a list of options -/
def Nni {T : Type} (r : Rp T) : Prop := ∀ {K M H v a B}, r.rel K M H v a B → nonB v = false ∧ (flatV v = true ∨ ∃ p ys, v = .ref p ∧ SqT K H p ys)
theorem nni_int : Nni rInt := fun h => by obtain ⟨e, _⟩ := h; subst e; exact ⟨rfl, .inl rfl⟩
theorem nni_pair : Nni (rPair r q) := fun h => by
  obtain ⟨p, v1, v2, B1, B2, e, hT, _⟩ := h
  subst e
  exact ⟨rfl, .inr ⟨p, _, rfl, hT⟩⟩
theorem none_all {K : PySem.W.Frag} {M : List Addr} {H : Hp} (nn : Nni r) {vs : List V} {xs : List (Option U)} {A : List Addr} (h : All3 ((rOpt r).rel K M H) vs xs A) : (∀ z, z ∈ vs → flatV z = true ∨ ∃ p ys, z = .ref p ∧ SqT K H p ys) ∧ vs.any nonB = xs.any Option.isNone := by
  induction h with
  | nil => exact ⟨fun z hz => (nomatch hz), rfl⟩
  | @cons v a B vs as A h t ih =>
    have h0 : (flatV v = true ∨ ∃ p ys, v = .ref p ∧ SqT K H p ys) ∧ nonB v = a.isNone := by
      cases a with
      | none =>
        obtain ⟨e, _⟩ := h
        subst e
        exact ⟨.inl rfl, rfl⟩
      | some a =>
        obtain ⟨h1, h2⟩ := nn h
        exact ⟨h2, h1⟩
    refine ⟨fun z hz => ?_, by rw [List.any_cons, List.any_cons, h0.2, ih.2]⟩
    rcases List.mem_cons.mp hz with rfl | hz
    · exact h0.1
    · exact ih.1 z hz
theorem go_inN {neg : Bool} {m : SM S W} {xs : W → List (Option U)} (nn : Nni r) (h2 : GO F tb G G' argW m) (hx : ∀ c s, Rdd (G' s) (argW c) (rList (rOpt r)) (xs c)) :
    GE F (tOp (rInN X.K neg) (tC .non) tb) G G' rBool (bnd m fun c => ret (if neg then !(xs c).any Option.isNone else (xs c).any Option.isNone)) := by
  intro T t σ s H Q h0 q
  refine h2 T t σ s H _ h0 (wp_mono (wp_bnd q) (fun c s1 q1 ts v H1 at1 av => ?_) fun _ _ z => z)
  obtain ⟨A1, A2, at2⟩ := at1
  obtain ⟨v', B, e1, p, vs, A, ev, hp, hA, eB⟩ := rddM (j := 0) at2 av rfl (hx c s1)
  cases e1
  obtain ⟨f1, f2⟩ := none_all nn hA
  refine ⟨p, vs, rfl, ev, SqL.of hp, f1, ?_⟩
  rw [f2]
  exact q1 _ _ ((At.drops ⟨A1, A2, at2⟩ av).push fun _ => ⟨rfl, rfl⟩)
theorem et_inN {j : Nat} {m : SM S W} {xs : W → List (Option U)} (hu : X.A.units + 64 < cLine) (nn : Nni r) (h2 : EO X F b tb G G' argW m) (hx : ∀ c s, Rdd (G' s) (argW c) (rList (rOpt r)) (xs c)) (hm : behindInMarks .In b = false := by with_unfolding_all rfl) :
    ET X F (.Compare (.Constant .none j p0) [.In] [b] pos) (tTest (tOp (rInN X.K false) (tC .non) tb)) G G' (bnd m fun c => ret ((xs c).any Option.isNone)) := ⟨pt_cmpR (op_in_none hu) pe_non h2.pe hm, go_test (go_inN nn h2.go hx)⟩
theorem et_ninN {j : Nat} {m : SM S W} {xs : W → List (Option U)} (hu : X.A.units + 64 < cLine) (nn : Nni r) (h2 : EO X F b tb G G' argW m) (hx : ∀ c s, Rdd (G' s) (argW c) (rList (rOpt r)) (xs c)) (hm : behindInMarks .NotIn b = false := by with_unfolding_all rfl) :
    ET X F (.Compare (.Constant .none j p0) [.NotIn] [b] pos) (tTest (tOp (rInN X.K true) (tC .non) tb)) G G' (bnd m fun c => ret (!(xs c).any Option.isNone)) := ⟨pt_cmpR (op_notIn_none hu) pe_non h2.pe hm, go_test (go_inN nn h2.go hx)⟩
end
section
variable {X : Cx} {S : Type} {F : FC X.K S} {N L R : Type} {G G1 : S → List Slot} {GN : N → S → List Slot} {GL : L → S → List Slot} {r : Rp R} {rest : List Stmt} {tr : TS} {e : Expr} {te : TE} {pos p0 p1 p2 p3 : Pos} {k : Nat}
def unconsM {T : Type} : List T → SM S (T × List T)
  | x :: xs => ret (x, xs)
  | [] => stk
/-- x, *y = a list of texts -/
theorem bx_star {me : SM S (List Str)} {out : Str → List Str → SM S (Fl N L R)} {x y : Str} (i j : Nat) (hij : i ≠ j) {gs gs' : S → Slot} (hc : X.calm = true) (hNd : X.N.Nodup) (h : EX X F e te G G1 (rList rStr) me) (he : ∀ s, (G1 s)[i]? = some (gs s)) (he2 : ∀ s, (G1 s)[j]? = some (gs' s))
    (hb : ∀ z zs, BX X F rest tr (fun s => ((G1 s).set i (.is rStr z)).set j (.is (rList rStr) zs)) GN GL r (out z zs))
    (hi : X.N[i]? = some x := by rfl) (hx : Loc X.env.scope x := by first | exact Or.inl rfl | exact Or.inr rfl) (hfx : X.fn x = true ∨ X.env.scope.names.lookup x = some .local := by first | exact .inl rfl | exact .inr rfl)
    (hj : X.N[j]? = some y := by rfl) (hy : Loc X.env.scope y := by first | exact Or.inl rfl | exact Or.inr rfl) (hfy : X.fn y = true ∨ X.env.scope.names.lookup y = some .local := by first | exact .inl rfl | exact .inr rfl)
    (hs : swapsWithSole [.Tuple [.Name x p0, .Starred (.Name y p1) p2] k p3] e pos.line X.env = pure false := by rfl) (hw : swappedStores [.Tuple [.Name x p0, .Starred (.Name y p1) p2] k p3] e X.env = pure none := by rfl)
    (h1 : (assignEach [.Tuple [.Name x p0, .Starred (.Name y p1) p2] k p3] X.env).map (·.2) = [assign (.Tuple [.Name x p0, .Starred (.Name y p1) p2] k p3) X.env] := by rfl)
    (hs1 : (assignEach [.Name x p0, .Name y p1] X.env).map (·.2) = assign (.Name x p0) X.env :: (assignEach [.Name y p1] X.env).map (·.2) := by rfl) (hs2 : (assignEach [.Name y p1] X.env).map (·.2) = assign (.Name y p1) X.env :: (assignEach [] X.env).map (·.2) := by rfl)
    (ha1 : (assignEach [.Name x p0, .Starred (.Name y p1) p2] X.env).map (·.2) = (assignEach [.Name x p0, .Name y p1] X.env).map (·.2) := by rfl) (hn : (assignEach [.Name x p0, .Starred (.Name y p1) p2] X.env).length = 2 := by rfl) (hst : (assignEach [.Name x p0, .Starred (.Name y p1) p2] X.env).findIdx? (·.1) = some 1 := by rfl) :
    BX X F (.Assign [.Tuple [.Name x p0, .Starred (.Name y p1) p2] k p3] e pos :: rest) (tSeq (tAsg te (gStar X.K (gCons (gName i) (gCons (gName j) gNil)))) tr) G GN GL r (bnd me fun xs => bnd (unconsM xs) fun p => out p.1 p.2) :=
  ⟨pss_cons (ps_asg h.pe (pg_star hc (pgs_cons (pg_name hNd hi hx hfx) (pgs_cons (pg_name hNd hj hy hfy) pgs_nil hs2) hs1) ha1 hn hst) hs hw h1) (hb default []).ps, fun T t σ s H D h0 q => by
    refine h.go T t σ s H _ h0 (wp_mono (wp_bnd q) (fun xs s1 q1 v H1 at1 => ?_) fun e s z => z σ)
    cases xs with
    | nil => exact (wp_bnd q1).elim
    | cons z zs =>
      have q2 : (out z zs s1).wp (FlP F T t GN GL r D) (XA F) := wp_bnd q1
      obtain ⟨_, _, p, vs, A, ev, hp, hA, _⟩ := top_rel at1
      have es := strs_all3 hA
      subst ev es
      refine ⟨p, .str z, zs.map V.str, rfl, SqL.of hp, fun p' hp' => ?_⟩
      refine ⟨.str z, [.ref p'], rfl, .ref p', [], rfl, rfl, ?_⟩
      have at2 := (at1.pop.push (r := rStr) (a := z) (v := .str z) fun _ => ⟨rfl, rfl⟩).store i (he s1)
      obtain ⟨A1, A2, at3⟩ := at2
      have z1 : AtP F ((tmps []).reverse ++ T) (([] : List V).reverse ++ t) ((G1 s1).set i (.is rStr z)) (σ.set i (some (.str z))) H1 A1 A2 := at3
      have at4 := (z1.newL .nil (all3_str zs) hp').store j (by rw [List.getElem?_set_ne hij]; exact he2 s1)
      exact (hb z zs).go T t _ s1 _ D at4 q2⟩
end
end Td
set_option Elab.async false
set_option linter.all false
set_option maxRecDepth 100000
set_option maxHeartbeats 4000000
namespace Td
open PySem PySem.Spec PyProof.Rows L2 He SlX StX
def WF : WX := fun _ _ _ _ => False
theorem takes_nox {X : Cx} : L2.Takes X.nox WF := fun u s' ⟨a, B, sI, pins, σ, H, cls, d, e, I, nb, up, sky, na, os, ag, w⟩ => w
section
variable {X : Cx} {S : Type} {F : FC X.K S} {N N' L R : Type} {G : S → List Slot} {GN : N → S → List Slot} {GJ : N' → S → List Slot} {GL : L → S → List Slot} {r : Rp R} {rest body : List Stmt} {tb tr : TS} {pos : Pos} {h₀ : ExceptHandler} {hs : List ExceptHandler}
/-- a try whose body raises nothing -/
theorem bx_thru {m : SM S (Fl N' L R)} {out : N' → SM S (Fl N L R)} (h : ∀ F' : FC X.nox.K S, F'.io = F.io → F'.W = WF → L2.Takes X.nox WF → BX X.nox F' body tb G GJ GL r m) (hr : ∀ n, BX X F rest tr (GJ n) GN GL r (out n)) (ha : Inhabited N') :
    BX X F (.Try body (h₀ :: hs) [] [] pos :: rest) (tSeq tb tr) G GN GL r (thn_ (nxc m) out) := by
  obtain ⟨F', eF⟩ : ∃ F' : FC X.nox.K S, F' = ⟨F.H0, F.I, F.M0, F.io, WF⟩ := ⟨_, rfl⟩
  have hB := h F' (by rw [eF]) (by rw [eF]) takes_nox
  refine ⟨pss_cons (ps_try_thru0 hB.ps) (hr ha.default).ps, fun T t σ s H D h0 q => ?_⟩
  have h0' : At F' T t (G s) σ H := h0.re (by rw [eF]) (by rw [eF]) (by rw [eF])
  have back : ∀ {T t G σ H}, At F' T t G σ H → At F T t G σ H := fun z => z.re (by rw [eF]) (by rw [eF]) (by rw [eF])
  refine hB.go T t σ s H { D with nx := tr D } h0' ?_
  refine wp_mono (wp_nxc (E' := XA F') (wp_bnd q)) (fun fl s1 q1 => ?_) fun _ _ z => z
  cases fl with
  | nx n => exact fun σ' H' z => (hr n).go T t σ' s1 H' D (back z) q1
  | bk l => exact fun σ' H' z => q1 σ' H' (back z)
  | ct l => exact fun σ' H' z => q1 σ' H' (back z)
  | rt b => exact fun v σ' H' z => q1 v σ' H' (by
      have e : F'.io = F.io := by rw [eF]
      rw [e] at z
      exact back z)
end
end Td
set_option Elab.async false
set_option linter.all false
set_option maxRecDepth 100000
set_option maxHeartbeats 4000000
namespace Td
open PySem PySem.Spec PyProof.Rows L2 He SlX StX
theorem set5 {T : Type _} {l0 : List T} {i j l m o : Nat} {a b c d e : T} (hij : i ≠ j) (hil : i ≠ l) (him : i ≠ m) (hio : i ≠ o) (hjl : j ≠ l) (hjm : j ≠ m) (hjo : j ≠ o) (hlm : l ≠ m) (hlo : l ≠ o) (hmo : m ≠ o) : (((((l0.set o e).set m d).set l c).set j b).set i a) = (((((l0.set i a).set j b).set l c).set m d).set o e) := by
  rw [List.set_comm _ _ hij, List.set_comm _ _ hil, List.set_comm _ _ him, List.set_comm _ _ hio, List.set_comm _ _ hjl, List.set_comm _ _ hjm, List.set_comm _ _ hjo, List.set_comm _ _ hlm, List.set_comm _ _ hlo, List.set_comm _ _ hmo]
section
variable {X : Cx} {S : Type} {F : FC X.K S} {N L R U W Z Y V5 : Type} {G G' G1 G2 G3 G4 G5 : S → List Slot} {GN : N → S → List Slot} {GL : L → S → List Slot} {r : Rp R} {r1 : Rp U} {r2 : Rp W} {r3 : Rp Z} {r4 : Rp Y} {r5 : Rp V5} {pos : Pos} {rest : List Stmt} {tr : TS}
/-- x, y, z, u, k = five values -/
theorem bx_par5 {a b c d e : Expr} {ta tb tc td te : TE} {m1 : SM S U} {m2 : SM S W} {m3 : SM S Z} {m4 : SM S Y} {m5 : SM S V5} {out : U → W → Z → Y → V5 → SM S (Fl N L R)} {x y z u k : Str} {px py pz pu pk pt pt2 : Pos} {kt k2 : Nat} (i j l m o : Nat) {gs1 gs2 gs3 gs4 gs5 : S → Slot} (hN : X.N.Nodup) (hc : X.calm = true) (hij : i ≠ j) (hil : i ≠ l) (him : i ≠ m) (hio : i ≠ o) (hjl : j ≠ l) (hjm : j ≠ m) (hjo : j ≠ o) (hlm : l ≠ m) (hlo : l ≠ o) (hmo : m ≠ o)
    (h1 : EX X F a ta G G1 r1 m1) (h2 : EX X F b tb G1 G2 r2 m2) (h3 : EX X F c tc G2 G3 r3 m3) (h4 : EX X F d td G3 G4 r4 m4) (h5 : EX X F e te G4 G5 r5 m5)
    (hb : ∀ a b c d e, BX X F rest tr (fun s => ((((((G5 s).set o (.is r5 e)).set m (.is r4 d)).set l (.is r3 c)).set j (.is r2 b)).set i (.is r1 a))) GN GL r (out a b c d e)) (ha1 : Inhabited U) (ha2 : Inhabited W) (ha3 : Inhabited Z) (ha4 : Inhabited Y) (ha5 : Inhabited V5) (he1 : ∀ s, (G5 s)[i]? = some (gs1 s)) (he2 : ∀ s, (G5 s)[j]? = some (gs2 s)) (he3 : ∀ s, (G5 s)[l]? = some (gs3 s)) (he4 : ∀ s, (G5 s)[m]? = some (gs4 s)) (he5 : ∀ s, (G5 s)[o]? = some (gs5 s))
    (hw : swappedStores [.Tuple [.Name x px, .Name y py, .Name z pz, .Name u pu, .Name k pk] kt pt] (.Tuple [a, b, c, d, e] k2 pt2) X.env = pure none := by rfl) (hs : swapsWithSole [.Tuple [.Name x px, .Name y py, .Name z pz, .Name u pu, .Name k pk] kt pt] (.Tuple [a, b, c, d, e] k2 pt2) pos.line X.env = pure false := by rfl)
    (hasg : (assignEach [.Tuple [.Name x px, .Name y py, .Name z pz, .Name u pu, .Name k pk] kt pt] X.env).map (·.2) = [assign (.Tuple [.Name x px, .Name y py, .Name z pz, .Name u pu, .Name k pk] kt pt) X.env] := by rfl)
    (hnx : X.N[i]? = some x := by rfl) (hny : X.N[j]? = some y := by rfl) (hnz : X.N[l]? = some z := by rfl) (hnu : X.N[m]? = some u := by rfl) (hnk : X.N[o]? = some k := by rfl)
    (hlx : Loc X.env.scope x := by first | exact Or.inl rfl | exact Or.inr rfl) (hly : Loc X.env.scope y := by first | exact Or.inl rfl | exact Or.inr rfl) (hlz : Loc X.env.scope z := by first | exact Or.inl rfl | exact Or.inr rfl) (hlu : Loc X.env.scope u := by first | exact Or.inl rfl | exact Or.inr rfl) (hlk : Loc X.env.scope k := by first | exact Or.inl rfl | exact Or.inr rfl)
    (hfx : X.fn x = true ∨ X.env.scope.names.lookup x = some .local := by first | exact .inl rfl | exact .inr rfl) (hfy : X.fn y = true ∨ X.env.scope.names.lookup y = some .local := by first | exact .inl rfl | exact .inr rfl) (hfz : X.fn z = true ∨ X.env.scope.names.lookup z = some .local := by first | exact .inl rfl | exact .inr rfl) (hfu : X.fn u = true ∨ X.env.scope.names.lookup u = some .local := by first | exact .inl rfl | exact .inr rfl) (hfk : X.fn k = true ∨ X.env.scope.names.lookup k = some .local := by first | exact .inl rfl | exact .inr rfl)
    (hsa : PySem.W.isStarred a = false := by rfl) (hsb : PySem.W.isStarred b = false := by rfl) (hsc : PySem.W.isStarred c = false := by rfl) (hsd : PySem.W.isStarred d = false := by rfl) (hse : PySem.W.isStarred e = false := by rfl)
    (hs1 : (assignEach [.Name x px, .Name y py, .Name z pz, .Name u pu, .Name k pk] X.env).map (·.2) = assign (.Name x px) X.env :: (assignEach [.Name y py, .Name z pz, .Name u pu, .Name k pk] X.env).map (·.2) := by rfl)
    (hs2 : (assignEach [.Name y py, .Name z pz, .Name u pu, .Name k pk] X.env).map (·.2) = assign (.Name y py) X.env :: (assignEach [.Name z pz, .Name u pu, .Name k pk] X.env).map (·.2) := by rfl)
    (hs3 : (assignEach [.Name z pz, .Name u pu, .Name k pk] X.env).map (·.2) = assign (.Name z pz) X.env :: (assignEach [.Name u pu, .Name k pk] X.env).map (·.2) := by rfl)
    (hs4 : (assignEach [.Name u pu, .Name k pk] X.env).map (·.2) = assign (.Name u pu) X.env :: (assignEach [.Name k pk] X.env).map (·.2) := by rfl)
    (hs5 : (assignEach [.Name k pk] X.env).map (·.2) = assign (.Name k pk) X.env :: (assignEach [] X.env).map (·.2) := by rfl)
    (hn : (assignEach [.Name x px, .Name y py, .Name z pz, .Name u pu, .Name k pk] X.env).length = 5 := by rfl) (hst : (assignEach [.Name x px, .Name y py, .Name z pz, .Name u pu, .Name k pk] X.env).findIdx? (·.1) = none := by rfl) :
    BX X F (.Assign [.Tuple [.Name x px, .Name y py, .Name z pz, .Name u pu, .Name k pk] kt pt] (.Tuple [a, b, c, d, e] k2 pt2) pos :: rest) (tSeq (tAsg (tTup (tCons ta (tCons tb (tCons tc (tCons td (tCons te tNil)))))) (gTup X.K 5 (gCons (gName i) (gCons (gName j) (gCons (gName l) (gCons (gName m) (gCons (gName o) gNil))))))) tr) G GN GL r (bnd m1 fun a => bnd m2 fun b => bnd m3 fun c => bnd m4 fun d => bnd m5 fun e => out a b c d e) :=
  ⟨pss_cons (ps_asg (pe_tup (pa_cons h1.pe (pa_cons h2.pe (pa_cons h3.pe (pa_cons h4.pe (pa_cons h5.pe pa_nil (star1 hse)) (star1 hsd)) (star1 hsc)) (star1 hsb)) (star1 hsa))) (pg_tup hc (pgs_cons (pg_name hN hnx hlx hfx) (pgs_cons (pg_name hN hny hly hfy) (pgs_cons (pg_name hN hnz hlz hfz) (pgs_cons (pg_name hN hnu hlu hfu) (pgs_cons (pg_name hN hnk hlk hfk) pgs_nil hs5) hs4) hs3) hs2) hs1) hn hst) hs hw hasg) (hb ha1.default ha2.default ha3.default ha4.default ha5.default).ps, fun T t σ s H D h0 q => by
    refine h1.go T t σ s H _ h0 (wp_mono (wp_bnd q) (fun a s1 q1 v1 H1 at1 => ?_) fun e s z => z σ)
    refine h2.go _ _ σ s1 H1 _ at1 (wp_mono (wp_bnd q1) (fun b s2 q2 v2 H2 at2 => ?_) fun e s z => z σ)
    refine h3.go _ _ σ s2 H2 _ at2 (wp_mono (wp_bnd q2) (fun c s3 q3 v3 H3 at3 => ?_) fun e s z => z σ)
    refine h4.go _ _ σ s3 H3 _ at3 (wp_mono (wp_bnd q3) (fun d s4 q4 v4 H4 at4 => ?_) fun e s z => z σ)
    refine h5.go _ _ σ s4 H4 _ at4 (wp_mono (wp_bnd q4) (fun e s5 q5 v5 H5 at5 => ?_) fun e s z => z σ)
    refine ⟨by show 5 ≤ sizeLine; decide, fun p hp => ?_⟩
    refine ⟨p, [v1, v2, v3, v4, v5], rfl, SqT.of upd_same, rfl, v1, [v2, v3, v4, v5], rfl, v2, [v3, v4, v5], rfl, v3, [v4, v5], rfl, v4, [v5], rfl, v5, [], rfl, rfl, ?_⟩
    have at6 := at5.heap (H' := upd H5 p (.tup [v1, v2, v3, v4, v5])) fun x o e => by rw [upd_ne (ne_of_none e hp)]; exact e
    have z := (hb a b c d e).go T t _ s5 _ D (((((at6.store o (he5 s5)).store m (by rw [List.getElem?_set_ne hmo.symm]; exact he4 s5)).store l (by rw [List.getElem?_set_ne hlm.symm, List.getElem?_set_ne hlo.symm]; exact he3 s5)).store j (by rw [List.getElem?_set_ne hjl.symm, List.getElem?_set_ne hjm.symm, List.getElem?_set_ne hjo.symm]; exact he2 s5)).store i (by rw [List.getElem?_set_ne hij.symm, List.getElem?_set_ne hil.symm, List.getElem?_set_ne him.symm, List.getElem?_set_ne hio.symm]; exact he1 s5)) q5
    rw [set5 hij hil him hio hjl hjm hjo hlm hlo hmo] at z
    exact z⟩
end
section
variable {X : Cx} {S : Type} {F : FC X.K S} {U W : Type} {G G' : S → List Slot} {r : Rp U} {q : Rp W} {e : Expr} {te : TE}
/-- a module's constants -/
theorem ex_gInt {x : Str} {i : Int} {pos : Pos} (hg : Gl X x) (hm : ∃ t, X.mg x = some (.int i t)) (hd : (x == ("__debug__" : Str)) = false := by decide) : EX X F (.Name x pos) (tC (.int i)) G G rInt (ret i) := by
  obtain ⟨t, hm⟩ := hm
  exact ⟨pe_glob hg hm ⟨t, rfl⟩ hd, go_c⟩
theorem ex_gStr {x z : Str} {pos : Pos} (hg : Gl X x) (hm : ∃ t, X.mg x = some (.str z t)) (hd : (x == ("__debug__" : Str)) = false := by decide) : EX X F (.Name x pos) (tC (.str z)) G G rStr (ret z) := by
  obtain ⟨t, hm⟩ := hm
  exact ⟨pe_glob hg hm ⟨t, rfl⟩ hd, go_c⟩
theorem et_nrwS {tt : TT} {m : List U → SM S Bool} {xs : List (Option U)} (i : Nat) (h0 : ∀ s, (G s)[i]? = some (.is (sh (rList (rOpt r))) xs)) (h1 : ∀ s, (G' s)[i]? = some (.is (sh (rList (rOpt r))) xs)) (h : ∀ ys, ET X F e tt (fun s => (G s).set i (.is (sh (rList r)) ys)) (fun s => (G' s).set i (.is (sh (rList r)) ys)) (m ys)) :
    ET X F e tt G G' (bnd (asM (allS xs)) m) :=
  ⟨(h []).pt, fun T t σ s H Q hA qq => by
    obtain ⟨ys, ey, q1⟩ := wp_asM (wp_bnd qq)
    have ex := allS_eq ey
    subst ex
    have at1 := hA.nrw (h0 s) (g' := .is (sh (rList r)) ys) slot_someS.mp
    refine (h ys).go T t σ s H Q at1 (wp_mono q1 (fun a s' q2 H' at2 => q2 H' ?_) fun e s' q2 d H' at2 => q2 d H' at2)
    have hi := (List.getElem?_eq_some_iff.mp (h1 s')).1
    have z := at2.nrw (i := i) (g := .is (sh (rList r)) ys) (by rw [List.getElem?_set_self hi]) (g' := .is (sh (rList (rOpt r))) (ys.map some)) slot_someS.mpr
    rw [List.set_set, set_self (h1 s')] at z
    exact z⟩
end
end Td
set_option Elab.async false
set_option linter.all false
set_option maxRecDepth 100000
set_option maxHeartbeats 4000000
namespace Td
open PySem PySem.Spec PyProof.Rows L2 He SlX StX
/-- two in/out arguments: `wv` the value carried, `dn` the state without it, `up` the state with it again -/
def botN {S S' T : Type} (wv : S → V) (dn : S → S') (up : S' → V → S) (m : SM S' T) : SM S T := fun s => match m (dn s) with
  | .ok a s' => .ok a (up s' (wv s))
  | .exc e s' => .exc e (up s' (wv s))
  | .stuck => .stuck
section
variable {X : Cx} {S S' U W : Type} {F : FC X.K S} {N L R : Type} {G : S → List Slot} {GN : N → S → List Slot} {GL : L → S → List Slot} {rr : Rp R} {r : Rp U} {q : Rp W} {sts : List Stmt} {ts : TS}
end
end Td
set_option Elab.async false
set_option linter.all false
set_option maxRecDepth 100000
set_option maxHeartbeats 4000000
namespace Td
open PySem PySem.Spec PyProof.Rows L2 He SlX StX
section
variable {X : Cx} {S U W R : Type} {F : FC X.K S} {G : S → List Slot} {rr : Rp R} {r : Rp U} {q : Rp W} {e : Expr} {te : TE} {gA : S → U} {gB : S → W} {v w : V}
end
/-- the mirror of a def with two in/out arguments, its first one's shape -/
abbrev two {U W R : Type} (o : SM (U × W) R) : SM (U × W × V) R := botN (fun s => s.2.2) (fun s => (s.1, s.2.1)) (fun s w => (s.1, s.2, w)) o
end Td
set_option Elab.async false
set_option linter.all false
set_option maxRecDepth 100000
set_option maxHeartbeats 4000000
namespace Td
open PySem PySem.Spec PyProof.Rows L2 LamX
section
variable {K : PySem.W.Frag} {S : Type} {F : FC K S} {T : List Slot} {t : List V} {G : List Slot} {σ : L2.St} {H H' : Hp} {A1 A2 : List Addr}
/-- all stands as it did, but the tables -/
theorem AtP.stays (h : AtP F T t G σ H A1 A2) (st : ∀ p o, H p = some o → p ∉ tabL K → H' p = some o) (tb : Tb K H') : AtP F T t G σ H' A1 A2 := by
  have k1 : ∀ p o, H p = some o → (p ∉ A1 ++ A2 ++ F.M0 ∨ p ∈ A1 ∨ isTup o = true) → H' p = some o := fun p o e z => st p o e (h.good.nt e z (fun x hx => List.mem_append_right _ hx) fun x hx => List.mem_append_left _ hx)
  have k2 : ∀ p o, H p = some o → (p ∉ A1 ++ A2 ++ F.M0 ∨ p ∈ A2 ∨ isTup o = true) → H' p = some o := fun p o e z => st p o e (h.good.nt e z (fun x hx => List.mem_append_right _ hx) fun x hx => List.mem_append_right _ hx)
  have hg := h.good
  refine ⟨h.tmp.keep k1, h.loc.keep k2, hg.nd, hg.out, hg.new, fun p hp => ?_, fun p o e hI ht => st p o (hg.stay p o e hI ht) ht, hg.m0, hg.tm, tb⟩
  obtain ⟨o, e, z⟩ := hg.has p hp
  exact ⟨o, st p o e (hg.tb.own ⟨o, e, z⟩), z⟩
end
section
variable {X : Cx} {S : Type} {F : FC X.K S} {T : List Slot} {t : List V} {G G0 : List Slot} {σ : L2.St} {A1 A2 : List Addr} {U κ : Type} {r : Rp U} {rk : Rp κ} {mk : U → SM Unit κ} {scope : Scope} {body : Expr} {a : Str} {f c' : Addr}
end
section
variable {X : Cx} {S : Type} {F : FC X.K S} {G G' : S → List Slot} {G0 : List Slot} {W U κ : Type} {r : Rp U} {rk : Rp κ} {mk : U → SM Unit κ} {scope : Scope} {body e : Expr} {te : TE} {nm a : Str} {arg : W → Arg} {m : SM S W} {xs : W → List U} {ek : κ → PyData} {c P : Addr} {k : Nat} {params : Arguments} {p0 pos lpos kpos : Pos}
end
end Td
set_option Elab.async false
set_option linter.all false
set_option maxRecDepth 100000
set_option maxHeartbeats 4000000
namespace Td
open PySem PySem.Spec PyProof.Rows L2 He SlX StX
abbrev PK2 : Type := Int × Int
def getT {U : Type} (d : List (PK2 × U)) (k : PK2) : Option U := (d.find? fun z => decide (z.1 = k)).map (·.2)
section
variable {U : Type} {R R' : V → U → Prop} {kvs : List (List Key × V)} {d : List (PK2 × U)}
end
section
variable {K : PySem.W.Frag} {S : Type} {F : FC K S} {T : List Slot} {t : List V} {G : List Slot} {σ : L2.St} {H : Hp}
end
section
variable {X : Cx} {S : Type} {F : FC X.K S} {N L R W U : Type} {o a b e : Expr} {to ta tb te : TE} {G G1 G2 G3 G4 : S → List Slot} {GN : N → S → List Slot} {GL : L → S → List Slot} {r : Rp R} {r1 : Rp U} {m1 : SM S W} {ma mb : SM S Int} {me : SM S U} {arg : W → Arg} {dd : W → List (PK2 × U)} {x1 k : Nat} {pos p0 p1 pt : Pos} {rest : List Stmt} {tr : TS}
end
end Td
set_option Elab.async false
set_option linter.all false
set_option maxRecDepth 100000
set_option maxHeartbeats 4000000
namespace Td
open PySem PySem.Spec PyProof.Rows L2
instance decPow (i j : Int) : Decidable (CPow i j) := inferInstanceAs (Decidable (_ ∧ _ ∧ _))
section
variable {S : Type} {K : PySem.W.Frag}
end
section
variable {X : Cx} {S : Type} {F : FC X.K S} {a b : Expr} {ta tb : TE} {G G1 G2 : S → List Slot} {ma mb : SM S Int} {pos : Pos}
end
end Td
set_option Elab.async false
set_option linter.all false
set_option maxRecDepth 100000
set_option maxHeartbeats 4000000
namespace Td
open PySem PySem.Spec PyProof.Rows L2 He
section
variable {X : Cx}
end
section
variable {X : Cx}
end
/-- x in xs, data -/
def inD {S : Type} (x : PyData) : PyData → SM S Bool
  | .list ds => bnd (grd (SeqAt.shaped x = true ∧ SeqAt.shaped (.list ds) = true)) fun _ => ret (ds.any fun z => PyData.eqv z x)
  | _ => stk
section
variable {X : Cx} {S : Type} {F : FC X.K S} {U W Z : Type} {r3 : Rp Z} {a b : Expr} {ta tb : TE} {G G1 G2 : S → List Slot} {m1 : SM S U} {m2 : SM S W} {pos : Pos} {argU : U → Arg} {argW : W → Arg}
variable {da : U → PyData} {db : W → PyData}
end
end Td
set_option Elab.async false
set_option linter.all false
set_option maxRecDepth 100000
set_option maxHeartbeats 0
namespace Hd
open PySem PySem.Spec PyProof.Rows L2 He Td
def tp (i : Nat) : Stmt := PySem.Challenge.pw_tapedetours_k53_texts_both_ways.main.body.getD i (.Pass ⟨0, 0, 0, 0⟩)
def ms (i j : Nat) : Stmt := (clsB (tp i)).getD j (.Pass ⟨0, 0, 0, 0⟩)
def d_show_tape : Df := ⟨fun K => ga K "show_tape", "show_tape", "show_tape", defArgs (tp 2), defBody (tp 2), defScope (tp 2)⟩
def d_show_row : Df := ⟨fun K => ga K "show_row", "show_row", "show_row", defArgs (tp 3), defBody (tp 3), defScope (tp 3)⟩
def d_show_asks : Df := ⟨fun K => ga K "show_asks", "show_asks", "show_asks", defArgs (tp 4), defBody (tp 4), defScope (tp 4)⟩
def d_TapeError_DinitD : Df := ⟨fun K => ma K (ga K "TapeError") "__init__", "__init__", "TapeError.__init__", defArgs (ms 6 0), defBody (ms 6 0), defScope (ms 6 0)⟩
def d_Tape_DinitD : Df := ⟨fun K => ma K (ga K "Tape") "__init__", "__init__", "Tape.__init__", defArgs (ms 14 1), defBody (ms 14 1), defScope (ms 14 1)⟩
def d_Tape_length : Df := ⟨fun K => pgA K (ga K "Tape") "length", "length", "Tape.length", defArgs (ms 14 2), defBody (ms 14 2), defScope (ms 14 2)⟩
def d_Tape_files : Df := ⟨fun K => pgA K (ga K "Tape") "files", "files", "Tape.files", defArgs (ms 14 3), defBody (ms 14 3), defScope (ms 14 3)⟩
def d_Tape_DlenD : Df := ⟨fun K => ma K (ga K "Tape") "__len__", "__len__", "Tape.__len__", defArgs (ms 14 4), defBody (ms 14 4), defScope (ms 14 4)⟩
def d_Tape_DeqD : Df := ⟨fun K => ma K (ga K "Tape") "__eq__", "__eq__", "Tape.__eq__", defArgs (ms 14 5), defBody (ms 14 5), defScope (ms 14 5)⟩
def d_Tape_DiterD : Df := ⟨fun K => ma K (ga K "Tape") "__iter__", "__iter__", "Tape.__iter__", defArgs (ms 14 6), defBody (ms 14 6), defScope (ms 14 6)⟩
def d_Tape_DgetitemD : Df := ⟨fun K => ma K (ga K "Tape") "__getitem__", "__getitem__", "Tape.__getitem__", defArgs (ms 14 7), defBody (ms 14 7), defScope (ms 14 7)⟩
def d_Tape_without : Df := ⟨fun K => ma K (ga K "Tape") "without", "without", "Tape.without", defArgs (ms 14 8), defBody (ms 14 8), defScope (ms 14 8)⟩
def d_number_in : Df := ⟨fun K => ga K "number_in", "number_in", "number_in", defArgs (tp 18), defBody (tp 18), defScope (tp 18)⟩
def d_pair_in : Df := ⟨fun K => ga K "pair_in", "pair_in", "pair_in", defArgs (tp 19), defBody (tp 19), defScope (tp 19)⟩
def d_read_tape : Df := ⟨fun K => ga K "read_tape", "read_tape", "read_tape", defArgs (tp 20), defBody (tp 20), defScope (tp 20)⟩
def d_read_row : Df := ⟨fun K => ga K "read_row", "read_row", "read_row", defArgs (tp 21), defBody (tp 21), defScope (tp 21)⟩
def d_read_asks : Df := ⟨fun K => ga K "read_asks", "read_asks", "read_asks", defArgs (tp 22), defBody (tp 22), defScope (tp 22)⟩
def d_asked_files : Df := ⟨fun K => ga K "asked_files", "asked_files", "asked_files", defArgs (tp 24), defBody (tp 24), defScope (tp 24)⟩
def d_are_asks : Df := ⟨fun K => ga K "are_asks", "are_asks", "are_asks", defArgs (tp 25), defBody (tp 25), defScope (tp 25)⟩
def d_is_row : Df := ⟨fun K => ga K "is_row", "is_row", "is_row", defArgs (tp 26), defBody (tp 26), defScope (tp 26)⟩
def d_check_asks : Df := ⟨fun K => ga K "check_asks", "check_asks", "check_asks", defArgs (tp 27), defBody (tp 27), defScope (tp 27)⟩
def d_check_row : Df := ⟨fun K => ga K "check_row", "check_row", "check_row", defArgs (tp 28), defBody (tp 28), defScope (tp 28)⟩
def d_fresh_runs : Df := ⟨fun K => ga K "fresh_runs", "fresh_runs", "fresh_runs", defArgs (tp 30), defBody (tp 30), defScope (tp 30)⟩
def d_way : Df := ⟨fun K => ga K "way", "way", "way", defArgs (tp 31), defBody (tp 31), defScope (tp 31)⟩
def d_waits : Df := ⟨fun K => ga K "waits", "waits", "waits", defArgs (tp 32), defBody (tp 32), defScope (tp 32)⟩
def d__law_purse : Df := ⟨fun K => ga K "_law_purse", "_law_purse", "_law_purse", defArgs (tp 34), defBody (tp 34), defScope (tp 34)⟩
def d__law_coin : Df := ⟨fun K => ga K "_law_coin", "_law_coin", "_law_coin", defArgs (tp 35), defBody (tp 35), defScope (tp 35)⟩
def d__law_drawn_tape : Df := ⟨fun K => ga K "_law_drawn_tape", "_law_drawn_tape", "_law_drawn_tape", defArgs (tp 36), defBody (tp 36), defScope (tp 36)⟩
def d__law_great_tape : Df := ⟨fun K => ga K "_law_great_tape", "_law_great_tape", "_law_great_tape", defArgs (tp 37), defBody (tp 37), defScope (tp 37)⟩
def d__law_drawn_asks : Df := ⟨fun K => ga K "_law_drawn_asks", "_law_drawn_asks", "_law_drawn_asks", defArgs (tp 38), defBody (tp 38), defScope (tp 38)⟩
def d__law_asked : Df := ⟨fun K => ga K "_law_asked", "_law_asked", "_law_asked", defArgs (tp 39), defBody (tp 39), defScope (tp 39)⟩
def d__law_drawn_row : Df := ⟨fun K => ga K "_law_drawn_row", "_law_drawn_row", "_law_drawn_row", defArgs (tp 40), defBody (tp 40), defScope (tp 40)⟩
def d__law_led : Df := ⟨fun K => ga K "_law_led", "_law_led", "_law_led", defArgs (tp 41), defBody (tp 41), defScope (tp 41)⟩
def d__law_waits : Df := ⟨fun K => ga K "_law_waits", "_law_waits", "_law_waits", defArgs (tp 42), defBody (tp 42), defScope (tp 42)⟩
def d__law_made : Df := ⟨fun K => ga K "_law_made", "_law_made", "_law_made", defArgs (tp 43), defBody (tp 43), defScope (tp 43)⟩
def d__law_tape_text : Df := ⟨fun K => ga K "_law_tape_text", "_law_tape_text", "_law_tape_text", defArgs (tp 44), defBody (tp 44), defScope (tp 44)⟩
def d__law_lists_right : Df := ⟨fun K => ga K "_law_lists_right", "_law_lists_right", "_law_lists_right", defArgs (tp 45), defBody (tp 45), defScope (tp 45)⟩
def d__law_right : Df := ⟨fun K => ga K "_law_right", "_law_right", "_law_right", defArgs (tp 46), defBody (tp 46), defScope (tp 46)⟩
def d_law : Df := ⟨fun K => ga K "law", "law", "law", defArgs (tp 47), defBody (tp 47), defScope (tp 47)⟩
def fs : List Df := [d_show_tape, d_show_row, d_show_asks, d_TapeError_DinitD, d_Tape_DinitD, d_Tape_length, d_Tape_files, d_Tape_DlenD, d_Tape_DeqD, d_Tape_DiterD, d_Tape_DgetitemD, d_Tape_without, d_number_in, d_pair_in, d_read_tape, d_read_row, d_read_asks, d_asked_files, d_are_asks, d_is_row, d_check_asks, d_check_row, d_fresh_runs, d_way, d_waits, d__law_purse, d__law_coin, d__law_drawn_tape, d__law_great_tape, d__law_drawn_asks, d__law_asked, d__law_drawn_row, d__law_led, d__law_waits, d__law_made, d__law_tape_text, d__law_lists_right, d__law_right, d_law]
def gl0 : List Str := ["show_tape", "show_row", "show_asks", "number_in", "pair_in", "read_tape", "read_row", "read_asks", "asked_files", "are_asks", "is_row", "check_asks", "check_row", "fresh_runs", "way", "waits", "_law_purse", "_law_coin", "_law_drawn_tape", "_law_great_tape"]
def gl1 : List Str := ["_law_drawn_asks", "_law_asked", "_law_drawn_row", "_law_led", "_law_waits", "_law_made", "_law_tape_text", "_law_lists_right", "_law_right", "law", "TapeError", "InvalidTape", "InvalidFile", "InvalidAsks", "InvalidRow", "UnknownFile", "Unreadable", "Tape"]
def glos : List Str := gl0 ++ gl1
def frees : List Str := ["TypeError", "ValueError", "abs", "all", "enumerate", "int", "isinstance", "len", "list", "max", "min", "range", "str", "tuple", "zip"]
def exs (K : PySem.W.Frag) : Bool := glos.all (gaB K) && (frees.all (frB K) && (slcB K (ga K "Tape") && (slotB K (ga K "Tape") "extent" 0 && (slotB K (ga K "Tape") "kept" 1 && (prpB K (ga K "Tape") "length" && (prpB K (ga K "Tape") "files" && (mthB K (ga K "Tape") "__len__" && (mthB K (ga K "Tape") "__getitem__" && (mthB K (ga K "Tape") "__eq__" && (mthB K (ga K "Tape") "without" && ((Fa.mkr "Tape").ok K && (isiB K (ga K "Tape") && (neClsB K (ga K "Tape") && ((Fa.str "DIGITS" "0123456789").ok K && ((Fa.int "MOST_DIGITS" (9)).ok K)))))))))))))))
abbrev R : PySem.W.OpenRow := PySem.W.OpenLaw.row PySem.Challenge.rw_tapedetours_k53_texts_both_ways
abbrev hk : PySem.W.Hook := hookTd false 5 exs fs
def ob (s : PySem.W.SharedT) : Bool × AlTd := obsTdG false 5 exs fs (HandSHeadRun.getT s)
theorem ob_eq (s : PySem.W.SharedT) : ob s = hk.obs s.abs := obsTdG_eq (HandSHeadRun.getT_eq s)
def lo0 : List Str := ["_wall", "__name__", "show_tape", "show_row", "show_asks", "TapeError", "InvalidTape", "InvalidFile", "InvalidAsks", "InvalidRow", "UnknownFile", "Unreadable", "Tape", "DIGITS", "MOST_DIGITS", "number_in", "pair_in", "read_tape", "read_row", "read_asks"]
def lo1 : List Str := ["asked_files", "are_asks", "is_row", "check_asks", "check_row", "fresh_runs", "way", "waits", "_law_purse", "_law_coin", "_law_drawn_tape", "_law_great_tape", "_law_drawn_asks", "_law_asked", "_law_drawn_row", "_law_led", "_law_waits", "_law_made", "_law_tape_text", "_law_lists_right"]
def lo2 : List Str := ["_law_right"]
def loose : List Str := lo0 ++ lo1 ++ lo2
theorem run (w : World) : HandSHeadRun.RunEq R (PySem.W.view R.prog [47]) hk ob 20000 loose w := by
  intro os
  kernel_rfl
end Hd

set_option Elab.async false
set_option linter.all false
set_option maxRecDepth 100000
set_option maxHeartbeats 4000000
namespace Tk
open PySem PySem.Spec PyProof.Rows L2 He Td
def o_Tape_DlenD (u : (Int × List (Int × Int))) : SM Unit (Fl Empty Empty Int) := (bnd (bnd (bnd (ret u) fun a1 => ret a1.2) fun a2 => ret ((a2).length : Int)) fun a3 => ret (.rt a3))
def m_Tape_DlenD (u : (Int × List (Int × Int))) : SM Unit Int := runB (o_Tape_DlenD u)
def o_Tape_DinitD (u : (Int × (List (Int × Int)))) : SM TS0 (Fl Unit Empty Unit) := (bnd (bnd (ret u.1) fun a4 => bnd (ret 1) fun a5 => ret (decide (a4 < a5))) fun k6 => if k6 then esc stk else (bnd (ret 0) fun v_edge7 => (bnd (ret u.2) fun xs => lpM (forM_ xs (fun (l8 : Int) x9 => (bnd (bnd (bnd (ret l8) fun a10 => bnd (ret x9.1) fun a11 => if decide (a10 ≤ a11) then bnd (ret x9.2) fun a12 => if decide (a11 < a12) then bnd (ret u.1) fun a13 => ret (decide (a12 ≤ a13)) else ret false else ret false) fun k14 => ret (!k14)) fun k15 => if k15 then esc stk else (bnd (ret x9.2) fun v_edge16 => (ret (.nx v_edge16))))) v_edge7) fun l8 => (bnd (ret u.1) fun a17 => bnd (setExt a17) fun _ => (bnd (bnd (ret u.2) fun a18 => ret a18) fun a19 => bnd (setKept a19) fun _ => (ret (.nx ())))))))
def m_Tape_DinitD (u : (Int × (List (Int × Int)))) : SM TS0 Unit := runP (o_Tape_DinitD u)
def o_Tape_DeqD (u : ((Int × List (Int × Int)) × (Int × List (Int × Int)))) : SM Unit (Fl Empty Empty Bool) := (bnd (bnd (bnd (ret u.2) fun a20 => ret true) fun a32 => if a32 then (bnd (bnd (bnd (ret u.1) fun a25 => ret a25.1) fun a23 => bnd (bnd (ret u.2) fun a26 => ret a26.1) fun a24 => ret (decide (a23 = a24))) fun a31 => if a31 then (bnd (bnd (ret u.1) fun a27 => ret a27.2) fun a29 => bnd (bnd (ret u.2) fun a28 => ret a28.2) fun a30 => eqD ((dTL (dP PyData.int PyData.int)) a29) ((dTL (dP PyData.int PyData.int)) a30)) else ret false) else ret false) fun a33 => ret (.rt a33))
def m_Tape_DeqD (u : ((Int × List (Int × Int)) × (Int × List (Int × Int)))) : SM Unit Bool := runB (o_Tape_DeqD u)
def o_Tape_DgetitemD (u : ((Int × List (Int × Int)) × Int)) : SM Unit (Fl Empty Empty (Int × Int)) := (bnd (bnd (bnd (ret 0) fun a36 => bnd (ret u.2) fun a37 => if decide (a36 ≤ a37) then bnd (bnd (bnd (ret u.1) fun a34 => ret a34.2) fun a35 => ret ((a35).length : Int)) fun a38 => ret (decide (a37 < a38)) else ret false) fun k39 => ret (!k39)) fun k40 => if k40 then esc stk else (bnd (bnd (bnd (ret u.1) fun a41 => ret a41.2) fun a42 => bnd (ret u.2) fun a43 => ixM a42 a43) fun a44 => ret (.rt a44)))
def m_Tape_DgetitemD (u : ((Int × List (Int × Int)) × Int)) : SM Unit (Int × Int) := runB (o_Tape_DgetitemD u)
def o__law_purse (u : ((List Int) × Int)) : SM Unit (Fl Empty Empty (List Int)) := (bnd (bnd (bnd (ret u.2) fun a47 => bnd (bnd (ret u.1) fun a46 => ret ((a46).length : Int)) fun a48 => ret (decide (a47 < a48))) fun k51 => if k51 then (bnd (ret u.1) fun a49 => bnd (ret u.2) fun a50 => ixM a49 a50) else (ret 0)) fun v_law_cell45 => (bnd (bnd (bnd (bnd (ret 0) fun a114 => bnd (bnd (bnd (ret v_law_cell45) fun a108 => ret (if a108 < 0 then -a108 else a108)) fun a112 => bnd (bnd (ret 10) fun a110 => bnd (ret 18) fun a111 => powM a110 a111) fun a113 => ret (a112 - a113)) fun a115 => ret (if a115 > a114 then a115 else a114)) fun a104 => bnd (bnd (bnd (bnd (bnd (bnd (bnd (ret v_law_cell45) fun a86 => bnd (ret 30011) fun a87 => mulM a86 a87) fun a90 => bnd (bnd (ret u.2) fun a88 => bnd (ret 7368787) fun a89 => mulM a88 a89) fun a91 => ret (a90 + a91)) fun a92 => bnd (ret 104729) fun a93 => ret (a92 + a93)) fun a94 => ret a94) fun a102 => bnd (bnd (bnd (ret 10) fun a98 => bnd (ret 24) fun a99 => powM a98 a99) fun a100 => bnd (ret 7) fun a101 => ret (a100 + a101)) fun a103 => modM a102 a103) fun a54 => bnd (bnd (ret 0) fun a52 => bnd (ret []) fun l53 => ret (a52 :: l53)) fun l55 => ret (a54 :: l55)) fun l105 => ret (a104 :: l105)) fun l116 => bnd (lenG l116) fun _ => ret l116) fun a117 => ret (.rt a117)))
def m__law_purse (u : ((List Int) × Int)) : SM Unit (List Int) := runB (o__law_purse u)
def o_Tape_length (u : (Int × List (Int × Int))) : SM Unit (Fl Empty Empty Int) := (bnd (bnd (ret u) fun a118 => ret a118.1) fun a119 => ret (.rt a119))
def m_Tape_length (u : (Int × List (Int × Int))) : SM Unit Int := runB (o_Tape_length u)
def o_Tape_files (u : (Int × List (Int × Int))) : SM Unit (Fl Empty Empty (List (Int × Int))) := (bnd (bnd (bnd (ret u) fun a120 => ret a120.2) fun a121 => ret a121) fun a122 => ret (.rt a122))
def m_Tape_files (u : (Int × List (Int × Int))) : SM Unit (List (Int × Int)) := runB (o_Tape_files u)
def o_show_tape (u : (Int × List (Int × Int))) : SM Unit (Fl Empty Empty Str) := (bnd (bnd (ret (" " : Str)) fun a123 => bnd (bnd (bnd ((fun (z145 : Str) => bnd (bnd (bnd (ret u) fun a140 => nxc (lft (m_Tape_length a140))) fun a141 => bnd (grd (a141.natAbs.log2 < 1920)) fun _ => ret (istr a141)) fun a146 => bnd (grd ((z145 ++ a146).length ≤ sizeLine)) fun _ => (fun (z143 : Str) => bnd (ret (":" : Str)) fun a144 => bnd (grd ((z143 ++ a144).length ≤ sizeLine)) fun _ => (fun (z142 : Str) => ret z142) (z143 ++ a144)) (z145 ++ a146)) Str.empty) fun a138 => bnd (bnd (bnd (bnd (ret u) fun a127 => nxc (lft (m_Tape_files a127))) fun xs => lcM (fun x128 => lcIt (ret true) ((fun (z136 : Str) => bnd (bnd (ret x128.1) fun a129 => bnd (grd (a129.natAbs.log2 < 1920)) fun _ => ret (istr a129)) fun a137 => bnd (grd ((z136 ++ a137).length ≤ sizeLine)) fun _ => (fun (z134 : Str) => bnd (ret ("-" : Str)) fun a135 => bnd (grd ((z134 ++ a135).length ≤ sizeLine)) fun _ => (fun (z132 : Str) => bnd (bnd (ret x128.2) fun a130 => bnd (grd (a130.natAbs.log2 < 1920)) fun _ => ret (istr a130)) fun a133 => bnd (grd ((z132 ++ a133).length ≤ sizeLine)) fun _ => (fun (z131 : Str) => ret z131) (z132 ++ a133)) (z134 ++ a135)) (z136 ++ a137)) Str.empty)) [] xs) fun a125 => bnd (ret []) fun l126 => ret (a125 ++ l126)) fun l139 => ret (a138 :: l139)) fun l147 => bnd (lenG l147) fun _ => ret l147) fun a124 => joinM a123 a124) fun a148 => ret (.rt a148))
def m_show_tape (u : (Int × List (Int × Int))) : SM Unit Str := runB (o_show_tape u)
def o_Tape_without (u : ((Int × List (Int × Int)) × Int)) : SM Unit (Fl Empty Empty (Int × List (Int × Int))) := (bnd (bnd (bnd (ret 0) fun a151 => bnd (ret u.2) fun a152 => if decide (a151 ≤ a152) then bnd (bnd (bnd (ret u.1) fun a149 => ret a149.2) fun a150 => ret ((a150).length : Int)) fun a153 => ret (decide (a152 < a153)) else ret false) fun k154 => ret (!k154)) fun k155 => if k155 then esc stk else (bnd (bnd (bnd (bnd (ret u.1) fun a178 => ret a178.1) fun a203 => bnd (bnd (bnd (bnd (bnd (bnd (ret u.1) fun a195 => ret a195.2) fun a196 => bnd (ret none) fun a198 => bnd (bnd (ret u.2) fun a197 => ret (some a197)) fun a199 => ret (cutL a196 a198 a199)) fun a193 => bnd (bnd (bnd (bnd (ret u.1) fun a186 => ret a186.2) fun a187 => bnd (bnd (bnd (ret u.2) fun a188 => bnd (ret 1) fun a189 => ret (a188 + a189)) fun a190 => ret (some a190)) fun a191 => bnd (ret none) fun a192 => ret (cutL a187 a191 a192)) fun a184 => bnd (ret []) fun l185 => ret (a184 ++ l185)) fun l194 => ret (a193 ++ l194)) fun l200 => bnd (lenG l200) fun _ => ret l200) fun a201 => bnd (ret ()) fun a202 => ret (a201, a202)) fun a204 => ret (a203, a204)) fun q205 => bnd (subM (m_Tape_DinitD (q205.1, q205.2.1)) TS0.new) fun r206 => tapeM r206.2) fun a207 => ret (.rt a207)))
def m_Tape_without (u : ((Int × List (Int × Int)) × Int)) : SM Unit (Int × List (Int × Int)) := runB (o_Tape_without u)
def o_number_in (u : Str) : SM Unit (Fl Empty Empty (Option Int)) := (bnd (bnd (bnd (bnd (ret 1) fun a209 => bnd (bnd (ret u) fun a208 => bnd (grd (a208.length ≤ sizeLine)) fun _ => ret (a208.length : Int)) fun a210 => if decide (a209 ≤ a210) then bnd (ret 9) fun a211 => ret (decide (a210 ≤ a211)) else ret false) fun k212 => ret (!k212)) fun k227 => if k227 then ret true else (bnd (bnd (bnd (bnd (ret u) fun a220 => ret (Td.signs a220)) fun xs => lcM (fun x221 => lcIt (ret true) (bnd (ret x221) fun a222 => bnd (ret ("0123456789" : Str)) fun a223 => bnd (asM (oneC a222)) fun a224 => ret (decide (a224 ∈ a223.cps.toList)))) [] xs) fun a225 => ret ((a225).all id)) fun k226 => ret (!k226))) fun k228 => if k228 then esc (bnd (ret none) fun a229 => ret (.rt a229)) else (bnd (bnd (bnd (bnd (bnd (ret u) fun a234 => bnd (ret 0) fun a235 => ixSM a234 a235) fun a232 => bnd (ret ("0" : Str)) fun a233 => ret (!decide (a232 = a233))) fun k238 => if k238 then ret true else (bnd (ret u) fun a236 => bnd (ret ("0" : Str)) fun a237 => ret (decide (a236 = a237)))) fun k244 => if k244 then (bnd (bnd (ret u) fun a241 => bnd (grd (a241.length ≤ 640)) fun _ => asM (PySem.intText? a241)) fun a243 => ret (some a243)) else (ret none)) fun a245 => ret (.rt a245)))
def m_number_in (u : Str) : SM Unit (Option Int) := runB (o_number_in u)
def o_pair_in (u : (Str × Str)) : SM Unit (Fl Empty Empty (Option (Int × Int))) := (bnd (bnd (bnd (ret u.1) fun a247 => bnd (ret u.2) fun a248 => splitM a247 a248) fun xs => lcM (fun x249 => lcIt (ret true) (bnd (bnd (ret x249) fun a250 => bnd (ret ()) fun a251 => ret (a250, a251)) fun q252 => lft (m_number_in q252.1))) [] xs) fun v_pieces246 => (bnd (bnd (bnd (bnd (bnd (ret v_pieces246) fun a256 => ret ((a256).length : Int)) fun a254 => bnd (ret 2) fun a255 => ret (decide (a254 = a255))) fun k258 => if k258 then (bnd (ret v_pieces246) fun a257 => ret (!(a257).any Option.isNone)) else ret false) fun k264 => if k264 then (bnd (bnd (bnd (ret v_pieces246) fun a261 => ret a261) fun a262 => asM (pairO a262)) fun a263 => ret (some a263)) else (ret none)) fun a265 => ret (.rt a265)))
def m_pair_in (u : (Str × Str)) : SM Unit (Option (Int × Int)) := runB (o_pair_in u)
def o_read_tape (u : Str) : SM Unit (Fl Empty Empty (Int × List (Int × Int))) := (bnd (bnd (ret u) fun a266 => bnd (ret (" " : Str)) fun a267 => splitM a266 a267) fun l271 => bnd (unconsM l271) fun p270 => (fun v268 v269 => (bnd (bnd (bnd (bnd (ret v268) fun a272 => bnd (ret none) fun a276 => bnd (bnd (bnd (ret 1) fun a274 => ret (-a274)) fun a275 => ret (some a275)) fun a277 => bnd (grd (a272.length ≤ sizeLine)) fun _ => ret (cutS a272 a276 a277)) fun a278 => bnd (ret ()) fun a279 => ret (a278, a279)) fun q280 => lft (m_number_in q280.1)) fun v_length287 => (bnd (bnd (ret v269) fun xs => lcM (fun x281 => lcIt (ret true) (bnd (bnd (ret x281) fun a284 => bnd (bnd (ret ("-" : Str)) fun a282 => bnd (ret ()) fun a283 => ret (a282, a283)) fun a285 => ret (a284, a285)) fun q286 => lft (m_pair_in (q286.1, q286.2.1)))) [] xs) fun v_files288 => (bnd (bnd (bnd (ret v_length287) fun a289 => ret (a289).isNone) fun k291 => if k291 then ret true else (bnd (ret v_files288) fun a290 => ret ((a290).any Option.isNone))) fun k292 => if k292 then esc stk else (thn_ (nxc (bnd (bnd (bnd (bnd (ret v_length287) fun a305 => optM a305) fun a309 => bnd (bnd (bnd (ret v_files288) fun a306 => asM (allS a306)) fun a307 => bnd (ret ()) fun a308 => ret (a307, a308)) fun a310 => ret (a309, a310)) fun q311 => bnd (subM (m_Tape_DinitD (q311.1, q311.2.1)) TS0.new) fun r312 => tapeM r312.2) fun v_found304 => (ret (.nx v_found304)))) fun n303 => (bnd (bnd (bnd (bnd (ret n303) fun a318 => bnd (ret ()) fun a319 => ret (a318, a319)) fun q320 => lft (m_show_tape q320.1)) fun a316 => bnd (ret u) fun a317 => ret (!decide (a316 = a317))) fun k321 => if k321 then esc stk else (bnd (ret n303) fun a322 => ret (.rt a322)))))))) p270.1 p270.2)
def m_read_tape (u : Str) : SM Unit (Int × List (Int × Int)) := runB (o_read_tape u)
def o_asked_files (u : (List Int)) : SM Unit (Fl Empty Empty (List Int)) := (bnd (bnd (bnd (ret u) fun a323 => ret (enum a323)) fun xs => lcM (fun x324 => lcIt (bnd (ret x324.2) fun a325 => bnd (ret 0) fun a326 => ret (decide (a326 < a325))) (ret x324.1)) [] xs) fun a327 => ret (.rt a327))
def m_asked_files (u : (List Int)) : SM Unit (List Int) := runB (o_asked_files u)
def o_fresh_runs (u : ((List Int) × (List (Int × Int)))) : SM Unit (Fl Empty Empty (List (List Int))) := (bnd (bnd (bnd (ret u.1) fun a328 => bnd (ret ()) fun a329 => ret (a328, a329)) fun q330 => lft (m_asked_files q330.1)) fun v_unread332 => (bnd (bnd (ret []) fun l331 => bnd (lenG l331) fun _ => ret l331) fun v_runs333 => (bnd (ret u.2) fun xs => lpM (forM_ xs (fun (l334 : ((List (List Int)) × (List Int))) x335 => (bnd (bnd (ret l334.2) fun xs => lcM (fun x336 => lcIt (bnd (ret x335.1) fun a337 => bnd (ret x336) fun a338 => if decide (a337 ≤ a338) then bnd (ret x335.2) fun a339 => ret (decide (a338 ≤ a339)) else ret false) (ret x336)) [] xs) fun a340 => bnd (pushM l334.1 a340) fun v_runs341 => (bnd (bnd (ret l334.2) fun xs => lcM (fun x343 => lcIt (bnd (bnd (ret x335.1) fun a344 => bnd (ret x343) fun a345 => if decide (a344 ≤ a345) then bnd (ret x335.2) fun a346 => ret (decide (a345 ≤ a346)) else ret false) fun k347 => ret (!k347)) (ret x343)) [] xs) fun v_unread342 => (ret (.nx (v_runs341, v_unread342)))))) (v_runs333, v_unread332)) fun l334 => (bnd (bnd (bnd (ret ()) fun a350 => bnd (bnd (ret l334.2) fun a348 => bnd (ret []) fun l349 => ret (a348 :: l349)) fun l351 => ret (l334.1 ++ l351)) fun l352 => bnd (lenG l352) fun _ => ret l352) fun a353 => ret (.rt a353)))))
def m_fresh_runs (u : ((List Int) × (List (Int × Int)))) : SM Unit (List (List Int)) := runB (o_fresh_runs u)
def o_are_asks (u : (Int × (List Int))) : SM Unit (Fl Empty Empty Bool) := (bnd (bnd (bnd (bnd (ret u.2) fun a357 => ret ((a357).length : Int)) fun a355 => bnd (ret u.1) fun a356 => ret (decide (a355 = a356))) fun a362 => if a362 then (bnd (bnd (ret u.2) fun xs => lcM (fun x358 => lcIt (ret true) (bnd (ret x358) fun a359 => bnd (ret 0) fun a360 => ret (decide (a360 ≤ a359)))) [] xs) fun a361 => ret ((a361).all id)) else ret false) fun a363 => ret (.rt a363))
def m_are_asks (u : (Int × (List Int))) : SM Unit Bool := runB (o_are_asks u)
def o_check_asks (u : ((Int × List (Int × Int)) × (List Int))) : SM Unit (Fl Unit Empty Unit) := (bnd (bnd (bnd (bnd (bnd (ret u.1) fun a374 => bnd (nxc (lft (m_Tape_DlenD a374))) fun a375 => bnd (grd (0 ≤ a375 ∧ a375 < 2 ^ 63)) fun _ => ret a375) fun a378 => bnd (bnd (ret u.2) fun a376 => bnd (ret ()) fun a377 => ret (a376, a377)) fun a379 => ret (a378, a379)) fun q380 => lft (m_are_asks (q380.1, q380.2.1))) fun k381 => ret (!k381)) fun k382 => if k382 then esc stk else (ret (.nx ())))
def m_check_asks (u : ((Int × List (Int × Int)) × (List Int))) : SM Unit Unit := runP (o_check_asks u)
def o_is_row (u : ((List Int) × (List (Int × Int)))) : SM Unit (Fl Empty Empty Bool) := (bnd (bnd (ret u.1) fun a384 => ret ((a384).length : Int)) fun v_edge383 => (bnd (bnd (bnd (ret u.1) fun a386 => bnd (ret ()) fun a387 => ret (a386, a387)) fun q388 => lft (m_asked_files q388.1)) fun v_asked385 => (bnd (ret u.2) fun xs => lpM (forM_ xs (fun (l389 : Int) x390 => (bnd (bnd (bnd (bnd (ret v_asked385) fun a391 => ret (!(a391).isEmpty)) fun k392 => ret (!k392)) fun k404 => if k404 then ret true else (bnd (bnd (bnd (bnd (ret v_asked385) fun a393 => bnd (ret 0) fun a394 => ixM a393 a394) fun a396 => bnd (ret x390.1) fun a397 => if decide (a396 < a397) then bnd (ret x390.2) fun a398 => if decide (a397 ≤ a398) then bnd (bnd (ret u.1) fun a395 => ret ((a395).length : Int)) fun a399 => ret (decide (a398 < a399)) else ret false else ret false) fun k400 => ret (!k400)) fun k403 => if k403 then ret true else (bnd (ret x390.1) fun a401 => bnd (ret l389) fun a402 => ret (decide (a402 ≤ a401))))) fun k405 => if k405 then esc (bnd (ret false) fun a406 => ret (.rt a406)) else (bnd (bnd (bnd (bnd (ret u.1) fun a411 => bnd (ret x390.1) fun a412 => ixM a411 a412) fun a409 => bnd (ret 0) fun a410 => ret (decide (a409 = a410))) fun k419 => if k419 then ret true else (bnd (bnd (ret u.1) fun a417 => bnd (ret x390.2) fun a418 => ixM a417 a418) fun a415 => bnd (ret 0) fun a416 => ret (decide (a415 = a416)))) fun k420 => if k420 then esc (bnd (ret false) fun a421 => ret (.rt a421)) else (bnd (ret x390.1) fun v_edge422 => (ret (.nx v_edge422)))))) v_edge383) fun l389 => (bnd (ret true) fun a423 => ret (.rt a423)))))
def m_is_row (u : ((List Int) × (List (Int × Int)))) : SM Unit Bool := runB (o_is_row u)
def o_check_row (u : ((List Int) × (List (Int × Int)))) : SM Unit (Fl Unit Empty Unit) := (bnd (bnd (bnd (bnd (ret u.1) fun a432 => bnd (bnd (ret u.2) fun a430 => bnd (ret ()) fun a431 => ret (a430, a431)) fun a433 => ret (a432, a433)) fun q434 => lft (m_is_row (q434.1, q434.2.1))) fun k435 => ret (!k435)) fun k436 => if k436 then esc stk else (ret (.nx ())))
def m_check_row (u : ((List Int) × (List (Int × Int)))) : SM Unit Unit := runP (o_check_row u)
def o_way (u : ((Int × List (Int × Int)) × (List Int) × (List (Int × Int)))) : SM Unit (Fl Empty Empty (List Int)) := (bnd (bnd (bnd (ret u.1) fun a439 => bnd (bnd (ret u.2.1) fun a437 => bnd (ret ()) fun a438 => ret (a437, a438)) fun a440 => ret (a439, a440)) fun q441 => lft (m_check_asks (q441.1, q441.2.1))) fun _ => (bnd (bnd (bnd (ret u.2.1) fun a444 => bnd (bnd (ret u.2.2) fun a442 => bnd (ret ()) fun a443 => ret (a442, a443)) fun a445 => ret (a444, a445)) fun q446 => lft (m_check_row (q446.1, q446.2.1))) fun _ => (bnd (bnd (bnd (ret u.2.1) fun a448 => bnd (ret ()) fun a449 => ret (a448, a449)) fun q450 => lft (m_asked_files q450.1)) fun v_asked447 => (bnd (bnd (bnd (ret v_asked447) fun a451 => ret (!(a451).isEmpty)) fun k452 => ret (!k452)) fun k453 => if k453 then esc (bnd (bnd (bnd (bnd (ret u.1) fun a456 => nxc (lft (m_Tape_length a456))) fun a454 => bnd (ret []) fun l455 => ret (a454 :: l455)) fun l457 => bnd (lenG l457) fun _ => ret l457) fun a458 => ret (.rt a458)) else (bnd (bnd (ret []) fun l460 => bnd (lenG l460) fun _ => ret l460) fun v_stops459 => (bnd (ret u.2.2) fun xs => lpM (forM_ xs (fun (l461 : (List Int)) x462 => (bnd (bnd (bnd (bnd (bnd (ret u.1) fun a476 => bnd (ret x462.1) fun a477 => nxc (lft (m_Tape_DgetitemD (a476, a477)))) fun a478 => ret a478.1) fun a472 => bnd (bnd (bnd (bnd (ret u.1) fun a469 => bnd (ret x462.2) fun a470 => nxc (lft (m_Tape_DgetitemD (a469, a470)))) fun a471 => ret a471.2) fun a465 => bnd (ret []) fun l466 => ret (a465 :: l466)) fun l473 => ret (a472 :: l473)) fun l479 => bnd (lenG l479) fun _ => ret l479) fun a464 => bnd (catM l461 a464) fun v_stops463 => (ret (.nx v_stops463)))) v_stops459) fun l461 => (bnd (bnd (bnd (ret ()) fun a507 => bnd (bnd (bnd (bnd (ret u.1) fun a504 => bnd (bnd (ret v_asked447) fun a501 => bnd (ret 0) fun a502 => ixM a501 a502) fun a505 => nxc (lft (m_Tape_DgetitemD (a504, a505)))) fun a506 => ret a506.1) fun a498 => bnd (bnd (bnd (bnd (ret u.1) fun a495 => bnd (bnd (bnd (bnd (bnd (ret u.2.1) fun a485 => bnd (bnd (ret u.2.2) fun a483 => bnd (ret ()) fun a484 => ret (a483, a484)) fun a486 => ret (a485, a486)) fun q487 => lft (m_fresh_runs (q487.1, q487.2.1))) fun a488 => bnd (bnd (ret 1) fun a489 => ret (-a489)) fun a490 => ixM a488 a490) fun a491 => bnd (bnd (ret 1) fun a492 => ret (-a492)) fun a493 => ixM a491 a493) fun a496 => nxc (lft (m_Tape_DgetitemD (a495, a496)))) fun a497 => ret a497.2) fun a480 => bnd (ret []) fun l481 => ret (a480 :: l481)) fun l499 => ret (a498 :: l499)) fun l508 => ret (l461 ++ l508)) fun l509 => bnd (lenG l509) fun _ => ret l509) fun a510 => ret (.rt a510))))))))
def m_way (u : ((Int × List (Int × Int)) × (List Int) × (List (Int × Int)))) : SM Unit (List Int) := runB (o_way u)
def o_waits (u : ((Int × List (Int × Int)) × (List Int) × (List (Int × Int)))) : SM Unit (Fl Empty Empty (List (Option (Int × Int)))) := (bnd (bnd (bnd (ret u.1) fun a516 => bnd (bnd (ret u.2.1) fun a514 => bnd (bnd (ret u.2.2) fun a512 => bnd (ret ()) fun a513 => ret (a512, a513)) fun a515 => ret (a514, a515)) fun a517 => ret (a516, a517)) fun q518 => lft (m_way (q518.1, q518.2.1, q518.2.2.1))) fun v_stops511 => (bnd (bnd (ret u.2.1) fun xs => lcM (fun x520 => lcIt (ret true) (ret none)) [] xs) fun v_found519 => (bnd (ret 0) fun v_steps522 => (bnd (bnd (ret u.1) fun a521 => nxc (lft (m_Tape_length a521))) fun v_place523 => (bnd (bnd (bnd (ret u.2.1) fun a527 => bnd (bnd (ret u.2.2) fun a525 => bnd (ret ()) fun a526 => ret (a525, a526)) fun a528 => ret (a527, a528)) fun q529 => lft (m_fresh_runs (q529.1, q529.2.1))) fun v_runs524 => (bnd (bnd (ret v_stops511) fun a531 => ret (enum a531)) fun xs => lpM (forM_ xs (fun (l530 : ((List (Option (Int × Int))) × Int × Int)) x532 => (bnd (bnd (bnd (ret x532.1) fun a537 => bnd (ret 2) fun a538 => modM a537 a538) fun a535 => bnd (ret 1) fun a536 => ret (decide (a535 = a536))) fun k539 => thn_ (if k539 then (bnd (bnd (ret v_runs524) fun a570 => bnd (bnd (ret x532.1) fun a571 => bnd (ret 2) fun a572 => divM a571 a572) fun a573 => ixM a570 a573) fun xs => lpM (forM_ xs (fun (l569 : (List (Option (Int × Int)))) x574 => (bnd (bnd (bnd (bnd (bnd (ret l530.2.2) fun a587 => bnd (bnd (bnd (ret u.1) fun a584 => bnd (ret x574) fun a585 => nxc (lft (m_Tape_DgetitemD (a584, a585)))) fun a586 => ret a586.2) fun a588 => ret (a587 + a588)) fun a589 => bnd (ret l530.2.1) fun a590 => ret (a589 - a590)) fun a591 => bnd (ret x532.1) fun a592 => ret (a591, a592)) fun a593 => ret (some a593)) fun a594 => bnd (ret x574) fun a595 => bnd (setM l569 a595 a594) fun v_found596 => (ret (.nx v_found596)))) l530.1) fun l569 => (ret (.nx l569))) else (ret (.nx l530.1))) fun n568 => (bnd (bnd (bnd (ret x532.2) fun a599 => bnd (ret l530.2.1) fun a600 => ret (a599 - a600)) fun a601 => ret (if a601 < 0 then -a601 else a601)) fun a598 => bnd (ret (l530.2.2 + a598)) fun v_steps597 => (bnd (ret x532.2) fun v_place603 => (ret (.nx (n568, v_place603, v_steps597))))))) (v_found519, v_place523, v_steps522)) fun l530 => (bnd (ret l530.1) fun a604 => ret (.rt a604))))))))
def m_waits (u : ((Int × List (Int × Int)) × (List Int) × (List (Int × Int)))) : SM Unit (List (Option (Int × Int))) := runB (o_waits u)
def o__law_coin (u : Int) : SM (List Int) (Fl Empty Empty Int) := (bnd (bnd (bnd (ret 0) fun a605 => stIx a605) fun a606 => bnd (ret 0) fun a607 => ret (decide (a607 < a606))) fun k608 => if k608 then esc (bnd (bnd (bnd (bnd (ret 0) fun a613 => stIx a613) fun a614 => ret a614) fun a616 => bnd (ret u) fun a617 => modM a616 a617) fun v_law_drawn609 => (bnd (bnd (bnd (ret 0) fun a619 => stIx a619) fun a620 => bnd (ret u) fun a621 => divWM a620 a621) fun a622 => bnd (ret 0) fun a623 => bnd (stSet a623 a622) fun _ => (bnd (ret v_law_drawn609) fun a624 => ret (.rt a624)))) else (bnd (bnd (bnd (ret 2) fun a626 => stIx a626) fun a627 => bnd (ret 1) fun a628 => ret (a627 + a628)) fun a629 => bnd (ret 2) fun a630 => bnd (stSet a630 a629) fun _ => (bnd (bnd (bnd (bnd (bnd (bnd (ret 1) fun a662 => stIx a662) fun a666 => bnd (bnd (ret 2038074743) fun a664 => bnd (bnd (ret 2) fun a663 => stIx a663) fun a665 => mulWM a664 a665) fun a667 => ret (a666 + a667)) fun a668 => ret a668) fun a670 => bnd (ret 3) fun a671 => powM a670 a671) fun a678 => bnd (bnd (bnd (ret 10) fun a674 => bnd (ret 25) fun a675 => powM a674 a675) fun a676 => bnd (ret 13) fun a677 => ret (a676 + a677)) fun a679 => modM a678 a679) fun v_law_stirred631 => (bnd (bnd (bnd (bnd (bnd (ret v_law_stirred631) fun a707 => bnd (bnd (ret 982451653) fun a705 => bnd (bnd (ret 2) fun a704 => stIx a704) fun a706 => mulWM a705 a706) fun a708 => ret (a707 + a708)) fun a709 => ret a709) fun a711 => bnd (ret 2) fun a712 => powM a711 a712) fun a719 => bnd (bnd (bnd (ret 10) fun a715 => bnd (ret 24) fun a716 => powM a715 a716) fun a717 => bnd (ret 7) fun a718 => ret (a717 + a718)) fun a720 => modM a719 a720) fun v_law_stirred680 => (bnd (bnd (bnd (bnd (ret v_law_stirred680) fun a725 => bnd (ret 1024) fun a726 => divWM a725 a726) fun a727 => ret a727) fun a729 => bnd (ret u) fun a730 => modM a729 a730) fun a731 => ret (.rt a731))))))
def m__law_coin (u : Int) : SM (List Int) Int := runB (o__law_coin u)
def o__law_drawn_tape (u : (Int × Int)) : SM (List Int) (Fl Empty Empty (Int × (List (Int × Int)))) := (bnd (bnd (bnd (bnd (ret 0) fun a738 => bnd (bnd (bnd (bnd (ret ()) fun _ => bnd (bnd (ret 4) fun a734 => bnd (ret ()) fun a735 => ret (a734, a735)) fun a737 => ret ((), a737)) fun q736 => m__law_coin q736.2.1) fun a732 => bnd (ret []) fun l733 => ret (a732 :: l733)) fun l739 => ret (a738 :: l739)) fun l740 => bnd (lenG l740) fun _ => ret l740) fun a741 => bnd (bnd (bnd (ret ()) fun _ => bnd (bnd (ret 2) fun a742 => bnd (ret ()) fun a743 => ret (a742, a743)) fun a745 => ret ((), a745)) fun q744 => m__law_coin q744.2.1) fun a746 => ixM a741 a746) fun v_law_place_here748 => (bnd (bnd (ret []) fun l747 => bnd (lenG l747) fun _ => ret l747) fun v_law_files_here749 => (bnd (bnd (bnd (bnd (ret ()) fun _ => bnd (bnd (bnd (ret u.1) fun a751 => bnd (ret 1) fun a752 => ret (a751 + a752)) fun a753 => bnd (ret ()) fun a754 => ret (a753, a754)) fun a756 => ret ((), a756)) fun q755 => m__law_coin q755.2.1) fun a758 => bnd (rngG a758) fun _ => ret (upto 0 a758.toNat)) fun xs => lpM (forM_ xs (fun (l750 : ((List (Int × Int)) × Int)) x759 => (bnd (bnd (ret 1) fun a765 => bnd (bnd (bnd (ret ()) fun _ => bnd (bnd (ret u.2) fun a761 => bnd (ret ()) fun a762 => ret (a761, a762)) fun a764 => ret ((), a764)) fun q763 => m__law_coin q763.2.1) fun a766 => ret (a765 + a766)) fun v_law_size_here760 => (bnd (bnd (ret l750.2) fun a769 => bnd (bnd (ret l750.2) fun a767 => bnd (ret v_law_size_here760) fun a768 => ret (a767 + a768)) fun a770 => ret (a769, a770)) fun a771 => bnd (pushM l750.1 a771) fun v_law_files_here772 => (bnd (bnd (bnd (bnd (ret 0) fun a780 => bnd (bnd (bnd (bnd (ret ()) fun _ => bnd (bnd (ret 5) fun a776 => bnd (ret ()) fun a777 => ret (a776, a777)) fun a779 => ret ((), a779)) fun q778 => m__law_coin q778.2.1) fun a774 => bnd (ret []) fun l775 => ret (a774 :: l775)) fun l781 => ret (a780 :: l781)) fun l782 => bnd (lenG l782) fun _ => ret l782) fun a783 => bnd (bnd (bnd (ret ()) fun _ => bnd (bnd (ret 2) fun a784 => bnd (ret ()) fun a785 => ret (a784, a785)) fun a787 => ret ((), a787)) fun q786 => m__law_coin q786.2.1) fun a788 => ixM a783 a788) fun v_law_gap773 => (bnd (bnd (bnd (ret l750.2) fun a792 => bnd (ret v_law_size_here760) fun a793 => ret (a792 + a793)) fun a794 => bnd (ret v_law_gap773) fun a795 => ret (a794 + a795)) fun v_law_place_here789 => (ret (.nx (v_law_files_here772, v_law_place_here789)))))))) (v_law_files_here749, v_law_place_here748)) fun l750 => (bnd (bnd (bnd (ret 1) fun a802 => bnd (bnd (ret l750.2) fun a800 => bnd (bnd (bnd (ret ()) fun _ => bnd (bnd (ret 3) fun a796 => bnd (ret ()) fun a797 => ret (a796, a797)) fun a799 => ret ((), a799)) fun q798 => m__law_coin q798.2.1) fun a801 => ret (a800 + a801)) fun a803 => ret (if a803 > a802 then a803 else a802)) fun a804 => bnd (ret l750.1) fun a805 => ret (a804, a805)) fun a806 => ret (.rt a806)))))
def m__law_drawn_tape (u : (Int × Int)) : SM (List Int) (Int × (List (Int × Int))) := runB (o__law_drawn_tape u)
def o__law_great_tape (u : Unit) : SM (List Int) (Fl Empty Empty (Int × (List (Int × Int)))) := (bnd (bnd (bnd (ret ()) fun _ => bnd (bnd (bnd (ret 10) fun a807 => bnd (ret 4) fun a808 => powM a807 a808) fun a809 => bnd (ret ()) fun a810 => ret (a809, a810)) fun a812 => ret ((), a812)) fun q811 => m__law_coin q811.2.1) fun v_law_place_here814 => (bnd (bnd (ret []) fun l813 => bnd (lenG l813) fun _ => ret l813) fun v_law_files_here815 => (bnd (bnd (bnd (bnd (ret ()) fun _ => bnd (bnd (ret 61) fun a817 => bnd (ret ()) fun a818 => ret (a817, a818)) fun a820 => ret ((), a820)) fun q819 => m__law_coin q819.2.1) fun a822 => bnd (rngG a822) fun _ => ret (upto 0 a822.toNat)) fun xs => lpM (forM_ xs (fun (l816 : ((List (Int × Int)) × Int)) x823 => (bnd (bnd (ret 1) fun a829 => bnd (bnd (bnd (ret ()) fun _ => bnd (bnd (ret 8000) fun a825 => bnd (ret ()) fun a826 => ret (a825, a826)) fun a828 => ret ((), a828)) fun q827 => m__law_coin q827.2.1) fun a830 => ret (a829 + a830)) fun v_law_size_here824 => (bnd (bnd (ret l816.2) fun a833 => bnd (bnd (ret l816.2) fun a831 => bnd (ret v_law_size_here824) fun a832 => ret (a831 + a832)) fun a834 => ret (a833, a834)) fun a835 => bnd (pushM l816.1 a835) fun v_law_files_here836 => (bnd (bnd (bnd (ret l816.2) fun a840 => bnd (ret v_law_size_here824) fun a841 => ret (a840 + a841)) fun a846 => bnd (bnd (bnd (ret ()) fun _ => bnd (bnd (ret 5000) fun a842 => bnd (ret ()) fun a843 => ret (a842, a843)) fun a845 => ret ((), a845)) fun q844 => m__law_coin q844.2.1) fun a847 => ret (a846 + a847)) fun v_law_place_here837 => (ret (.nx (v_law_files_here836, v_law_place_here837))))))) (v_law_files_here815, v_law_place_here814)) fun l816 => (bnd (bnd (bnd (ret 1) fun a854 => bnd (bnd (ret l816.2) fun a852 => bnd (bnd (bnd (ret ()) fun _ => bnd (bnd (ret 5) fun a848 => bnd (ret ()) fun a849 => ret (a848, a849)) fun a851 => ret ((), a851)) fun q850 => m__law_coin q850.2.1) fun a853 => ret (a852 + a853)) fun a855 => ret (if a855 > a854 then a855 else a854)) fun a856 => bnd (ret l816.1) fun a857 => ret (a856, a857)) fun a858 => ret (.rt a858)))))
def m__law_great_tape (u : Unit) : SM (List Int) (Int × (List (Int × Int))) := runB (o__law_great_tape u)
def o__law_drawn_asks (u : ((Int × (List (Int × Int))) × Int)) : SM (List Int) (Fl Empty Empty (List Int)) := (bnd (bnd (ret []) fun l860 => bnd (lenG l860) fun _ => ret l860) fun v_law_found859 => (bnd (bnd (ret u.1) fun a862 => ret a862.2) fun xs => lpM (forM_ xs (fun (l861 : (List Int)) x863 => (bnd (bnd (bnd (bnd (ret 0) fun a874 => bnd (bnd (ret 1) fun a872 => bnd (bnd (bnd (bnd (ret ()) fun _ => bnd (bnd (bnd (ret u.2) fun a866 => bnd (ret 1) fun a867 => ret (a866 + a867)) fun a868 => bnd (ret ()) fun a869 => ret (a868, a869)) fun a871 => ret ((), a871)) fun q870 => m__law_coin q870.2.1) fun a864 => bnd (ret []) fun l865 => ret (a864 :: l865)) fun l873 => ret (a872 :: l873)) fun l875 => ret (a874 :: l875)) fun l876 => bnd (lenG l876) fun _ => ret l876) fun a877 => bnd (bnd (bnd (ret ()) fun _ => bnd (bnd (ret 3) fun a878 => bnd (ret ()) fun a879 => ret (a878, a879)) fun a881 => ret ((), a881)) fun q880 => m__law_coin q880.2.1) fun a882 => ixM a877 a882) fun a883 => bnd (pushM l861 a883) fun v_law_found884 => (ret (.nx v_law_found884)))) v_law_found859) fun l861 => (bnd (ret l861) fun a885 => ret (.rt a885))))
def m__law_drawn_asks (u : ((Int × (List (Int × Int))) × Int)) : SM (List Int) (List Int) := runB (o__law_drawn_asks u)
def o__law_asked (u : (List Int)) : SM Unit (Fl Empty Empty (List Int)) := (bnd (bnd (bnd (ret u) fun a886 => ret (enum a886)) fun xs => lcM (fun x887 => lcIt (bnd (ret x887.2) fun a888 => bnd (ret 0) fun a889 => ret (decide (a889 < a888))) (ret x887.1)) [] xs) fun a890 => ret (.rt a890))
def m__law_asked (u : (List Int)) : SM Unit (List Int) := runB (o__law_asked u)
def o__law_drawn_row (u : (List Int)) : SM (List Int) (Fl Empty Empty (List (Int × Int))) := (bnd (bnd (bnd (ret u) fun a891 => bnd (ret ()) fun a892 => ret (a891, a892)) fun q893 => lft (m__law_asked q893.1)) fun v_law_asked_here895 => (bnd (bnd (ret []) fun l894 => bnd (lenG l894) fun _ => ret l894) fun v_law_found896 => (bnd (bnd (bnd (bnd (ret v_law_asked_here895) fun a899 => ret ((a899).length : Int)) fun a900 => bnd (ret 1) fun a901 => ret (a900 - a901)) fun a902 => bnd (ret 0) fun a903 => bnd (rngG a902) fun _ => bnd (rngG a903) fun _ => ret (dnto a902 (a902 - a903).toNat)) fun xs => lpM (forM_ xs (fun (l897 : (List (Int × Int))) x904 => (bnd (bnd (bnd (bnd (ret ()) fun _ => bnd (bnd (ret 2) fun a911 => bnd (ret ()) fun a912 => ret (a911, a912)) fun a914 => ret ((), a914)) fun q913 => m__law_coin q913.2.1) fun a909 => bnd (ret 0) fun a910 => ret (decide (a909 = a910))) fun k915 => thn_ (if k915 then (bnd (bnd (ret x904) fun a945 => bnd (bnd (bnd (ret ()) fun _ => bnd (bnd (bnd (bnd (ret v_law_asked_here895) fun a938 => ret ((a938).length : Int)) fun a939 => bnd (ret x904) fun a940 => ret (a939 - a940)) fun a941 => bnd (ret ()) fun a942 => ret (a941, a942)) fun a944 => ret ((), a944)) fun q943 => m__law_coin q943.2.1) fun a946 => ret (a945 + a946)) fun v_law_far936 => (bnd (bnd (bnd (ret v_law_asked_here895) fun a947 => bnd (ret x904) fun a948 => ixM a947 a948) fun a951 => bnd (bnd (ret v_law_asked_here895) fun a949 => bnd (ret v_law_far936) fun a950 => ixM a949 a950) fun a952 => ret (a951, a952)) fun a953 => bnd (pushM l897 a953) fun v_law_found954 => (ret (.nx v_law_found954)))) else (ret (.nx l897))) fun n935 => (ret (.nx n935)))) v_law_found896) fun l897 => (bnd (ret l897) fun a955 => ret (.rt a955)))))
def m__law_drawn_row (u : (List Int)) : SM (List Int) (List (Int × Int)) := runB (o__law_drawn_row u)
def o__law_led (u : ((Int × (List (Int × Int))) × (List Int) × (List (Int × Int)))) : SM Unit (Fl Empty Empty (List Int)) := (bnd (bnd (bnd (ret u.2.1) fun a957 => bnd (ret ()) fun a958 => ret (a957, a958)) fun q959 => lft (m__law_asked q959.1)) fun v_law_asked_here956 => (bnd (bnd (ret v_law_asked_here956) fun a961 => bnd (bnd (ret []) fun l960 => bnd (lenG l960) fun _ => ret l960) fun a962 => eqD ((dL PyData.int) a961) ((dL PyData.int) a962)) fun k963 => if k963 then esc (bnd (bnd (bnd (bnd (ret u.1) fun a966 => ret a966.1) fun a964 => bnd (ret []) fun l965 => ret (a964 :: l965)) fun l967 => bnd (lenG l967) fun _ => ret l967) fun a968 => ret (.rt a968)) else (bnd (bnd (ret []) fun l969 => bnd (lenG l969) fun _ => ret l969) fun v_law_found971 => (bnd (bnd (ret v_law_asked_here956) fun a970 => ret a970) fun v_law_unread972 => (bnd (ret u.2.2) fun xs => lpM (forM_ xs (fun (l973 : ((List Int) × (List Int))) x974 => (bnd (bnd (ret ()) fun a989 => bnd (bnd (bnd (bnd (bnd (bnd (ret u.1) fun a984 => ret a984.2) fun a985 => bnd (ret x974.1) fun a986 => ixM a985 a986) fun a987 => ret a987.1) fun a982 => bnd (bnd (bnd (bnd (bnd (ret u.1) fun a978 => ret a978.2) fun a979 => bnd (ret x974.2) fun a980 => ixM a979 a980) fun a981 => ret a981.2) fun a976 => bnd (ret []) fun l977 => ret (a976 :: l977)) fun l983 => ret (a982 :: l983)) fun l988 => bnd (lenG l988) fun _ => ret l988) fun a990 => catM l973.1 a990) fun v_law_found975 => (bnd (bnd (ret l973.2) fun xs => lcM (fun x992 => lcIt (bnd (bnd (ret x974.1) fun a993 => bnd (ret x992) fun a994 => if decide (a993 ≤ a994) then bnd (ret x974.2) fun a995 => ret (decide (a994 ≤ a995)) else ret false) fun k996 => ret (!k996)) (ret x992)) [] xs) fun v_law_unread991 => (ret (.nx (v_law_found975, v_law_unread991)))))) (v_law_found971, v_law_unread972)) fun l973 => (bnd (bnd (bnd (bnd (ret u.1) fun a997 => ret a997.2) fun a998 => bnd (bnd (ret v_law_asked_here956) fun a999 => bnd (ret 0) fun a1000 => ixM a999 a1000) fun a1001 => ixM a998 a1001) fun a1002 => ret a1002.1) fun a1003 => bnd (pushM l973.1 a1003) fun v_law_found1004 => (bnd (bnd (ret ()) fun a1015 => bnd (bnd (bnd (bnd (bnd (bnd (ret u.1) fun a1007 => ret a1007.2) fun a1008 => bnd (bnd (ret l973.2) fun a1009 => bnd (bnd (ret 1) fun a1010 => ret (-a1010)) fun a1011 => ixM a1009 a1011) fun a1012 => ixM a1008 a1012) fun a1013 => ret a1013.2) fun a1005 => bnd (ret []) fun l1006 => ret (a1005 :: l1006)) fun l1014 => bnd (lenG l1014) fun _ => ret l1014) fun a1016 => catM v_law_found1004 a1016) fun a1017 => ret (.rt a1017))))))))
def m__law_led (u : ((Int × (List (Int × Int))) × (List Int) × (List (Int × Int)))) : SM Unit (List Int) := runB (o__law_led u)
def o__law_waits (u : ((Int × (List (Int × Int))) × (List Int) × (List Int))) : SM Unit (Fl Empty Empty (List (Option (Int × Int)))) := (bnd (bnd (ret u.1) fun a1018 => ret a1018.1) fun v_law_spot_here1020 => (bnd (bnd (ret u.1) fun a1019 => ret a1019.1) fun v_law_edge1021 => (bnd (ret 0) fun v_law_steps1022 => (bnd (ret 0) fun v_law_turns1023 => (bnd (ret true) fun v_law_is_left1024 => (bnd (bnd (bnd (ret u.1) fun a1026 => ret a1026.2) fun xs => lcM (fun x1027 => lcIt (ret true) (ret none)) [] xs) fun v_law_found1025 => (bnd (ret u.2.2) fun xs => lpM (forM_ xs (fun (l1028 : (Int × (List (Option (Int × Int))) × Bool × Int × Int × Int)) x1029 => (bnd (bnd (ret x1029) fun a1030 => bnd (ret l1028.2.2.2.1) fun a1031 => ret (!decide (a1030 = a1031))) fun k1032 => thn_ (if k1032 then (bnd (bnd (bnd (ret x1029) fun a1115 => bnd (ret l1028.2.2.2.1) fun a1116 => ret (decide (a1115 < a1116))) fun a1113 => bnd (ret l1028.2.2.1) fun a1114 => ret (!decide (a1113 = a1114))) fun k1117 => thn_ (if k1117 then (bnd (bnd (ret l1028.2.2.2.2.2) fun a1125 => bnd (ret 1) fun a1126 => ret (a1125 + a1126)) fun v_law_turns1128 => (bnd (bnd (ret l1028.2.2.1) fun a1127 => ret (!a1127)) fun v_law_is_left1129 => (bnd (ret l1028.2.2.2.1) fun v_law_edge1130 => (ret (.nx (v_law_edge1130, v_law_is_left1129, v_law_turns1128)))))) else (ret (.nx (l1028.1, l1028.2.2.1, l1028.2.2.2.2.2)))) fun n1124 => (bnd (bnd (bnd (ret u.1) fun a1132 => ret a1132.2) fun a1133 => ret (enum a1133)) fun xs => lpM (forM_ xs (fun (l1131 : (List (Option (Int × Int)))) x1134 => (bnd (bnd (bnd (bnd (ret ()) fun a1136 => bnd (ret x1134.1) fun a1137 => ixM l1131 a1137) fun a1138 => ret (a1138).isNone) fun a1143 => if a1143 then (bnd (bnd (ret u.2.1) fun a1139 => bnd (ret x1134.1) fun a1140 => ixM a1139 a1140) fun a1141 => bnd (ret 0) fun a1142 => ret (decide (a1142 < a1141))) else ret false) fun v_law_is_new1135 => (bnd (bnd (ret v_law_is_new1135) fun k1153 => if k1153 then (bnd (bnd (ret n1124.2.1) fun k1146 => ret (!k1146)) fun k1152 => if k1152 then (bnd (bnd (ret n1124.1) fun a1147 => bnd (ret x1134.2.1) fun a1148 => ret (decide (a1147 ≤ a1148))) fun k1151 => if k1151 then (bnd (ret x1134.2.2) fun a1149 => bnd (ret x1029) fun a1150 => ret (decide (a1149 ≤ a1150))) else ret false) else ret false) else ret false) fun k1154 => thn_ (if k1154 then (bnd (bnd (bnd (bnd (bnd (ret l1028.2.2.2.2.1) fun a1170 => bnd (ret x1134.2.2) fun a1171 => ret (a1170 + a1171)) fun a1172 => bnd (ret l1028.2.2.2.1) fun a1173 => ret (a1172 - a1173)) fun a1174 => bnd (ret n1124.2.2) fun a1175 => ret (a1174, a1175)) fun a1176 => ret (some a1176)) fun a1177 => bnd (ret x1134.1) fun a1178 => bnd (setM l1131 a1178 a1177) fun v_law_found1179 => (ret (.nx v_law_found1179))) else (ret (.nx l1131))) fun n1167 => (ret (.nx n1167))))) l1028.2.1) fun l1131 => (bnd (bnd (ret l1028.2.2.2.2.1) fun a1184 => bnd (bnd (bnd (ret x1029) fun a1180 => bnd (ret l1028.2.2.2.1) fun a1181 => ret (a1180 - a1181)) fun a1182 => ret (if a1182 < 0 then -a1182 else a1182)) fun a1185 => ret (a1184 + a1185)) fun v_law_steps1186 => (bnd (ret x1029) fun v_law_spot_here1187 => (ret (.nx (n1124.1, l1131, n1124.2.1, v_law_spot_here1187, v_law_steps1186, n1124.2.2))))))) else (ret (.nx (l1028.1, l1028.2.1, l1028.2.2.1, l1028.2.2.2.1, l1028.2.2.2.2.1, l1028.2.2.2.2.2)))) fun n1110 => (ret (.nx (n1110.1, n1110.2.1, n1110.2.2.1, n1110.2.2.2.1, n1110.2.2.2.2.1, n1110.2.2.2.2.2))))) (v_law_edge1021, v_law_found1025, v_law_is_left1024, v_law_spot_here1020, v_law_steps1022, v_law_turns1023)) fun l1028 => (bnd (ret l1028.2.1) fun a1188 => ret (.rt a1188)))))))))
def m__law_waits (u : ((Int × (List (Int × Int))) × (List Int) × (List Int))) : SM Unit (List (Option (Int × Int))) := runB (o__law_waits u)
def o__law_made (u : (Int × (List (Int × Int)))) : SM Unit (Fl Empty Empty (Int × List (Int × Int))) := (bnd (bnd (bnd (bnd (ret u) fun a1191 => ret a1191.1) fun a1196 => bnd (bnd (bnd (bnd (ret u) fun a1192 => ret a1192.2) fun a1193 => ret a1193) fun a1194 => bnd (ret ()) fun a1195 => ret (a1194, a1195)) fun a1197 => ret (a1196, a1197)) fun q1198 => bnd (subM (m_Tape_DinitD (q1198.1, q1198.2.1)) TS0.new) fun r1199 => tapeM r1199.2) fun a1200 => ret (.rt a1200))
def m__law_made (u : (Int × (List (Int × Int)))) : SM Unit (Int × List (Int × Int)) := runB (o__law_made u)
def o__law_tape_text (u : (Int × (List (Int × Int)))) : SM Unit (Fl Empty Empty Str) := (bnd (bnd (bnd (bnd (bnd (bnd (ret u) fun a1207 => ret a1207.1) fun a1208 => bnd (grd (a1208.natAbs.log2 < 1920)) fun _ => ret (istr a1208)) fun a1210 => bnd (ret (":" : Str)) fun a1211 => catS a1210 a1211) fun a1202 => bnd (ret []) fun l1203 => ret (a1202 :: l1203)) fun l1212 => bnd (lenG l1212) fun _ => ret l1212) fun v_law_found1201 => (bnd (bnd (ret u) fun a1214 => ret a1214.2) fun xs => lpM (forM_ xs (fun (l1213 : (List Str)) x1215 => (bnd (bnd (bnd (bnd (ret x1215.1) fun a1224 => bnd (grd (a1224.natAbs.log2 < 1920)) fun _ => ret (istr a1224)) fun a1226 => bnd (ret ("-" : Str)) fun a1227 => catS a1226 a1227) fun a1230 => bnd (bnd (ret x1215.2) fun a1228 => bnd (grd (a1228.natAbs.log2 < 1920)) fun _ => ret (istr a1228)) fun a1231 => catS a1230 a1231) fun a1232 => bnd (pushM l1213 a1232) fun v_law_found1233 => (ret (.nx v_law_found1233)))) v_law_found1201) fun l1213 => (bnd (bnd (ret (" " : Str)) fun a1234 => bnd (ret ()) fun a1235 => joinM a1234 l1213) fun a1236 => ret (.rt a1236))))
def m__law_tape_text (u : (Int × (List (Int × Int)))) : SM Unit Str := runB (o__law_tape_text u)
def o_show_row (u : (List (Int × Int))) : SM Unit (Fl Empty Empty Str) := (bnd (bnd (bnd (ret u) fun a1238 => bnd (bnd (ret []) fun l1237 => bnd (lenG l1237) fun _ => ret l1237) fun a1239 => neD ((dL (dP PyData.int PyData.int)) a1238) ((dL (dP PyData.int PyData.int)) a1239)) fun k1252 => if k1252 then (bnd (ret (" " : Str)) fun a1240 => bnd (bnd (ret u) fun xs => lcM (fun x1242 => lcIt (ret true) ((fun (z1250 : Str) => bnd (bnd (ret x1242.1) fun a1243 => bnd (grd (a1243.natAbs.log2 < 1920)) fun _ => ret (istr a1243)) fun a1251 => bnd (grd ((z1250 ++ a1251).length ≤ sizeLine)) fun _ => (fun (z1248 : Str) => bnd (ret ("|" : Str)) fun a1249 => bnd (grd ((z1248 ++ a1249).length ≤ sizeLine)) fun _ => (fun (z1246 : Str) => bnd (bnd (ret x1242.2) fun a1244 => bnd (grd (a1244.natAbs.log2 < 1920)) fun _ => ret (istr a1244)) fun a1247 => bnd (grd ((z1246 ++ a1247).length ≤ sizeLine)) fun _ => (fun (z1245 : Str) => ret z1245) (z1246 ++ a1247)) (z1248 ++ a1249)) (z1250 ++ a1251)) Str.empty)) [] xs) fun a1241 => joinM a1240 a1241) else (ret ("-" : Str))) fun a1253 => ret (.rt a1253))
def m_show_row (u : (List (Int × Int))) : SM Unit Str := runB (o_show_row u)
def o_show_asks (u : (List Int)) : SM Unit (Fl Empty Empty Str) := (bnd (bnd (bnd (ret u) fun a1255 => bnd (bnd (ret []) fun l1254 => bnd (lenG l1254) fun _ => ret l1254) fun a1256 => neD ((dL PyData.int) a1255) ((dL PyData.int) a1256)) fun k1262 => if k1262 then (bnd (ret ("," : Str)) fun a1257 => bnd (bnd (ret u) fun xs => lcM (fun x1259 => lcIt (ret true) (bnd (ret x1259) fun a1260 => bnd (grd (a1260.natAbs.log2 < 1920)) fun _ => ret (istr a1260))) [] xs) fun a1258 => joinM a1257 a1258) else (ret ("-" : Str))) fun a1263 => ret (.rt a1263))
def m_show_asks (u : (List Int)) : SM Unit Str := runB (o_show_asks u)
def o_read_row (u : Str) : SM Unit (Fl Empty Empty (List (Int × Int))) := (bnd (bnd (bnd (ret u) fun a1265 => bnd (ret ("-" : Str)) fun a1266 => ret (!decide (a1265 = a1266))) fun k1276 => if k1276 then (bnd (bnd (ret u) fun a1267 => bnd (ret (" " : Str)) fun a1268 => splitM a1267 a1268) fun xs => lcM (fun x1269 => lcIt (ret true) (bnd (bnd (ret x1269) fun a1272 => bnd (bnd (ret ("|" : Str)) fun a1270 => bnd (ret ()) fun a1271 => ret (a1270, a1271)) fun a1273 => ret (a1272, a1273)) fun q1274 => lft (m_pair_in (q1274.1, q1274.2.1)))) [] xs) else (bnd (ret []) fun l1275 => bnd (lenG l1275) fun _ => ret l1275)) fun v_found1264 => (bnd (bnd (bnd (ret v_found1264) fun a1277 => ret ((a1277).any Option.isNone)) fun k1289 => if k1289 then ret true else (bnd (bnd (asM (allS v_found1264)) fun y1278 => (bnd (bnd (ret y1278) fun xs => lcM (fun x1284 => lcIt (ret true) (bnd (ret x1284.1) fun a1285 => bnd (ret x1284.2) fun a1286 => ret (decide (a1285 ≤ a1286)))) [] xs) fun a1287 => ret ((a1287).all id))) fun k1288 => ret (!k1288))) fun k1290 => if k1290 then esc stk else (bnd (bnd (bnd (bnd (asM (allS v_found1264)) fun y1291 => (bnd (bnd (bnd (ret y1291) fun a1309 => bnd (bnd (ret y1291) fun a1305 => bnd (bnd (ret 1) fun a1306 => ret (some a1306)) fun a1307 => bnd (ret none) fun a1308 => ret (cutL a1305 a1307 a1308)) fun a1310 => ret (a1309.zip a1310)) fun xs => lcM (fun x1311 => lcIt (ret true) (bnd (bnd (ret x1311.1) fun a1312 => ret a1312.1) fun a1314 => bnd (bnd (ret x1311.2) fun a1313 => ret a1313.1) fun a1315 => ret (decide (a1315 < a1314)))) [] xs) fun a1316 => ret ((a1316).all id))) fun k1317 => ret (!k1317)) fun k1327 => if k1327 then ret true else (bnd (asM (allS v_found1264)) fun y1318 => (bnd (bnd (bnd (ret y1318) fun a1324 => bnd (ret ()) fun a1325 => ret (a1324, a1325)) fun q1326 => lft (m_show_row q1326.1)) fun a1322 => bnd (ret u) fun a1323 => ret (!decide (a1322 = a1323))))) fun k1328 => if k1328 then esc stk else (bnd (bnd (ret v_found1264) fun a1329 => asM (allS a1329)) fun a1330 => ret (.rt a1330)))))
def m_read_row (u : Str) : SM Unit (List (Int × Int)) := runB (o_read_row u)
def o_read_asks (u : Str) : SM Unit (Fl Empty Empty (List Int)) := (bnd (bnd (bnd (ret u) fun a1332 => bnd (ret ("-" : Str)) fun a1333 => ret (!decide (a1332 = a1333))) fun k1341 => if k1341 then (bnd (bnd (ret u) fun a1334 => bnd (ret ("," : Str)) fun a1335 => splitM a1334 a1335) fun xs => lcM (fun x1336 => lcIt (ret true) (bnd (bnd (ret x1336) fun a1337 => bnd (ret ()) fun a1338 => ret (a1337, a1338)) fun q1339 => lft (m_number_in q1339.1))) [] xs) else (bnd (ret []) fun l1340 => bnd (lenG l1340) fun _ => ret l1340)) fun v_found1331 => (bnd (bnd (bnd (ret ()) fun a1342 => ret ((v_found1331).any Option.isNone)) fun k1352 => if k1352 then ret true else (bnd (asM (allS v_found1331)) fun y1343 => (bnd (bnd (bnd (ret ()) fun a1349 => bnd (ret ()) fun a1350 => ret (a1349, a1350)) fun q1351 => lft (m_show_asks y1343)) fun a1347 => bnd (ret u) fun a1348 => ret (!decide (a1347 = a1348))))) fun k1353 => if k1353 then esc stk else (bnd (bnd (ret v_found1331) fun a1354 => asM (allS a1354)) fun a1355 => ret (.rt a1355))))
def m_read_asks (u : Str) : SM Unit (List Int) := runB (o_read_asks u)
def o__law_lists_right (u : (List Int)) : SM (List Int) (Fl Empty Empty Bool) := (bnd (bnd (bnd (ret ()) fun _ => bnd (bnd (ret u) fun a1357 => bnd (ret ()) fun a1358 => ret (a1357, a1358)) fun a1360 => ret ((), a1360)) fun q1359 => m__law_drawn_row q1359.2.1) fun v_law_row_here1356 => (bnd (ret ("-" : Str)) fun v_law_wording1361 => (bnd (bnd (ret v_law_row_here1356) fun a1363 => bnd (bnd (ret []) fun l1362 => bnd (lenG l1362) fun _ => ret l1362) fun a1364 => neD ((dL (dP PyData.int PyData.int)) a1363) ((dL (dP PyData.int PyData.int)) a1364)) fun k1365 => thn_ (if k1365 then (bnd (bnd (ret (" " : Str)) fun a1393 => bnd (bnd (ret v_law_row_here1356) fun xs => lcM (fun x1395 => lcIt (ret true) (bnd (bnd (bnd (bnd (ret x1395) fun a1407 => ret a1407.1) fun a1408 => bnd (grd (a1408.natAbs.log2 < 1920)) fun _ => ret (istr a1408)) fun a1410 => bnd (ret ("|" : Str)) fun a1411 => catS a1410 a1411) fun a1415 => bnd (bnd (bnd (ret x1395) fun a1412 => ret a1412.2) fun a1413 => bnd (grd (a1413.natAbs.log2 < 1920)) fun _ => ret (istr a1413)) fun a1416 => catS a1415 a1416)) [] xs) fun a1394 => joinM a1393 a1394) fun v_law_wording1392 => (ret (.nx v_law_wording1392))) else (ret (.nx v_law_wording1361))) fun n1391 => (bnd (bnd (bnd (bnd (bnd (ret v_law_row_here1356) fun a1422 => bnd (ret ()) fun a1423 => ret (a1422, a1423)) fun q1424 => lft (m_show_row q1424.1)) fun a1420 => bnd (ret n1391) fun a1421 => ret (!decide (a1420 = a1421))) fun k1435 => if k1435 then ret true else (bnd (bnd (bnd (ret v_law_row_here1356) fun a1431 => bnd (ret ()) fun a1432 => ret (a1431, a1432)) fun q1434 => lft (m_show_row q1434.1)) fun a1429 => bnd (ret n1391) fun a1430 => ret (!decide (a1429 = a1430)))) fun k1436 => if k1436 then esc (bnd (ret false) fun a1437 => ret (.rt a1437)) else (bnd (bnd (bnd (bnd (bnd (ret n1391) fun a1438 => bnd (ret ()) fun a1439 => ret (a1438, a1439)) fun q1440 => lft (m_read_row q1440.1)) fun a1441 => bnd (ret v_law_row_here1356) fun a1442 => neD ((dL (dP PyData.int PyData.int)) a1441) ((dL (dP PyData.int PyData.int)) a1442)) fun k1449 => if k1449 then ret true else (bnd (bnd (bnd (ret n1391) fun a1443 => bnd (ret ()) fun a1444 => ret (a1443, a1444)) fun q1446 => lft (m_read_row q1446.1)) fun a1447 => bnd (ret v_law_row_here1356) fun a1448 => neD ((dL (dP PyData.int PyData.int)) a1447) ((dL (dP PyData.int PyData.int)) a1448))) fun k1450 => if k1450 then esc (bnd (ret false) fun a1451 => ret (.rt a1451)) else (bnd (bnd (ret ("," : Str)) fun a1453 => bnd (bnd (ret u) fun xs => lcM (fun x1455 => lcIt (ret true) (bnd (ret x1455) fun a1456 => bnd (grd (a1456.natAbs.log2 < 1920)) fun _ => ret (istr a1456))) [] xs) fun a1454 => joinM a1453 a1454) fun v_law_wording1452 => (bnd (bnd (ret u) fun a1459 => bnd (bnd (ret []) fun l1458 => bnd (lenG l1458) fun _ => ret l1458) fun a1460 => eqD ((dL PyData.int) a1459) ((dL PyData.int) a1460)) fun k1461 => thn_ (if k1461 then (bnd (ret ("-" : Str)) fun v_law_wording1464 => (ret (.nx v_law_wording1464))) else (ret (.nx v_law_wording1452))) fun n1463 => (bnd (bnd (bnd (bnd (bnd (ret u) fun a1470 => bnd (ret ()) fun a1471 => ret (a1470, a1471)) fun q1472 => lft (m_show_asks q1472.1)) fun a1468 => bnd (ret n1463) fun a1469 => ret (!decide (a1468 = a1469))) fun k1483 => if k1483 then ret true else (bnd (bnd (bnd (ret u) fun a1479 => bnd (ret ()) fun a1480 => ret (a1479, a1480)) fun q1482 => lft (m_show_asks q1482.1)) fun a1477 => bnd (ret n1463) fun a1478 => ret (!decide (a1477 = a1478)))) fun k1484 => if k1484 then esc (bnd (ret false) fun a1485 => ret (.rt a1485)) else (bnd (bnd (bnd (ret n1463) fun a1487 => bnd (ret ()) fun a1488 => ret (a1487, a1488)) fun q1489 => lft (m_read_asks q1489.1)) fun v_law_again1486 => (bnd (ret 7) fun a1490 => bnd (pushM v_law_again1486 a1490) fun v_law_again1491 => (bnd (bnd (bnd (bnd (bnd (ret n1463) fun a1492 => bnd (ret ()) fun a1493 => ret (a1492, a1493)) fun q1494 => lft (m_read_asks q1494.1)) fun a1495 => bnd (ret u) fun a1496 => eqD ((dL PyData.int) a1495) ((dL PyData.int) a1496)) fun a1503 => if a1503 then (bnd (bnd (bnd (ret n1463) fun a1497 => bnd (ret ()) fun a1498 => ret (a1497, a1498)) fun q1500 => lft (m_read_asks q1500.1)) fun a1501 => bnd (ret u) fun a1502 => eqD ((dL PyData.int) a1501) ((dL PyData.int) a1502)) else ret false) fun a1504 => ret (.rt a1504))))))))))))
def m__law_lists_right (u : (List Int)) : SM (List Int) Bool := runB (o__law_lists_right u)
def o__law_right (u : Unit) : SM (List Int) (Fl Empty Empty Bool) := (bnd (bnd (bnd (bnd (ret ()) fun _ => bnd (bnd (ret 2) fun a1512 => bnd (ret ()) fun a1513 => ret (a1512, a1513)) fun a1515 => ret ((), a1515)) fun q1514 => m__law_coin q1514.2.1) fun a1510 => bnd (ret 0) fun a1511 => ret (decide (a1510 = a1511))) fun v_law_is_great1505 => (bnd (bnd (ret v_law_is_great1505) fun k1526 => if k1526 then (bnd (bnd (ret ()) fun _ => bnd (ret ()) fun a1519 => ret ((), a1519)) fun q1518 => m__law_great_tape ()) else (bnd (bnd (ret ()) fun _ => bnd (bnd (ret 8) fun a1522 => bnd (bnd (ret 6) fun a1520 => bnd (ret ()) fun a1521 => ret (a1520, a1521)) fun a1523 => ret (a1522, a1523)) fun a1525 => ret ((), a1525)) fun q1524 => m__law_drawn_tape (q1524.2.1, q1524.2.2.1))) fun v_law_shape1516 => (bnd (bnd (bnd (ret v_law_shape1516) fun a1527 => bnd (ret ()) fun a1528 => ret (a1527, a1528)) fun q1529 => lft (m__law_made q1529.1)) fun v_law_made_here1533 => (bnd (bnd (bnd (ret v_law_shape1516) fun a1530 => bnd (ret ()) fun a1531 => ret (a1530, a1531)) fun q1532 => lft (m__law_tape_text q1532.1)) fun v_law_wording1534 => (bnd (bnd (bnd (bnd (bnd (ret v_law_made_here1533) fun a1540 => bnd (ret ()) fun a1541 => ret (a1540, a1541)) fun q1542 => lft (m_show_tape q1542.1)) fun a1538 => bnd (ret v_law_wording1534) fun a1539 => ret (!decide (a1538 = a1539))) fun k1553 => if k1553 then ret true else (bnd (bnd (bnd (ret v_law_made_here1533) fun a1549 => bnd (ret ()) fun a1550 => ret (a1549, a1550)) fun q1552 => lft (m_show_tape q1552.1)) fun a1547 => bnd (ret v_law_wording1534) fun a1548 => ret (!decide (a1547 = a1548)))) fun k1554 => if k1554 then esc (bnd (ret false) fun a1555 => ret (.rt a1555)) else (bnd (bnd (bnd (ret v_law_wording1534) fun a1557 => bnd (ret ()) fun a1558 => ret (a1557, a1558)) fun q1559 => lft (m_read_tape q1559.1)) fun v_law_back1556 => (bnd (bnd (bnd (bnd (ret v_law_back1556) fun a1560 => bnd (ret v_law_made_here1533) fun a1561 => nxc (lft (m_Tape_DeqD (a1560, a1561)))) fun k1562 => ret (!k1562)) fun k1583 => if k1583 then ret true else (bnd (bnd (bnd (bnd (ret v_law_wording1534) fun a1569 => bnd (ret ()) fun a1570 => ret (a1569, a1570)) fun q1572 => lft (m_read_tape q1572.1)) fun a1567 => bnd (ret v_law_made_here1533) fun a1568 => bnd (nxc (lft (m_Tape_DeqD (a1567, a1568)))) fun k1573 => ret (!k1573)) fun k1582 => if k1582 then ret true else (bnd (bnd (bnd (ret v_law_back1556) fun a1579 => bnd (ret ()) fun a1580 => ret (a1579, a1580)) fun q1581 => lft (m_show_tape q1581.1)) fun a1577 => bnd (ret v_law_wording1534) fun a1578 => ret (!decide (a1577 = a1578))))) fun k1584 => if k1584 then esc (bnd (ret false) fun a1585 => ret (.rt a1585)) else (bnd (bnd (bnd (bnd (bnd (ret v_law_back1556) fun a1586 => nxc (lft (m_Tape_length a1586))) fun a1588 => bnd (bnd (ret v_law_back1556) fun a1587 => nxc (lft (m_Tape_files a1587))) fun a1589 => ret (a1588, a1589)) fun a1590 => bnd (ret v_law_shape1516) fun a1591 => neD ((dP PyData.int (dL (dP PyData.int PyData.int))) a1590) ((dP PyData.int (dL (dP PyData.int PyData.int))) a1591)) fun k1604 => if k1604 then ret true else (bnd (bnd (ret v_law_back1556) fun a1600 => bnd (nxc (lft (m_Tape_DlenD a1600))) fun a1601 => bnd (grd (0 ≤ a1601 ∧ a1601 < 2 ^ 63)) fun _ => ret a1601) fun a1597 => bnd (bnd (bnd (ret v_law_shape1516) fun a1602 => ret a1602.2) fun a1603 => ret ((a1603).length : Int)) fun a1598 => ret (!decide (a1597 = a1598)))) fun k1605 => if k1605 then esc (bnd (ret false) fun a1606 => ret (.rt a1606)) else (bnd (bnd (bnd (ret 2) fun a1610 => bnd (bnd (bnd (ret v_law_shape1516) fun a1608 => ret a1608.2) fun a1609 => ret ((a1609).length : Int)) fun a1611 => ret (if a1611 < a1610 then a1611 else a1610)) fun a1613 => bnd (rngG a1613) fun _ => ret (upto 0 a1613.toNat)) fun xs => lpM (forM_ xs (fun (l1607 : Unit) x1614 => (bnd (bnd (bnd (ret v_law_shape1516) fun a1616 => ret a1616.1) fun a1631 => bnd (bnd (bnd (bnd (ret v_law_shape1516) fun a1617 => ret a1617.2) fun a1618 => bnd (ret none) fun a1620 => bnd (bnd (ret x1614) fun a1619 => ret (some a1619)) fun a1621 => ret (cutL a1618 a1620 a1621)) fun a1629 => bnd (bnd (bnd (ret v_law_shape1516) fun a1622 => ret a1622.2) fun a1623 => bnd (bnd (bnd (ret x1614) fun a1624 => bnd (ret 1) fun a1625 => ret (a1624 + a1625)) fun a1626 => ret (some a1626)) fun a1627 => bnd (ret none) fun a1628 => ret (cutL a1623 a1627 a1628)) fun a1630 => catM a1629 a1630) fun a1632 => ret (a1631, a1632)) fun v_law_lesser1615 => (bnd (bnd (bnd (ret v_law_back1556) fun a1635 => bnd (ret x1614) fun a1636 => nxc (lft (m_Tape_DgetitemD (a1635, a1636)))) fun a1640 => bnd (bnd (bnd (ret v_law_shape1516) fun a1637 => ret a1637.2) fun a1638 => bnd (ret x1614) fun a1639 => ixM a1638 a1639) fun a1641 => neD ((dP PyData.int PyData.int) a1640) ((dP PyData.int PyData.int) a1641)) fun k1642 => if k1642 then esc (bnd (ret false) fun a1643 => ret (.rt a1643)) else (bnd (bnd (bnd (bnd (bnd (ret v_law_back1556) fun a1654 => bnd (ret x1614) fun a1655 => lft (m_Tape_without (a1654, a1655))) fun a1656 => bnd (ret ()) fun a1657 => ret (a1656, a1657)) fun q1658 => lft (m_show_tape q1658.1)) fun a1652 => bnd (bnd (bnd (ret v_law_lesser1615) fun a1659 => bnd (ret ()) fun a1660 => ret (a1659, a1660)) fun q1661 => lft (m__law_tape_text q1661.1)) fun a1653 => ret (!decide (a1652 = a1653))) fun k1662 => if k1662 then esc (bnd (ret false) fun a1663 => ret (.rt a1663)) else (ret (.nx ())))))) ()) fun l1607 => (bnd (bnd (bnd (ret ()) fun _ => bnd (bnd (ret v_law_shape1516) fun a1667 => bnd (bnd (ret 20) fun a1665 => bnd (ret ()) fun a1666 => ret (a1665, a1666)) fun a1668 => ret (a1667, a1668)) fun a1670 => ret ((), a1670)) fun q1669 => m__law_drawn_asks (q1669.2.1, q1669.2.2.1)) fun v_law_asks_here1664 => (bnd (bnd (bnd (ret ()) fun _ => bnd (bnd (ret v_law_asks_here1664) fun a1672 => bnd (ret ()) fun a1673 => ret (a1672, a1673)) fun a1675 => ret ((), a1675)) fun q1674 => m__law_drawn_row q1674.2.1) fun v_law_row_here1671 => (bnd (bnd (bnd (ret v_law_shape1516) fun a1688 => bnd (bnd (ret v_law_asks_here1664) fun a1686 => bnd (bnd (bnd (bnd (ret v_law_shape1516) fun a1681 => bnd (bnd (ret v_law_asks_here1664) fun a1679 => bnd (bnd (ret v_law_row_here1671) fun a1677 => bnd (ret ()) fun a1678 => ret (a1677, a1678)) fun a1680 => ret (a1679, a1680)) fun a1682 => ret (a1681, a1682)) fun q1683 => lft (m__law_led (q1683.1, q1683.2.1, q1683.2.2.1))) fun a1684 => bnd (ret ()) fun a1685 => ret (a1684, a1685)) fun a1687 => ret (a1686, a1687)) fun a1689 => ret (a1688, a1689)) fun q1690 => lft (m__law_waits (q1690.1, q1690.2.1, q1690.2.2.1))) fun v_law_owed1676 => (bnd (bnd (bnd (bnd (ret v_law_back1556) fun a1697 => bnd (bnd (bnd (ret v_law_asks_here1664) fun a1691 => ret a1691) fun a1695 => bnd (bnd (bnd (ret v_law_row_here1671) fun a1692 => ret a1692) fun a1693 => bnd (ret ()) fun a1694 => ret (a1693, a1694)) fun a1696 => ret (a1695, a1696)) fun a1698 => ret (a1697, a1698)) fun q1699 => lft (m_waits (q1699.1, q1699.2.1, q1699.2.2.1))) fun a1700 => bnd (ret v_law_owed1676) fun a1701 => neD ((dL (dO (dP PyData.int PyData.int))) a1700) ((dL (dO (dP PyData.int PyData.int))) a1701)) fun k1702 => if k1702 then esc (bnd (ret false) fun a1703 => ret (.rt a1703)) else (bnd (bnd (bnd (ret ()) fun _ => bnd (bnd (ret v_law_asks_here1664) fun a1704 => bnd (ret ()) fun a1705 => ret (a1704, a1705)) fun a1707 => ret ((), a1707)) fun q1706 => m__law_lists_right q1706.2.1) fun a1708 => ret (.rt a1708)))))))))))))))
def m__law_right (u : Unit) : SM (List Int) Bool := runB (o__law_right u)
def o_law (u : (List Int)) : SM Unit (Fl Empty Empty Bool) := (bnd (bnd (bnd (ret 1) fun a1713 => bnd (bnd (ret 5) fun a1711 => bnd (bnd (ret u) fun a1710 => ret ((a1710).length : Int)) fun a1712 => ret (if a1712 < a1711 then a1712 else a1711)) fun a1714 => ret (if a1714 > a1713 then a1714 else a1713)) fun a1716 => bnd (rngG a1716) fun _ => ret (upto 0 a1716.toNat)) fun xs => lpM (forM_ xs (fun (l1709 : Unit) x1717 => (bnd (bnd (bnd (ret u) fun a1721 => bnd (bnd (ret x1717) fun a1719 => bnd (ret ()) fun a1720 => ret (a1719, a1720)) fun a1722 => ret (a1721, a1722)) fun q1723 => lft (m__law_purse (q1723.1, q1723.2.1))) fun v_law_purse_here1718 => (bnd (subM (bnd (bnd (ret 2) fun a1727 => bnd (rngG a1727) fun _ => ret (upto 0 a1727.toNat)) fun xs => lpM (forM_ xs (fun (l1725 : Unit) x1728 => (bnd (bnd (bnd (bnd (ret ()) fun _ => bnd (ret ()) fun a1733 => ret ((), a1733)) fun q1732 => m__law_right ()) fun k1734 => ret (!k1734)) fun k1735 => if k1735 then esc (bnd (ret false) fun a1736 => ret (.rt a1736)) else (ret (.nx ())))) ()) fun l1725 => (ret (.nx ()))) v_law_purse_here1718) fun p => ret p.1))) ()) fun l1709 => (bnd (ret true) fun a1737 => ret (.rt a1737)))
def m_law (u : (List Int)) : SM Unit Bool := runB (o_law u)
end Tk

set_option Elab.async false
set_option linter.all false
set_option maxRecDepth 100000
set_option maxHeartbeats 4000000
namespace Tk
open PySem PySem.Spec PyProof.Rows L2 He Td
section
variable {P : Program} {w : World} {K : PySem.W.Frag} {mg : Str → Option Value} {base : Heap} {fd : FuncData}
theorem sc_Tape_DlenD : FnScope ["self"] ["self"] (defScope (Hd.ms 14 4)) := ⟨rfl, rfl, rfl, by decide +kernel, rfl, by decide +kernel, by decide +kernel⟩
theorem ok_Tape_DlenD (f_len : mg "len" = none) (t_cls : TapeCls K) (FD : FunD K "__len__" "Tape.__len__" (defArgs (Hd.ms 14 4)) (defBody (Hd.ms 14 4)) (defScope (Hd.ms 14 4)) [] [] (He.ma K (tapeC K) "__len__") fd) : FnOk P w K mg base (L2.CX P w) 1 (He.ma K (tapeC K) "__len__") fd ["self"] (SpP K 1 (fun u : (Int × List (Int × Int)) => [.is (sh rTape) u]) rInt m_Tape_DlenD) :=
  fn_pure (k := 0) FD sc_Tape_DlenD o_Tape_DlenD (fun _ => rfl) fun u cdv A outer s H E hr F hio hW => ⟨_, (bx_nf (fun s => [.is (sh rTape) u]) (fun _ => rfl) (bx_ret (ex_lenT (eo_t (ex_kept t_cls (eo_t (ex_var 0 cp_sh fun _ => rfl)) fun _ _ => .ts)) (fun _ _ => .t) rfl f_len) (wio hio fun _ => (.un .nil))))⟩
theorem sc_Tape_DinitD : FnScope ["self", "length", "files", "begin", "edge", "end"] ["self", "length", "files"] (defScope (Hd.ms 14 1)) := ⟨rfl, rfl, rfl, by decide +kernel, rfl, by decide +kernel, by decide +kernel⟩
theorem ok_Tape_DinitD (f_tuple : mg "tuple" = none) (t_cls : TapeCls K) (FD : FunD K "__init__" "Tape.__init__" (defArgs (Hd.ms 14 1)) (defBody (Hd.ms 14 1)) (defScope (Hd.ms 14 1)) [] [] (He.ma K (tapeC K) "__init__") fd) : FnOk P w K mg base (L2.CX P w) 1 (He.ma K (tapeC K) "__init__") fd ["self", "length", "files"] (SpI K 3 rSelf (fun u : (Int × (List (Int × Int))) => [.is rInt u.1, .is (sh (rList (rPair rInt rInt))) u.2]) rNon m_Tape_DinitD) :=
  fn_ioP (k := 0) FD sc_Tape_DinitD o_Tape_DinitD (fun _ => rfl) fun u v0 cdv A outer s H E hr F hio hW => ⟨_, (bx_nf (fun s => [.pn v0 rSelf s, .is rInt u.1, .is (sh (rList (rPair rInt rInt))) u.2, .un, .un, .un]) (fun _ => rfl) (bx_ifr (GE_ := fun e _ => e.elim) (et_cmp op_lt (vo_B0 fun i j => decide (i < j)) (fun _ _ => stl_ret _) (ex_var 1 cp_int fun _ => rfl) ex_int rfl) (bx_nf (fun s => [.pn v0 rSelf s, .is rInt u.1, .is (sh (rList (rPair rInt rInt))) u.2, .un, .un, .un]) (fun _ => rfl) bx_no) (bx_nf (fun s => [.pn v0 rSelf s, .is rInt u.1, .is (sh (rList (rPair rInt rInt))) u.2, .un, .un, .un]) (fun _ => rfl) (bx_asg 4 sc_Tape_DinitD.nd ex_int (fun v_edge7 => (bx_nf (fun s => [.pn v0 rSelf s, .is rInt u.1, .is (sh (rList (rPair rInt rInt))) u.2, .un, .is rInt v_edge7, .un]) (fun _ => rfl) (bx_for (Gt := fun (l8 : Int) s (x9 : (Int × Int)) => [.pn v0 rSelf s, .is rInt u.1, .is (sh (rList (rPair rInt rInt))) u.2, .is rInt x9.1, .is rInt l8, .is rInt x9.2]) (passes_of rfl) rfl (fun (l8 : Int) s => [.pn v0 rSelf s, .is rInt u.1, .is (sh (rList (rPair rInt rInt))) u.2, .un, .is rInt l8, .un]) v_edge7 (ei_sh (ex_var 2 cp_sh fun _ => rfl) (cp_pair cp_int cp_int)) (fun _ => (.eq (.eq (.eq (.eq (.eq (.eq .nil))))))) (fun _ _ => trivial) (fun l8 _ => (eg_pair rfl (eg_name (i := 3) rfl sc_Tape_DinitD.nd) (fun _ => (eg_name (i := 5) rfl sc_Tape_DinitD.nd)) inferInstance)) (fun l8 x9 => (bx_nf (fun s => [.pn v0 rSelf s, .is rInt u.1, .is (sh (rList (rPair rInt rInt))) u.2, .is rInt x9.1, .is rInt l8, .is rInt x9.2]) (fun _ => rfl) (bx_ifr (GE_ := fun e _ => e.elim) (et_not (et_chain3 ci_le ci_lt ci_le (ex_var 4 cp_int fun _ => rfl) (ex_var 3 cp_int fun _ => rfl) (ex_var 5 cp_int fun _ => rfl) (ex_var 1 cp_int fun _ => rfl))) (bx_nf (fun s => [.pn v0 rSelf s, .is rInt u.1, .is (sh (rList (rPair rInt rInt))) u.2, .is rInt x9.1, .is rInt l8, .is rInt x9.2]) (fun _ => rfl) bx_no) (bx_nf (fun s => [.pn v0 rSelf s, .is rInt u.1, .is (sh (rList (rPair rInt rInt))) u.2, .is rInt x9.1, .is rInt l8, .is rInt x9.2]) (fun _ => rfl) (bx_asg 4 sc_Tape_DinitD.nd (ex_var 5 cp_int fun _ => rfl) (fun v_edge16 => (bx_end v_edge16 fun _ => (.eq (.eq (.eq (.un (.eq (.un .nil)))))))) inferInstance (fun _ => rfl)))))) (fun l8 => (bx_nf (fun s => [.pn v0 rSelf s, .is rInt u.1, .is (sh (rList (rPair rInt rInt))) u.2, .un, .is rInt l8, .un]) (fun _ => rfl) (bx_ext t_cls (ex_var 1 cp_int fun _ => rfl) (fun _ => rfl) (fun _ _ => rfl) (bx_nf (fun s => [.pn v0 rSelf s, .is rInt u.1, .is (sh (rList (rPair rInt rInt))) u.2, .un, .is rInt l8, .un]) (fun _ => rfl) (bx_kept t_cls (ex_tuple (eo_t (ex_var 2 cp_sh fun _ => rfl)) (cp_pair cp_int cp_int) (fun _ _ => .ts) rfl f_tuple) (fun _ => rfl) (fun _ _ => rfl) (bx_end () fun _ => (.eq (.un (.un (.eq (.un (.eq .nil)))))))))))) inferInstance inferInstance))) inferInstance (fun _ => rfl)))))⟩
theorem sc_Tape_DeqD : FnScope ["self", "other"] ["self", "other"] (defScope (Hd.ms 14 5)) := ⟨rfl, rfl, rfl, by decide +kernel, rfl, by decide +kernel, by decide +kernel⟩
theorem ok_Tape_DeqD (f_isinstance : mg "isinstance" = none) (t_cls : TapeCls K) (t_isi : SlX.SIsi K (tapeC K)) (g_Tape : mg "Tape" = some (.ref (tapeC K))) (FD : FunD K "__eq__" "Tape.__eq__" (defArgs (Hd.ms 14 5)) (defBody (Hd.ms 14 5)) (defScope (Hd.ms 14 5)) [] [] (He.ma K (tapeC K) "__eq__") fd) : FnOk P w K mg base (L2.CX P w) 1 (He.ma K (tapeC K) "__eq__") fd ["self", "other"] (SpP K 2 (fun u : ((Int × List (Int × Int)) × (Int × List (Int × Int))) => [.is (sh rTape) u.1, .is (sh rTape) u.2]) rBool m_Tape_DeqD) :=
  fn_pure (k := 0) FD sc_Tape_DeqD o_Tape_DeqD (fun _ => rfl) fun u cdv A outer s H E hr F hio hW => ⟨_, (bx_nf (fun s => [.is (sh rTape) u.1, .is (sh rTape) u.2]) (fun _ => rfl) (bx_ret (ex_and (ex_isTape t_cls t_isi (eo_t (ex_var 1 cp_sh fun _ => rfl)) (fun _ _ => .t) rfl f_isinstance rfl g_Tape) (ex_and (ex_cmp op_eq vo_eqI (fun _ _ => stl_ret _) (ex_extent t_cls (eo_t (ex_var 0 cp_sh fun _ => rfl)) fun _ _ => .ts) (ex_extent t_cls (eo_t (ex_var 1 cp_sh fun _ => rfl)) fun _ _ => .ts) rfl) (ex_one (ex_eqD hr.units (eo_t (ex_kept t_cls (eo_t (ex_var 0 cp_sh fun _ => rfl)) fun _ _ => .ts)) (eo_t (ex_kept t_cls (eo_t (ex_var 1 cp_sh fun _ => rfl)) fun _ _ => .ts)) (fun _ _ => .mk (en_TL (en_P enc_int enc_int)) .t) (fun _ _ => .mk (en_TL (en_P enc_int enc_int)) .t))))) (wio hio fun _ => (.un (.un .nil)))))⟩
theorem sc_Tape_DgetitemD : FnScope ["self", "index"] ["self", "index"] (defScope (Hd.ms 14 7)) := ⟨rfl, rfl, rfl, by decide +kernel, rfl, by decide +kernel, by decide +kernel⟩
theorem ok_Tape_DgetitemD (f_len : mg "len" = none) (t_cls : TapeCls K) (FD : FunD K "__getitem__" "Tape.__getitem__" (defArgs (Hd.ms 14 7)) (defBody (Hd.ms 14 7)) (defScope (Hd.ms 14 7)) [] [] (He.ma K (tapeC K) "__getitem__") fd) : FnOk P w K mg base (L2.CX P w) 1 (He.ma K (tapeC K) "__getitem__") fd ["self", "index"] (SpP K 2 (fun u : ((Int × List (Int × Int)) × Int) => [.is (sh rTape) u.1, .is rInt u.2]) (rPair rInt rInt) m_Tape_DgetitemD) :=
  fn_pure (k := 0) FD sc_Tape_DgetitemD o_Tape_DgetitemD (fun _ => rfl) fun u cdv A outer s H E hr F hio hW => ⟨_, (bx_nf (fun s => [.is (sh rTape) u.1, .is rInt u.2]) (fun _ => rfl) (bx_ifr (GE_ := fun e _ => e.elim) (et_not (et_chain2 ci_le ci_lt ex_int (ex_var 1 cp_int fun _ => rfl) (ex_lenT (eo_t (ex_kept t_cls (eo_t (ex_var 0 cp_sh fun _ => rfl)) fun _ _ => .ts)) (fun _ _ => .t) rfl f_len))) (bx_nf (fun s => [.is (sh rTape) u.1, .is rInt u.2]) (fun _ => rfl) bx_no) (bx_nf (fun s => [.is (sh rTape) u.1, .is rInt u.2]) (fun _ => rfl) (bx_ret (ex_ixT (eo_t (ex_kept t_cls (eo_t (ex_var 0 cp_sh fun _ => rfl)) fun _ _ => .ts)) (ex_var 1 cp_int fun _ => rfl) (cp_pair cp_int cp_int) fun _ _ => .t) (wio hio fun _ => (.un (.un .nil)))))))⟩
theorem sc__law_purse : FnScope ["_law_script", "_law_place", "_law_cell"] ["_law_script", "_law_place"] (defScope (Hd.tp 34)) := ⟨rfl, rfl, rfl, by decide +kernel, rfl, by decide +kernel, by decide +kernel⟩
theorem ok__law_purse (f_abs : mg "abs" = none) (f_int : mg "int" = none) (f_len : mg "len" = none) (f_max : mg "max" = none) (FD : FunD K "_law_purse" "_law_purse" (defArgs (Hd.tp 34)) (defBody (Hd.tp 34)) (defScope (Hd.tp 34)) [] [] (ga K "_law_purse") fd) : FnOk P w K mg base (L2.CX P w) 1 (ga K "_law_purse") fd ["_law_script", "_law_place"] (SpP K 2 (fun u : ((List Int) × Int) => [.is rScr u.1, .is rInt u.2]) (rList rInt) m__law_purse) :=
  fn_pure (k := 0) FD sc__law_purse o__law_purse (fun _ => rfl) fun u cdv A outer s H E hr F hio hW => ⟨_, (bx_nf (fun s => [.is rScr u.1, .is rInt u.2, .un]) (fun _ => rfl) (bx_asg 2 sc__law_purse.nd (ex_if (et_cmp op_lt (vo_B0 fun i j => decide (i < j)) (fun _ _ => stl_ret _) (ex_var 1 cp_int fun _ => rfl) (ex_lenScr (eo_t (ex_var 0 cp_scr fun _ => rfl)) (fun _ _ => .t) rfl f_len) rfl) (ex_ixScr (eo_t (ex_var 0 cp_scr fun _ => rfl)) (ex_var 1 cp_int fun _ => rfl) fun _ _ => .t) ex_int) (fun v_law_cell45 => (bx_nf (fun s => [.is rScr u.1, .is rInt u.2, .is rInt v_law_cell45]) (fun _ => rfl) (bx_ret (ex_lst (r := rInt) (el_cons (ex_max2 ex_int (ex_bin op_sub (vo_I0 fun i j => i - j) (fun _ _ => stl_ret _) (ex_abs (ex_var 2 cp_int fun _ => rfl) rfl f_abs) (ex_bin op_powV vo_pow stl_pow ex_int ex_int)) rfl f_max) (el_cons (ex_bin op_modN vo_mod stl_mod (ex_intI (ex_bin op_add (vo_I0 fun i j => i + j) (fun _ _ => stl_ret _) (ex_bin op_add (vo_I0 fun i j => i + j) (fun _ _ => stl_ret _) (ex_bin op_mul vo_mul stl_mul (ex_var 2 cp_int fun _ => rfl) ex_int) (ex_bin op_mul vo_mul stl_mul (ex_var 1 cp_int fun _ => rfl) ex_int)) ex_int) rfl f_int) (ex_bin op_add (vo_I0 fun i j => i + j) (fun _ _ => stl_ret _) (ex_bin op_powV vo_pow stl_pow ex_int ex_int) ex_int)) (el_cons ex_int el_nil)))) (wio hio fun _ => (.un (.un (.un .nil))))))) inferInstance (fun _ => rfl)))⟩
theorem sc_Tape_length : FnScope ["self"] ["self"] (defScope (Hd.ms 14 2)) := ⟨rfl, rfl, rfl, by decide +kernel, rfl, by decide +kernel, by decide +kernel⟩
theorem ok_Tape_length  (t_cls : TapeCls K) (FD : FunD K "length" "Tape.length" (defArgs (Hd.ms 14 2)) (defBody (Hd.ms 14 2)) (defScope (Hd.ms 14 2)) [] [] (pgA K (tapeC K) "length") fd) : FnOk P w K mg base (L2.CX P w) 1 (pgA K (tapeC K) "length") fd ["self"] (SpP K 1 (fun u : (Int × List (Int × Int)) => [.is (sh rTape) u]) rInt m_Tape_length) :=
  fn_pure (k := 0) FD sc_Tape_length o_Tape_length (fun _ => rfl) fun u cdv A outer s H E hr F hio hW => ⟨_, (bx_nf (fun s => [.is (sh rTape) u]) (fun _ => rfl) (bx_ret (ex_extent t_cls (eo_t (ex_var 0 cp_sh fun _ => rfl)) fun _ _ => .ts) (wio hio fun _ => (.un .nil))))⟩
theorem sc_Tape_files : FnScope ["self"] ["self"] (defScope (Hd.ms 14 3)) := ⟨rfl, rfl, rfl, by decide +kernel, rfl, by decide +kernel, by decide +kernel⟩
theorem ok_Tape_files (f_list : mg "list" = none) (t_cls : TapeCls K) (FD : FunD K "files" "Tape.files" (defArgs (Hd.ms 14 3)) (defBody (Hd.ms 14 3)) (defScope (Hd.ms 14 3)) [] [] (pgA K (tapeC K) "files") fd) : FnOk P w K mg base (L2.CX P w) 1 (pgA K (tapeC K) "files") fd ["self"] (SpP K 1 (fun u : (Int × List (Int × Int)) => [.is (sh rTape) u]) (rList (rPair rInt rInt)) m_Tape_files) :=
  fn_pure (k := 0) FD sc_Tape_files o_Tape_files (fun _ => rfl) fun u cdv A outer s H E hr F hio hW => ⟨_, (bx_nf (fun s => [.is (sh rTape) u]) (fun _ => rfl) (bx_ret (ex_listT (eo_t (ex_kept t_cls (eo_t (ex_var 0 cp_sh fun _ => rfl)) fun _ _ => .ts)) (cp_pair cp_int cp_int) (fun _ _ => .t) rfl f_list) (wio hio fun _ => (.un .nil))))⟩
theorem sc_show_tape : FnScope ["tape", "begin", "end"] ["tape"] (defScope (Hd.tp 2)) := ⟨rfl, rfl, rfl, by decide +kernel, rfl, by decide +kernel, by decide +kernel⟩
theorem bk_show_tape_0 : BlkOk ["tape", "begin", "end"] (defScope (Hd.tp 2)) { kind := .function, names := [(".0", .local), ("begin", .local), ("end", .local)], isGenerator := false, isCoroutine := false, more := [] } [("begin", 1), ("end", 2)] := blkOk_by (by decide +kernel)
theorem ok_show_tape  (t_cls : TapeCls K) (t_length : Prp K (tapeC K) "length") (t_files : Prp K (tapeC K) "files") {d_Tape_files : FuncData} (c_Tape_files : FnOk P w K mg base (L2.CX P w) 1 (pgA K (tapeC K) "files") d_Tape_files ["self"] (SpP K 1 (fun u : (Int × List (Int × Int)) => [.is (sh rTape) u]) (rList (rPair rInt rInt)) m_Tape_files)) (b_Tape_files : Binds K d_Tape_files ["self"] []) {d_Tape_length : FuncData} (c_Tape_length : FnOk P w K mg base (L2.CX P w) 1 (pgA K (tapeC K) "length") d_Tape_length ["self"] (SpP K 1 (fun u : (Int × List (Int × Int)) => [.is (sh rTape) u]) rInt m_Tape_length)) (b_Tape_length : Binds K d_Tape_length ["self"] []) (FD : FunD K "show_tape" "show_tape" (defArgs (Hd.tp 2)) (defBody (Hd.tp 2)) (defScope (Hd.tp 2)) [] [] (ga K "show_tape") fd) : FnOk P w K mg base (L2.CX P w) 3 (ga K "show_tape") fd ["tape"] (SpP K 1 (fun u : (Int × List (Int × Int)) => [.is (sh rTape) u]) rStr m_show_tape) :=
  fn_pure (k := 2) FD sc_show_tape o_show_tape (fun _ => rfl) fun u cdv A outer s H E hr F hio hW => ⟨_, (bx_nf (fun s => [.is (sh rTape) u, .un, .un]) (fun _ => rfl) (bx_ret (ex_join (xs := fun a124 => a124) ex_str (eo_t (ex_lst (r := rStr) (el_cons (ex_js (m := (fun (z145 : Str) => bnd (bnd (bnd (ret u) fun a140 => nxc (lft (m_Tape_length a140))) fun a141 => bnd (grd (a141.natAbs.log2 < 1920)) fun _ => ret (istr a141)) fun a146 => bnd (grd ((z145 ++ a146).length ≤ sizeLine)) fun _ => (fun (z143 : Str) => bnd (ret (":" : Str)) fun a144 => bnd (grd ((z143 ++ a144).length ≤ sizeLine)) fun _ => (fun (z142 : Str) => ret z142) (z143 ++ a144)) (z145 ++ a146))) (ej_cons (mr := (fun (z143 : Str) => bnd (ret (":" : Str)) fun a144 => bnd (grd ((z143 ++ a144).length ≤ sizeLine)) fun _ => (fun (z142 : Str) => ret z142) (z143 ++ a144))) (ex_fmtI (ex_prop t_cls t_length c_Tape_length b_Tape_length (hr.mono (by decide)) (eo_t (ex_var 0 cp_sh fun _ => rfl)) fun _ _ => .t)) (ej_cons (mr := (fun (z142 : Str) => ret z142)) ex_str ej_nil))) (el_star (eo_t (ex_lcU (Gt := fun s (x128 : (Int × Int)) => [.is (sh rTape) u, .is rInt x128.1, .is rInt x128.2]) s rfl sc_show_tape.nd (ei_sh (ex_freeze (ex_prop t_cls t_files c_Tape_files b_Tape_files (hr.mono (by decide)) (eo_t (ex_var 0 cp_sh fun _ => rfl)) fun _ _ => .t)) (cp_pair cp_int cp_int)) (fun _ => trivial) bk_show_tape_0 (fun _ => (.cons rfl (.cons rfl .nil))) (by exact fun _ h => h) (fun _ _ => (.eq (.un (.un .nil)))) (fun _ _ _ _ _ _ => (eg_pair rfl (eg_name (i := 1) rfl sc_show_tape.nd) (fun _ => (eg_name (i := 2) rfl sc_show_tape.nd)) inferInstance)) (fun _ _ _ _ _ x128 => ets_nil) (fun _ _ _ _ _ x128 => (ex_js (m := (fun (z136 : Str) => bnd (bnd (ret x128.1) fun a129 => bnd (grd (a129.natAbs.log2 < 1920)) fun _ => ret (istr a129)) fun a137 => bnd (grd ((z136 ++ a137).length ≤ sizeLine)) fun _ => (fun (z134 : Str) => bnd (ret ("-" : Str)) fun a135 => bnd (grd ((z134 ++ a135).length ≤ sizeLine)) fun _ => (fun (z132 : Str) => bnd (bnd (ret x128.2) fun a130 => bnd (grd (a130.natAbs.log2 < 1920)) fun _ => ret (istr a130)) fun a133 => bnd (grd ((z132 ++ a133).length ≤ sizeLine)) fun _ => (fun (z131 : Str) => ret z131) (z132 ++ a133)) (z134 ++ a135)) (z136 ++ a137))) (ej_cons (mr := (fun (z134 : Str) => bnd (ret ("-" : Str)) fun a135 => bnd (grd ((z134 ++ a135).length ≤ sizeLine)) fun _ => (fun (z132 : Str) => bnd (bnd (ret x128.2) fun a130 => bnd (grd (a130.natAbs.log2 < 1920)) fun _ => ret (istr a130)) fun a133 => bnd (grd ((z132 ++ a133).length ≤ sizeLine)) fun _ => (fun (z131 : Str) => ret z131) (z132 ++ a133)) (z134 ++ a135))) (ex_fmtI (ex_var 1 cp_int fun _ => rfl)) (ej_cons (mr := (fun (z132 : Str) => bnd (bnd (ret x128.2) fun a130 => bnd (grd (a130.natAbs.log2 < 1920)) fun _ => ret (istr a130)) fun a133 => bnd (grd ((z132 ++ a133).length ≤ sizeLine)) fun _ => (fun (z131 : Str) => ret z131) (z132 ++ a133))) ex_str (ej_cons (mr := (fun (z131 : Str) => ret z131)) (ex_fmtI (ex_var 2 cp_int fun _ => rfl)) ej_nil))))) inferInstance inferInstance)) cp_str (fun _ _ => .t) el_nil)))) fun _ _ => .t) (wio hio fun _ => (.un (.eq (.eq .nil))))))⟩
theorem sc_Tape_without : FnScope ["self", "index"] ["self", "index"] (defScope (Hd.ms 14 8)) := ⟨rfl, rfl, rfl, by decide +kernel, rfl, by decide +kernel, by decide +kernel⟩
theorem ok_Tape_without (f_len : mg "len" = none) (t_cls : TapeCls K) (t_mk : Mk K (tapeC K) (He.ma K (tapeC K) "__init__")) (g_Tape : mg "Tape" = some (.ref (tapeC K))) {d_Tape_DinitD : FuncData} (c_Tape_DinitD : FnOk P w K mg base (L2.CX P w) 1 (He.ma K (tapeC K) "__init__") d_Tape_DinitD ["self", "length", "files"] (SpI K 3 rSelf (fun u : (Int × (List (Int × Int))) => [.is rInt u.1, .is (sh (rList (rPair rInt rInt))) u.2]) rNon m_Tape_DinitD)) (b_Tape_DinitD : Binds K d_Tape_DinitD ["self", "length", "files"] []) (FD : FunD K "without" "Tape.without" (defArgs (Hd.ms 14 8)) (defBody (Hd.ms 14 8)) (defScope (Hd.ms 14 8)) [] [] (He.ma K (tapeC K) "without") fd) : FnOk P w K mg base (L2.CX P w) 3 (He.ma K (tapeC K) "without") fd ["self", "index"] (SpP K 2 (fun u : ((Int × List (Int × Int)) × Int) => [.is (sh rTape) u.1, .is rInt u.2]) (sh rTape) m_Tape_without) :=
  fn_pure (k := 2) FD sc_Tape_without o_Tape_without (fun _ => rfl) fun u cdv A outer s H E hr F hio hW => ⟨_, (bx_nf (fun s => [.is (sh rTape) u.1, .is rInt u.2]) (fun _ => rfl) (bx_ifr (GE_ := fun e _ => e.elim) (et_not (et_chain2 ci_le ci_lt ex_int (ex_var 1 cp_int fun _ => rfl) (ex_lenT (eo_t (ex_kept t_cls (eo_t (ex_var 0 cp_sh fun _ => rfl)) fun _ _ => .ts)) (fun _ _ => .t) rfl f_len))) (bx_nf (fun s => [.is (sh rTape) u.1, .is rInt u.2]) (fun _ => rfl) bx_no) (bx_nf (fun s => [.is (sh rTape) u.1, .is rInt u.2]) (fun _ => rfl) (bx_ret (ex_make (E := E) (fun q205 => (q205.1, q205.2.1)) t_mk c_Tape_DinitD (hr.mono (by decide)) rfl g_Tape b_Tape_DinitD (by exact passes_call (takes_of rfl rfl rfl rfl) fun _ _ _ _ h => h) (ea_cons (eo_t (ex_extent t_cls (eo_t (ex_var 0 cp_sh fun _ => rfl)) fun _ _ => .ts)) (ea_cons (eo_t (ex_freeze (ex_lst (r := (rPair rInt rInt)) (el_starT (eo_t (ex_sliceT (eo_t (ex_kept t_cls (eo_t (ex_var 0 cp_sh fun _ => rfl)) fun _ _ => .ts)) ep_none (ep_some (ex_var 1 cp_int fun _ => rfl)) (cp_pair cp_int cp_int) fun _ _ => .t)) (cp_pair cp_int cp_int) (fun _ _ => .t) (el_starT (eo_t (ex_sliceT (eo_t (ex_kept t_cls (eo_t (ex_var 0 cp_sh fun _ => rfl)) fun _ _ => .ts)) (ep_some (ex_bin op_add (vo_I0 fun i j => i + j) (fun _ _ => stl_ret _) (ex_var 1 cp_int fun _ => rfl) ex_int)) ep_none (cp_pair cp_int cp_int) fun _ _ => .t)) (cp_pair cp_int cp_int) (fun _ _ => .t) el_nil))))) ea_nil)) (fun _ => rfl) (fun _ _ => (.cp cp_int (.tc cp_int) (.cp cp_sh (.tc cp_sh) .nil))) (hWE hW) (wio hio fun _ => (.un (.un .nil)))) (wio hio fun _ => (.un (.un .nil)))))))⟩
theorem sc_number_in : FnScope ["text", "sign"] ["text"] (defScope (Hd.tp 18)) := ⟨rfl, rfl, rfl, by decide +kernel, rfl, by decide +kernel, by decide +kernel⟩
theorem bk_number_in_0 : BlkOk ["text", "sign"] (defScope (Hd.tp 18)) { kind := .function, names := [(".0", .local), ("sign", .local), ("DIGITS", .globalImplicit)], isGenerator := false, isCoroutine := false, more := [] } [("sign", 1)] := blkOk_by (by decide +kernel)
theorem bk_number_in_1 : BlkOk ["text", "sign"] (defScope (Hd.tp 18)) { kind := .function, names := [(".0", .local), ("sign", .local), ("DIGITS", .globalImplicit)], isGenerator := false, isCoroutine := false, more := [] } [("sign", 1)] := blkOk_by (by decide +kernel)
theorem ok_number_in (f_all : mg "all" = none) (f_int : mg "int" = none) (f_len : mg "len" = none) (t_k_DIGITS : ∃ t, mg "DIGITS" = some (.str ("0123456789" : Str) t)) (t_k_MOST_DIGITS : ∃ t, mg "MOST_DIGITS" = some (.int 9 t)) (FD : FunD K "number_in" "number_in" (defArgs (Hd.tp 18)) (defBody (Hd.tp 18)) (defScope (Hd.tp 18)) [] [] (ga K "number_in") fd) : FnOk P w K mg base (L2.CX P w) 1 (ga K "number_in") fd ["text"] (SpP K 1 (fun u : Str => [.is rStr u]) (rOpt rInt) m_number_in) :=
  fn_pure (k := 0) FD sc_number_in o_number_in (fun _ => rfl) fun u cdv A outer s H E hr F hio hW => ⟨_, (bx_nf (fun s => [.is rStr u, .un]) (fun _ => rfl) (bx_ifr (GE_ := fun e _ => e.elim) (et_w (ew_or (et_not (et_chain2 ci_le ci_le ex_int (ex_lenS (ex_var 0 cp_str fun _ => rfl) rfl f_len) (ex_gInt (i := 9) rfl t_k_MOST_DIGITS))) (ew_or1 (et_not (et_val (ex_all (eo_t (ex_lcU (Gt := fun s (x221 : Str) => [.is rStr u, .is rStr x221]) s rfl sc_number_in.nd (ei_str (ex_var 0 cp_str fun _ => rfl)) (fun _ => trivial) bk_number_in_1 (fun _ => (.cons rfl .nil)) (by exact fun _ h => h) (fun _ _ => (.eq (.un .nil))) (fun _ _ _ _ _ _ => (eg_name (i := 1) rfl sc_number_in.nd)) (fun _ _ _ _ _ x221 => ets_nil) (fun _ _ _ _ _ x221 => (ex_inS (ex_var 1 cp_str fun _ => rfl) (ex_gStr (z := "0123456789") rfl t_k_DIGITS))) inferInstance inferInstance)) (fun _ _ => .t) rfl rfl f_all)))))) (bx_nf (fun s => [.is rStr u, .un]) (fun _ => rfl) (bx_ret ex_noneO (wio hio fun _ => (.un (.eq .nil))))) (bx_nf (fun s => [.is rStr u, .un]) (fun _ => rfl) (bx_ret (ex_if (et_w (ew_or (et_cmp op_ne vo_neS (fun _ _ => stl_ret _) (ex_ixStr (ex_var 0 cp_str fun _ => rfl) ex_int) ex_str rfl) (ew_or1 (et_cmp op_eq vo_eqS (fun _ _ => stl_ret _) (ex_var 0 cp_str fun _ => rfl) ex_str rfl)))) (ex_some (ex_intS (ex_var 0 cp_str fun _ => rfl) rfl f_int)) ex_noneO) (wio hio fun _ => (.un (.eq .nil)))))))⟩
theorem sc_pair_in : FnScope ["text", "mark", "piece", "pieces"] ["text", "mark"] (defScope (Hd.tp 19)) := ⟨rfl, rfl, rfl, by decide +kernel, rfl, by decide +kernel, by decide +kernel⟩
theorem bk_pair_in_0 : BlkOk ["text", "mark", "piece", "pieces"] (defScope (Hd.tp 19)) { kind := .function, names := [(".0", .local), ("piece", .local), ("number_in", .globalImplicit)], isGenerator := false, isCoroutine := false, more := [] } [("piece", 2)] := blkOk_by (by decide +kernel)
theorem ok_pair_in (f_len : mg "len" = none) (f_tuple : mg "tuple" = none) {d_number_in : FuncData} (c_number_in : FnOk P w K mg base (L2.CX P w) 1 (ga K "number_in") d_number_in ["text"] (SpP K 1 (fun u : Str => [.is rStr u]) (rOpt rInt) m_number_in)) (g_number_in : mg "number_in" = some (.ref (ga K "number_in"))) (k_number_in : PySem.W.keepIn K (.ref (ga K "number_in")) = true) (b_number_in : Binds K d_number_in ["text"] []) (FD : FunD K "pair_in" "pair_in" (defArgs (Hd.tp 19)) (defBody (Hd.tp 19)) (defScope (Hd.tp 19)) [] [] (ga K "pair_in") fd) : FnOk P w K mg base (L2.CX P w) 2 (ga K "pair_in") fd ["text", "mark"] (SpP K 2 (fun u : (Str × Str) => [.is rStr u.1, .is rStr u.2]) (rOpt (rPair rInt rInt)) m_pair_in) :=
  fn_pure (k := 1) FD sc_pair_in o_pair_in (fun _ => rfl) fun u cdv A outer s H E hr F hio hW => ⟨_, (bx_nf (fun s => [.is rStr u.1, .is rStr u.2, .un, .un]) (fun _ => rfl) (bx_lcS (i := 3) (Gt := fun s (x249 : Str) => [.is rStr u.1, .is rStr u.2, .is rStr x249, .un]) s rfl sc_pair_in.nd (ei_sh (ex_freeze (ex_split (ex_var 0 cp_str fun _ => rfl) (ex_var 1 cp_str fun _ => rfl))) cp_str) (fun _ => trivial) bk_pair_in_0 (fun _ => (.cons rfl .nil)) (by exact fun _ h => h) (fun _ _ => (.eq (.eq (.un (.eq .nil))))) (fun _ _ _ _ _ _ => (eg_name (i := 2) rfl sc_pair_in.nd)) (fun _ _ _ _ _ x249 => ets_nil) (fun _ _ _ _ _ x249 => (ex_call (E := fun _ _ _ => False) (fun q252 => q252.1) c_number_in (hr.mono (by decide)) rfl g_number_in k_number_in b_number_in (by exact passes_nx rfl) (ea_cons (eo_t (ex_var 2 cp_str fun _ => rfl)) ea_nil) (fun _ => rfl) (.inl ⟨(clo_opt clo_int), fun _ _ => (.cp cp_str .t .nil)⟩) (fun _ _ _ _ h => h.elim) (wio hio fun _ => (.un (.un (.un (.eq .nil))))))) inferInstance inferInstance (fun v_pieces246 => (bx_nf (fun s => [.is rStr u.1, .is rStr u.2, .un, .is (sh (rList (rOpt rInt))) v_pieces246]) (fun _ => rfl) (bx_ret (ex_if (et_w (ew_and (et_cmp op_eq vo_eqI (fun _ _ => stl_ret _) (ex_len (eo_t (ex_var 3 cp_sh fun _ => rfl)) (fun _ _ => .ts) rfl f_len) ex_int rfl) (ew_and1 (et_ninN (xs := fun a257 => a257) hr.units nni_int (eo_t (ex_var 3 cp_sh fun _ => rfl)) fun _ _ => .ts)))) (ex_some (ex_tupO (ex_tuple (eo_t (ex_var 3 cp_sh fun _ => rfl)) (cp_opt cp_int) (fun _ _ => .ts) rfl f_tuple))) ex_noneO) (wio hio fun _ => (.un (.un (.eq (.un .nil)))))))) (fun _ => rfl)))⟩
theorem sc_read_tape : FnScope ["text", "error", "files", "found", "head", "length", "piece", "rest"] ["text"] (defScope (Hd.tp 20)) := ⟨rfl, rfl, rfl, by decide +kernel, rfl, by decide +kernel, by decide +kernel⟩
theorem bk_read_tape_0 : BlkOk ["text", "error", "files", "found", "head", "length", "piece", "rest"] (defScope (Hd.tp 20)) { kind := .function, names := [(".0", .local), ("piece", .local), ("pair_in", .globalImplicit)], isGenerator := false, isCoroutine := false, more := [] } [("piece", 6)] := blkOk_by (by decide +kernel)
theorem ok_read_tape  (t_mk : Mk K (tapeC K) (He.ma K (tapeC K) "__init__")) (g_Tape : mg "Tape" = some (.ref (tapeC K))) {d_Tape_DinitD : FuncData} (c_Tape_DinitD : FnOk P w K mg base (L2.CX P w) 1 (He.ma K (tapeC K) "__init__") d_Tape_DinitD ["self", "length", "files"] (SpI K 3 rSelf (fun u : (Int × (List (Int × Int))) => [.is rInt u.1, .is (sh (rList (rPair rInt rInt))) u.2]) rNon m_Tape_DinitD)) (b_Tape_DinitD : Binds K d_Tape_DinitD ["self", "length", "files"] []) {d_number_in : FuncData} (c_number_in : FnOk P w K mg base (L2.CX P w) 1 (ga K "number_in") d_number_in ["text"] (SpP K 1 (fun u : Str => [.is rStr u]) (rOpt rInt) m_number_in)) (g_number_in : mg "number_in" = some (.ref (ga K "number_in"))) (k_number_in : PySem.W.keepIn K (.ref (ga K "number_in")) = true) (b_number_in : Binds K d_number_in ["text"] []) {d_pair_in : FuncData} (c_pair_in : FnOk P w K mg base (L2.CX P w) 2 (ga K "pair_in") d_pair_in ["text", "mark"] (SpP K 2 (fun u : (Str × Str) => [.is rStr u.1, .is rStr u.2]) (rOpt (rPair rInt rInt)) m_pair_in)) (g_pair_in : mg "pair_in" = some (.ref (ga K "pair_in"))) (k_pair_in : PySem.W.keepIn K (.ref (ga K "pair_in")) = true) (b_pair_in : Binds K d_pair_in ["text", "mark"] []) {d_show_tape : FuncData} (c_show_tape : FnOk P w K mg base (L2.CX P w) 3 (ga K "show_tape") d_show_tape ["tape"] (SpP K 1 (fun u : (Int × List (Int × Int)) => [.is (sh rTape) u]) rStr m_show_tape)) (g_show_tape : mg "show_tape" = some (.ref (ga K "show_tape"))) (k_show_tape : PySem.W.keepIn K (.ref (ga K "show_tape")) = true) (b_show_tape : Binds K d_show_tape ["tape"] []) (FD : FunD K "read_tape" "read_tape" (defArgs (Hd.tp 20)) (defBody (Hd.tp 20)) (defScope (Hd.tp 20)) [] [] (ga K "read_tape") fd) : FnOk P w K mg base (L2.CX P w) 4 (ga K "read_tape") fd ["text"] (SpP K 1 (fun u : Str => [.is rStr u]) (sh rTape) m_read_tape) :=
  fn_pure (k := 3) FD sc_read_tape o_read_tape (fun _ => rfl) fun u cdv A outer s H E hr F hio hW => ⟨_, (bx_nf (fun s => [.is rStr u, .un, .un, .un, .un, .un, .un, .un]) (fun _ => rfl) (bx_star (out := fun v268 v269 => (bnd (bnd (bnd (bnd (ret v268) fun a272 => bnd (ret none) fun a276 => bnd (bnd (bnd (ret 1) fun a274 => ret (-a274)) fun a275 => ret (some a275)) fun a277 => bnd (grd (a272.length ≤ sizeLine)) fun _ => ret (cutS a272 a276 a277)) fun a278 => bnd (ret ()) fun a279 => ret (a278, a279)) fun q280 => lft (m_number_in q280.1)) fun v_length287 => (bnd (bnd (ret v269) fun xs => lcM (fun x281 => lcIt (ret true) (bnd (bnd (ret x281) fun a284 => bnd (bnd (ret ("-" : Str)) fun a282 => bnd (ret ()) fun a283 => ret (a282, a283)) fun a285 => ret (a284, a285)) fun q286 => lft (m_pair_in (q286.1, q286.2.1)))) [] xs) fun v_files288 => (bnd (bnd (bnd (ret v_length287) fun a289 => ret (a289).isNone) fun k291 => if k291 then ret true else (bnd (ret v_files288) fun a290 => ret ((a290).any Option.isNone))) fun k292 => if k292 then esc stk else (thn_ (nxc (bnd (bnd (bnd (bnd (ret v_length287) fun a305 => optM a305) fun a309 => bnd (bnd (bnd (ret v_files288) fun a306 => asM (allS a306)) fun a307 => bnd (ret ()) fun a308 => ret (a307, a308)) fun a310 => ret (a309, a310)) fun q311 => bnd (subM (m_Tape_DinitD (q311.1, q311.2.1)) TS0.new) fun r312 => tapeM r312.2) fun v_found304 => (ret (.nx v_found304)))) fun n303 => (bnd (bnd (bnd (bnd (ret n303) fun a318 => bnd (ret ()) fun a319 => ret (a318, a319)) fun q320 => lft (m_show_tape q320.1)) fun a316 => bnd (ret u) fun a317 => ret (!decide (a316 = a317))) fun k321 => if k321 then esc stk else (bnd (ret n303) fun a322 => ret (.rt a322)))))))) 4 7 (by decide) rfl sc_read_tape.nd (ex_split (ex_var 0 cp_str fun _ => rfl) ex_str) (fun _ => rfl) (fun _ => rfl) (fun v268 v269 => (bx_frz 7 (fun _ => rfl) (bx_nf (fun s => [.is rStr u, .un, .un, .un, .is rStr v268, .un, .un, .is (sh (rList rStr)) v269]) (fun _ => rfl) (bx_par 5 2 sc_read_tape.nd rfl (by decide) (ex_call (E := E) (fun q280 => q280.1) c_number_in (hr.mono (by decide)) rfl g_number_in k_number_in b_number_in (by exact passes_call (takes_of rfl rfl rfl rfl) fun _ _ _ _ h => h) (ea_cons (eo_t (ex_slStr (ex_var 4 cp_str fun _ => rfl) ep_none (ep_some (ex_neg ex_int)))) ea_nil) (fun _ => rfl) (.inl ⟨(clo_opt clo_int), fun _ _ => (.cp cp_str .t .nil)⟩) (hWE hW) (wio hio fun _ => (.un (.eq (.eq (.eq (.un (.eq (.eq (.un .nil)))))))))) (ex_freeze (ex_lcU (Gt := fun s (x281 : Str) => [.is rStr u, .un, .un, .un, .is rStr v268, .un, .is rStr x281, .is (sh (rList rStr)) v269]) s rfl sc_read_tape.nd (ei_sh (ex_var 7 cp_sh fun _ => rfl) cp_str) (fun _ => trivial) bk_read_tape_0 (fun _ => (.cons rfl .nil)) (by exact fun _ h => h) (fun _ _ => (.eq (.eq (.eq (.eq (.eq (.eq (.un (.eq .nil))))))))) (fun _ _ _ _ _ _ => (eg_name (i := 6) rfl sc_read_tape.nd)) (fun _ _ _ _ _ x281 => ets_nil) (fun _ _ _ _ _ x281 => (ex_call (E := fun _ _ _ => False) (fun q286 => (q286.1, q286.2.1)) c_pair_in (hr.mono (by decide)) rfl g_pair_in k_pair_in b_pair_in (by exact passes_nx rfl) (ea_cons (eo_t (ex_var 6 cp_str fun _ => rfl)) (ea_cons (eo_t ex_str) ea_nil)) (fun _ => rfl) (.inl ⟨(clo_opt (clo_pair clo_int clo_int)), fun _ _ => (.cp cp_str .t (.cp cp_str .t .nil))⟩) (fun _ _ _ _ h => h.elim) (wio hio fun _ => (.un (.eq (.eq (.eq (.un (.eq (.un (.un .nil))))))))))) inferInstance inferInstance)) (fun v_length287 v_files288 => (bx_nf (fun s => [.is rStr u, .un, .is (sh (rList (rOpt (rPair rInt rInt)))) v_files288, .un, .is rStr v268, .is (rOpt rInt) v_length287, .un, .is (sh (rList rStr)) v269]) (fun _ => rfl) (bx_ifr (GE_ := fun e _ => e.elim) (et_w (ew_or (et_isN nn_int (eo_t (ex_var 5 (cp_opt cp_int) fun _ => rfl)) fun _ _ => .t) (ew_or1 (et_inN (xs := fun a290 => a290) hr.units nni_pair (eo_t (ex_var 2 cp_sh fun _ => rfl)) fun _ _ => .ts)))) (bx_nf (fun s => [.is rStr u, .un, .is (sh (rList (rOpt (rPair rInt rInt)))) v_files288, .un, .is rStr v268, .is (rOpt rInt) v_length287, .un, .is (sh (rList rStr)) v269]) (fun _ => rfl) bx_no) (bx_nf (fun s => [.is rStr u, .un, .is (sh (rList (rOpt (rPair rInt rInt)))) v_files288, .un, .is rStr v268, .is (rOpt rInt) v_length287, .un, .is (sh (rList rStr)) v269]) (fun _ => rfl) (bx_thru (GJ := fun (n303 : (Int × List (Int × Int))) s => [.is rStr u, .un, .is (sh (rList (rOpt (rPair rInt rInt)))) v_files288, .is (sh rTape) n303, .is rStr v268, .is (rOpt rInt) v_length287, .un, .is (sh (rList rStr)) v269]) (fun F293 hio293 hW293 tk293 => (bx_nf (fun s => [.is rStr u, .un, .is (sh (rList (rOpt (rPair rInt rInt)))) v_files288, .un, .is rStr v268, .is (rOpt rInt) v_length287, .un, .is (sh (rList rStr)) v269]) (fun _ => rfl) (bx_asg 3 sc_read_tape.nd (ex_freeze (ex_makeS (fun q311 => (q311.1, q311.2.1)) t_mk c_Tape_DinitD (hr.mono (by decide)) rfl g_Tape b_Tape_DinitD tk293 hW293 (ea_cons (eo_t (ex_unopt (ex_var 5 (cp_opt cp_int) fun _ => rfl))) (ea_cons (eo_t (ex_allSh (ex_var 2 cp_sh fun _ => rfl))) ea_nil)) (fun _ => rfl) (fun _ _ => (.cp cp_int (.tc cp_int) (.cp cp_sh (.tc cp_sh) .nil))) (wios (hio293.trans hio) fun _ => (.un (.eq (.un (.eq (.un (.un (.eq (.un .nil))))))))))) (fun v_found304 => (bx_end v_found304 fun _ => (.eq (.eq (.eq (.eq (.eq (.eq (.eq (.eq .nil)))))))))) inferInstance (fun _ => rfl)))) (fun n303 => (bx_nf (fun s => [.is rStr u, .un, .is (sh (rList (rOpt (rPair rInt rInt)))) v_files288, .is (sh rTape) n303, .is rStr v268, .is (rOpt rInt) v_length287, .un, .is (sh (rList rStr)) v269]) (fun _ => rfl) (bx_ifr (GE_ := fun e _ => e.elim) (et_cmp op_ne vo_neS (fun _ _ => stl_ret _) (ex_call (E := E) (fun q320 => q320.1) c_show_tape (hr.mono (by decide)) rfl g_show_tape k_show_tape b_show_tape (by exact passes_call (takes_of rfl rfl rfl rfl) fun _ _ _ _ h => h) (ea_cons (eo_t (ex_var 3 cp_sh fun _ => rfl)) ea_nil) (fun _ => rfl) (.inl ⟨clo_str, fun _ _ => (.cp cp_sh .t .nil)⟩) (hWE hW) (wio hio fun _ => (.un (.eq (.un (.un (.un (.un (.eq (.un .nil)))))))))) (ex_var 0 cp_str fun _ => rfl) rfl) (bx_nf (fun s => [.is rStr u, .un, .is (sh (rList (rOpt (rPair rInt rInt)))) v_files288, .is (sh rTape) n303, .is rStr v268, .is (rOpt rInt) v_length287, .un, .is (sh (rList rStr)) v269]) (fun _ => rfl) bx_no) (bx_nf (fun s => [.is rStr u, .un, .is (sh (rList (rOpt (rPair rInt rInt)))) v_files288, .is (sh rTape) n303, .is rStr v268, .is (rOpt rInt) v_length287, .un, .is (sh (rList rStr)) v269]) (fun _ => rfl) (bx_ret (ex_var 3 cp_sh fun _ => rfl) (wio hio fun _ => (.un (.eq (.un (.un (.un (.un (.eq (.un .nil)))))))))))))) inferInstance))))) inferInstance inferInstance (fun _ => rfl) (fun _ => rfl)))))))⟩
theorem sc_asked_files : FnScope ["asks", "count", "index"] ["asks"] (defScope (Hd.tp 24)) := ⟨rfl, rfl, rfl, by decide +kernel, rfl, by decide +kernel, by decide +kernel⟩
theorem bk_asked_files_0 : BlkOk ["asks", "count", "index"] (defScope (Hd.tp 24)) { kind := .function, names := [(".0", .local), ("index", .local), ("count", .local)], isGenerator := false, isCoroutine := false, more := [] } [("index", 2), ("count", 1)] := blkOk_by (by decide +kernel)
theorem ok_asked_files (f_enumerate : mg "enumerate" = none) (FD : FunD K "asked_files" "asked_files" (defArgs (Hd.tp 24)) (defBody (Hd.tp 24)) (defScope (Hd.tp 24)) [] [] (ga K "asked_files") fd) : FnOk P w K mg base (L2.CX P w) 1 (ga K "asked_files") fd ["asks"] (SpP K 1 (fun u : (List Int) => [.is (sh (rList rInt)) u]) (rList rInt) m_asked_files) :=
  fn_pure (k := 0) FD sc_asked_files o_asked_files (fun _ => rfl) fun u cdv A outer s H E hr F hio hW => ⟨_, (bx_nf (fun s => [.is (sh (rList rInt)) u, .un, .un]) (fun _ => rfl) (bx_ret (ex_lcU (Gt := fun s (x324 : (Int × Int)) => [.is (sh (rList rInt)) u, .is rInt x324.2, .is rInt x324.1]) s rfl sc_asked_files.nd (ei_enum (ex_var 0 cp_sh fun _ => rfl) cp_int rfl f_enumerate) (fun _ => trivial) bk_asked_files_0 (fun _ => (.cons rfl (.cons rfl .nil))) (by exact fun _ h => h) (fun _ _ => (.eq (.un (.un .nil)))) (fun _ _ _ _ _ _ => (eg_pair rfl (eg_name (i := 2) rfl sc_asked_files.nd) (fun _ => (eg_name (i := 1) rfl sc_asked_files.nd)) inferInstance)) (fun _ _ _ _ _ x324 => (ets_one (et_cmp op_gt (vo_B0 fun i j => decide (j < i)) (fun _ _ => stl_ret _) (ex_var 1 cp_int fun _ => rfl) ex_int rfl))) (fun _ _ _ _ _ x324 => (ex_var 2 cp_int fun _ => rfl)) inferInstance inferInstance) (wio hio fun _ => (.un (.eq (.eq .nil))))))⟩
theorem sc_fresh_runs : FnScope ["asks", "row", "first", "index", "last", "runs", "unread"] ["asks", "row"] (defScope (Hd.tp 30)) := ⟨rfl, rfl, rfl, by decide +kernel, rfl, by decide +kernel, by decide +kernel⟩
theorem bk_fresh_runs_0 : BlkOk ["asks", "row", "first", "index", "last", "runs", "unread"] (defScope (Hd.tp 30)) { kind := .function, names := [(".0", .local), ("index", .local), ("first", .free), ("last", .free)], isGenerator := false, isCoroutine := false, more := [] } [("index", 3)] := blkOk_by (by decide +kernel)
theorem bk_fresh_runs_1 : BlkOk ["asks", "row", "first", "index", "last", "runs", "unread"] (defScope (Hd.tp 30)) { kind := .function, names := [(".0", .local), ("index", .local), ("first", .free), ("last", .free)], isGenerator := false, isCoroutine := false, more := [] } [("index", 3)] := blkOk_by (by decide +kernel)
theorem ok_fresh_runs  {d_asked_files : FuncData} (c_asked_files : FnOk P w K mg base (L2.CX P w) 1 (ga K "asked_files") d_asked_files ["asks"] (SpP K 1 (fun u : (List Int) => [.is (sh (rList rInt)) u]) (rList rInt) m_asked_files)) (g_asked_files : mg "asked_files" = some (.ref (ga K "asked_files"))) (k_asked_files : PySem.W.keepIn K (.ref (ga K "asked_files")) = true) (b_asked_files : Binds K d_asked_files ["asks"] []) (FD : FunD K "fresh_runs" "fresh_runs" (defArgs (Hd.tp 30)) (defBody (Hd.tp 30)) (defScope (Hd.tp 30)) [] [] (ga K "fresh_runs") fd) : FnOk P w K mg base (L2.CX P w) 2 (ga K "fresh_runs") fd ["asks", "row"] (SpP K 2 (fun u : ((List Int) × (List (Int × Int))) => [.is (sh (rList rInt)) u.1, .is (sh (rList (rPair rInt rInt))) u.2]) (rList (sh (rList rInt))) m_fresh_runs) :=
  fn_pure (k := 1) FD sc_fresh_runs o_fresh_runs (fun _ => rfl) fun u cdv A outer s H E hr F hio hW => ⟨_, (bx_nf (fun s => [.is (sh (rList rInt)) u.1, .is (sh (rList (rPair rInt rInt))) u.2, .un, .un, .un, .un, .un]) (fun _ => rfl) (bx_par 6 5 sc_fresh_runs.nd rfl (by decide) (ex_freeze (ex_call (E := E) (fun q330 => q330.1) c_asked_files (hr.mono (by decide)) rfl g_asked_files k_asked_files b_asked_files (by exact passes_call (takes_of rfl rfl rfl rfl) fun _ _ _ _ h => h) (ea_cons (eo_t (ex_var 0 cp_sh fun _ => rfl)) ea_nil) (fun _ => rfl) (.inl ⟨(clo_list clo_int), fun _ _ => (.cp cp_sh .t .nil)⟩) (hWE hW) (wio hio fun _ => (.un (.un (.eq (.eq (.eq (.eq (.eq .nil)))))))))) (ex_lst (r := (sh (rList rInt))) el_nil) (fun v_unread332 v_runs333 => (bx_nf (fun s => [.is (sh (rList rInt)) u.1, .is (sh (rList (rPair rInt rInt))) u.2, .un, .un, .un, .is (rList (sh (rList rInt))) v_runs333, .is (sh (rList rInt)) v_unread332]) (fun _ => rfl) (bx_for (Gt := fun (l334 : ((List (List Int)) × (List Int))) s (x335 : (Int × Int)) => [.is (sh (rList rInt)) u.1, .is (sh (rList (rPair rInt rInt))) u.2, .is rInt x335.1, .un, .is rInt x335.2, .is (rList (sh (rList rInt))) l334.1, .is (sh (rList rInt)) l334.2]) (passes_of rfl) rfl (fun (l334 : ((List (List Int)) × (List Int))) s => [.is (sh (rList rInt)) u.1, .is (sh (rList (rPair rInt rInt))) u.2, .un, .un, .un, .is (rList (sh (rList rInt))) l334.1, .is (sh (rList rInt)) l334.2]) (v_runs333, v_unread332) (ei_sh (ex_var 1 cp_sh fun _ => rfl) (cp_pair cp_int cp_int)) (fun _ => (.eq (.eq (.eq (.eq (.eq (.eq (.eq .nil)))))))) (fun _ _ => trivial) (fun l334 _ => (eg_pair rfl (eg_name (i := 2) rfl sc_fresh_runs.nd) (fun _ => (eg_name (i := 4) rfl sc_fresh_runs.nd)) inferInstance)) (fun l334 x335 => (bx_nf (fun s => [.is (sh (rList rInt)) u.1, .is (sh (rList (rPair rInt rInt))) u.2, .is rInt x335.1, .un, .is rInt x335.2, .is (rList (sh (rList rInt))) l334.1, .is (sh (rList rInt)) l334.2]) (fun _ => rfl) (bx_app 5 (ex_freeze (ex_lcU (Gt := fun s (x336 : Int) => [.is (sh (rList rInt)) u.1, .is (sh (rList (rPair rInt rInt))) u.2, .is rInt x335.1, .is rInt x336, .is rInt x335.2, .is (rList (sh (rList rInt))) l334.1, .is (sh (rList rInt)) l334.2]) s rfl sc_fresh_runs.nd (ei_sh (ex_var 6 cp_sh fun _ => rfl) cp_int) (fun _ => trivial) bk_fresh_runs_0 (fun _ => (.cons rfl .nil)) (by exact fun _ h => h) (fun _ _ => (.eq (.eq (.eq (.un (.eq (.eq (.eq .nil)))))))) (fun _ _ _ _ _ _ => (eg_name (i := 3) rfl sc_fresh_runs.nd)) (fun _ _ _ _ _ x336 => (ets_one (et_chain2 ci_le ci_le (ex_var 2 cp_int fun _ => rfl) (ex_var 3 cp_int fun _ => rfl) (ex_var 4 cp_int fun _ => rfl)))) (fun _ _ _ _ _ x336 => (ex_var 3 cp_int fun _ => rfl)) inferInstance inferInstance)) (fun _ => rfl) (fun _ => rfl) fun v_runs341 => (bx_nf (fun s => [.is (sh (rList rInt)) u.1, .is (sh (rList (rPair rInt rInt))) u.2, .is rInt x335.1, .un, .is rInt x335.2, .is (rList (sh (rList rInt))) v_runs341, .is (sh (rList rInt)) l334.2]) (fun _ => rfl) (bx_lcS (i := 6) (Gt := fun s (x343 : Int) => [.is (sh (rList rInt)) u.1, .is (sh (rList (rPair rInt rInt))) u.2, .is rInt x335.1, .is rInt x343, .is rInt x335.2, .is (rList (sh (rList rInt))) v_runs341, .is (sh (rList rInt)) l334.2]) s rfl sc_fresh_runs.nd (ei_sh (ex_var 6 cp_sh fun _ => rfl) cp_int) (fun _ => trivial) bk_fresh_runs_1 (fun _ => (.cons rfl .nil)) (by exact fun _ h => h) (fun _ _ => (.eq (.eq (.eq (.un (.eq (.eq (.eq .nil)))))))) (fun _ _ _ _ _ _ => (eg_name (i := 3) rfl sc_fresh_runs.nd)) (fun _ _ _ _ _ x343 => (ets_one (et_not (et_chain2 ci_le ci_le (ex_var 2 cp_int fun _ => rfl) (ex_var 3 cp_int fun _ => rfl) (ex_var 4 cp_int fun _ => rfl))))) (fun _ _ _ _ _ x343 => (ex_var 3 cp_int fun _ => rfl)) inferInstance inferInstance (fun v_unread342 => (bx_end (v_runs341, v_unread342) fun _ => (.eq (.eq (.un (.eq (.un (.eq (.eq .nil))))))))) (fun _ => rfl)))))) (fun l334 => (bx_nf (fun s => [.is (sh (rList rInt)) u.1, .is (sh (rList (rPair rInt rInt))) u.2, .un, .un, .un, .is (rList (sh (rList rInt))) l334.1, .is (sh (rList rInt)) l334.2]) (fun _ => rfl) (bx_ret (ex_lst (r := (sh (rList rInt))) (el_star (eo_own (U := Unit) (a := ()) 5 fun _ => rfl) cp_sh (fun _ _ => (.v rfl)) (el_cons (ex_var 6 cp_sh fun _ => rfl) el_nil))) (wio hio fun _ => (.un (.un (.eq (.eq (.eq (.un (.un .nil))))))))))) inferInstance inferInstance))) inferInstance inferInstance (fun _ => rfl) (fun _ => rfl)))⟩
theorem sc_are_asks : FnScope ["many", "asks", "count"] ["many", "asks"] (defScope (Hd.tp 25)) := ⟨rfl, rfl, rfl, by decide +kernel, rfl, by decide +kernel, by decide +kernel⟩
theorem bk_are_asks_0 : BlkOk ["many", "asks", "count"] (defScope (Hd.tp 25)) { kind := .function, names := [(".0", .local), ("count", .local)], isGenerator := false, isCoroutine := false, more := [] } [("count", 2)] := blkOk_by (by decide +kernel)
theorem ok_are_asks (f_all : mg "all" = none) (f_len : mg "len" = none) (FD : FunD K "are_asks" "are_asks" (defArgs (Hd.tp 25)) (defBody (Hd.tp 25)) (defScope (Hd.tp 25)) [] [] (ga K "are_asks") fd) : FnOk P w K mg base (L2.CX P w) 1 (ga K "are_asks") fd ["many", "asks"] (SpP K 2 (fun u : (Int × (List Int)) => [.is rInt u.1, .is (sh (rList rInt)) u.2]) rBool m_are_asks) :=
  fn_pure (k := 0) FD sc_are_asks o_are_asks (fun _ => rfl) fun u cdv A outer s H E hr F hio hW => ⟨_, (bx_nf (fun s => [.is rInt u.1, .is (sh (rList rInt)) u.2, .un]) (fun _ => rfl) (bx_ret (ex_and (ex_cmp op_eq vo_eqI (fun _ _ => stl_ret _) (ex_len (eo_t (ex_var 1 cp_sh fun _ => rfl)) (fun _ _ => .ts) rfl f_len) (ex_var 0 cp_int fun _ => rfl) rfl) (ex_one (ex_all (eo_t (ex_lcU (Gt := fun s (x358 : Int) => [.is rInt u.1, .is (sh (rList rInt)) u.2, .is rInt x358]) s rfl sc_are_asks.nd (ei_sh (ex_var 1 cp_sh fun _ => rfl) cp_int) (fun _ => trivial) bk_are_asks_0 (fun _ => (.cons rfl .nil)) (by exact fun _ h => h) (fun _ _ => (.eq (.eq (.un .nil)))) (fun _ _ _ _ _ _ => (eg_name (i := 2) rfl sc_are_asks.nd)) (fun _ _ _ _ _ x358 => ets_nil) (fun _ _ _ _ _ x358 => (ex_cmp op_ge (vo_B0 fun i j => decide (j ≤ i)) (fun _ _ => stl_ret _) (ex_var 2 cp_int fun _ => rfl) ex_int rfl)) inferInstance inferInstance)) (fun _ _ => .t) rfl rfl f_all))) (wio hio fun _ => (.un (.un (.eq .nil))))))⟩
theorem sc_check_asks : FnScope ["tape", "asks"] ["tape", "asks"] (defScope (Hd.tp 27)) := ⟨rfl, rfl, rfl, by decide +kernel, rfl, by decide +kernel, by decide +kernel⟩
theorem ok_check_asks (f_len : mg "len" = none) (t_len : Mth K "__len__") {d_Tape_DlenD : FuncData} (c_Tape_DlenD : FnOk P w K mg base (L2.CX P w) 1 (He.ma K (tapeC K) "__len__") d_Tape_DlenD ["self"] (SpP K 1 (fun u : (Int × List (Int × Int)) => [.is (sh rTape) u]) rInt m_Tape_DlenD)) (b_Tape_DlenD : Binds K d_Tape_DlenD ["self"] []) {d_are_asks : FuncData} (c_are_asks : FnOk P w K mg base (L2.CX P w) 1 (ga K "are_asks") d_are_asks ["many", "asks"] (SpP K 2 (fun u : (Int × (List Int)) => [.is rInt u.1, .is (sh (rList rInt)) u.2]) rBool m_are_asks)) (g_are_asks : mg "are_asks" = some (.ref (ga K "are_asks"))) (k_are_asks : PySem.W.keepIn K (.ref (ga K "are_asks")) = true) (b_are_asks : Binds K d_are_asks ["many", "asks"] []) (FD : FunD K "check_asks" "check_asks" (defArgs (Hd.tp 27)) (defBody (Hd.tp 27)) (defScope (Hd.tp 27)) [] [] (ga K "check_asks") fd) : FnOk P w K mg base (L2.CX P w) 3 (ga K "check_asks") fd ["tape", "asks"] (SpP K 2 (fun u : ((Int × List (Int × Int)) × (List Int)) => [.is (sh rTape) u.1, .is (sh (rList rInt)) u.2]) rNon m_check_asks) :=
  fn_proc (k := 2) FD sc_check_asks o_check_asks (fun _ => rfl) fun u cdv A outer s H E hr F hio hW => ⟨_, (bx_nf (fun s => [.is (sh rTape) u.1, .is (sh (rList rInt)) u.2]) (fun _ => rfl) (bx_ifr (GE_ := fun e _ => e.elim) (et_not (et_val (ex_call (E := E) (fun q380 => (q380.1, q380.2.1)) c_are_asks (hr.mono (by decide)) rfl g_are_asks k_are_asks b_are_asks (by exact passes_call (takes_of rfl rfl rfl rfl) fun _ _ _ _ h => h) (ea_cons (eo_t (ex_tlen t_len c_Tape_DlenD b_Tape_DlenD (hr.mono (by decide)) (eo_t (ex_var 0 cp_sh fun _ => rfl)) (fun _ _ => .t) rfl f_len)) (ea_cons (eo_t (ex_var 1 cp_sh fun _ => rfl)) ea_nil)) (fun _ => rfl) (.inl ⟨clo_bool, fun _ _ => (.cp cp_int .t (.cp cp_sh .t .nil))⟩) (hWE hW) (wio hio fun _ => (.un (.un .nil)))))) (bx_nf (fun s => [.is (sh rTape) u.1, .is (sh (rList rInt)) u.2]) (fun _ => rfl) bx_no) (bx_end () fun _ => (.un (.un .nil)))))⟩
theorem sc_is_row : FnScope ["asks", "row", "asked", "edge", "first", "last"] ["asks", "row"] (defScope (Hd.tp 26)) := ⟨rfl, rfl, rfl, by decide +kernel, rfl, by decide +kernel, by decide +kernel⟩
theorem ok_is_row (f_len : mg "len" = none) {d_asked_files : FuncData} (c_asked_files : FnOk P w K mg base (L2.CX P w) 1 (ga K "asked_files") d_asked_files ["asks"] (SpP K 1 (fun u : (List Int) => [.is (sh (rList rInt)) u]) (rList rInt) m_asked_files)) (g_asked_files : mg "asked_files" = some (.ref (ga K "asked_files"))) (k_asked_files : PySem.W.keepIn K (.ref (ga K "asked_files")) = true) (b_asked_files : Binds K d_asked_files ["asks"] []) (FD : FunD K "is_row" "is_row" (defArgs (Hd.tp 26)) (defBody (Hd.tp 26)) (defScope (Hd.tp 26)) [] [] (ga K "is_row") fd) : FnOk P w K mg base (L2.CX P w) 2 (ga K "is_row") fd ["asks", "row"] (SpP K 2 (fun u : ((List Int) × (List (Int × Int))) => [.is (sh (rList rInt)) u.1, .is (sh (rList (rPair rInt rInt))) u.2]) rBool m_is_row) :=
  fn_pure (k := 1) FD sc_is_row o_is_row (fun _ => rfl) fun u cdv A outer s H E hr F hio hW => ⟨_, (bx_nf (fun s => [.is (sh (rList rInt)) u.1, .is (sh (rList (rPair rInt rInt))) u.2, .un, .un, .un, .un]) (fun _ => rfl) (bx_asg 3 sc_is_row.nd (ex_len (eo_t (ex_var 0 cp_sh fun _ => rfl)) (fun _ _ => .ts) rfl f_len) (fun v_edge383 => (bx_nf (fun s => [.is (sh (rList rInt)) u.1, .is (sh (rList (rPair rInt rInt))) u.2, .un, .is rInt v_edge383, .un, .un]) (fun _ => rfl) (bx_asg 2 sc_is_row.nd (ex_freeze (ex_call (E := E) (fun q388 => q388.1) c_asked_files (hr.mono (by decide)) rfl g_asked_files k_asked_files b_asked_files (by exact passes_call (takes_of rfl rfl rfl rfl) fun _ _ _ _ h => h) (ea_cons (eo_t (ex_var 0 cp_sh fun _ => rfl)) ea_nil) (fun _ => rfl) (.inl ⟨(clo_list clo_int), fun _ _ => (.cp cp_sh .t .nil)⟩) (hWE hW) (wio hio fun _ => (.un (.un (.eq (.un (.eq (.eq .nil))))))))) (fun v_asked385 => (bx_nf (fun s => [.is (sh (rList rInt)) u.1, .is (sh (rList (rPair rInt rInt))) u.2, .is (sh (rList rInt)) v_asked385, .is rInt v_edge383, .un, .un]) (fun _ => rfl) (bx_for (Gt := fun (l389 : Int) s (x390 : (Int × Int)) => [.is (sh (rList rInt)) u.1, .is (sh (rList (rPair rInt rInt))) u.2, .is (sh (rList rInt)) v_asked385, .is rInt l389, .is rInt x390.1, .is rInt x390.2]) (passes_of rfl) rfl (fun (l389 : Int) s => [.is (sh (rList rInt)) u.1, .is (sh (rList (rPair rInt rInt))) u.2, .is (sh (rList rInt)) v_asked385, .is rInt l389, .un, .un]) v_edge383 (ei_sh (ex_var 1 cp_sh fun _ => rfl) (cp_pair cp_int cp_int)) (fun _ => (.eq (.eq (.eq (.eq (.eq (.eq .nil))))))) (fun _ _ => trivial) (fun l389 _ => (eg_pair rfl (eg_name (i := 4) rfl sc_is_row.nd) (fun _ => (eg_name (i := 5) rfl sc_is_row.nd)) inferInstance)) (fun l389 x390 => (bx_nf (fun s => [.is (sh (rList rInt)) u.1, .is (sh (rList (rPair rInt rInt))) u.2, .is (sh (rList rInt)) v_asked385, .is rInt l389, .is rInt x390.1, .is rInt x390.2]) (fun _ => rfl) (bx_ifr (GE_ := fun e _ => e.elim) (et_w (ew_or (et_not (et_truL (eo_t (ex_var 2 cp_sh fun _ => rfl)) fun _ _ => .ts)) (ew_or (et_not (et_chain3 ci_lt ci_le ci_lt (ex_ix (eo_t (ex_var 2 cp_sh fun _ => rfl)) ex_int cp_int fun _ _ => .ts) (ex_var 4 cp_int fun _ => rfl) (ex_var 5 cp_int fun _ => rfl) (ex_len (eo_t (ex_var 0 cp_sh fun _ => rfl)) (fun _ _ => .ts) rfl f_len))) (ew_or1 (et_cmp op_ge (vo_B0 fun i j => decide (j ≤ i)) (fun _ _ => stl_ret _) (ex_var 4 cp_int fun _ => rfl) (ex_var 3 cp_int fun _ => rfl) rfl))))) (bx_nf (fun s => [.is (sh (rList rInt)) u.1, .is (sh (rList (rPair rInt rInt))) u.2, .is (sh (rList rInt)) v_asked385, .is rInt l389, .is rInt x390.1, .is rInt x390.2]) (fun _ => rfl) (bx_ret ex_bool (wio hio fun _ => (.un (.un (.un (.un (.un (.un .nil))))))))) (bx_nf (fun s => [.is (sh (rList rInt)) u.1, .is (sh (rList (rPair rInt rInt))) u.2, .is (sh (rList rInt)) v_asked385, .is rInt l389, .is rInt x390.1, .is rInt x390.2]) (fun _ => rfl) (bx_ifr (GE_ := fun e _ => e.elim) (et_w (ew_or (et_cmp op_eq vo_eqI (fun _ _ => stl_ret _) (ex_ix (eo_t (ex_var 0 cp_sh fun _ => rfl)) (ex_var 4 cp_int fun _ => rfl) cp_int fun _ _ => .ts) ex_int rfl) (ew_or1 (et_cmp op_eq vo_eqI (fun _ _ => stl_ret _) (ex_ix (eo_t (ex_var 0 cp_sh fun _ => rfl)) (ex_var 5 cp_int fun _ => rfl) cp_int fun _ _ => .ts) ex_int rfl)))) (bx_nf (fun s => [.is (sh (rList rInt)) u.1, .is (sh (rList (rPair rInt rInt))) u.2, .is (sh (rList rInt)) v_asked385, .is rInt l389, .is rInt x390.1, .is rInt x390.2]) (fun _ => rfl) (bx_ret ex_bool (wio hio fun _ => (.un (.un (.un (.un (.un (.un .nil))))))))) (bx_nf (fun s => [.is (sh (rList rInt)) u.1, .is (sh (rList (rPair rInt rInt))) u.2, .is (sh (rList rInt)) v_asked385, .is rInt l389, .is rInt x390.1, .is rInt x390.2]) (fun _ => rfl) (bx_asg 3 sc_is_row.nd (ex_var 4 cp_int fun _ => rfl) (fun v_edge422 => (bx_end v_edge422 fun _ => (.eq (.eq (.eq (.eq (.un (.un .nil)))))))) inferInstance (fun _ => rfl)))))))) (fun l389 => (bx_nf (fun s => [.is (sh (rList rInt)) u.1, .is (sh (rList (rPair rInt rInt))) u.2, .is (sh (rList rInt)) v_asked385, .is rInt l389, .un, .un]) (fun _ => rfl) (bx_ret ex_bool (wio hio fun _ => (.un (.un (.un (.un (.eq (.eq .nil)))))))))) inferInstance inferInstance))) inferInstance (fun _ => rfl)))) inferInstance (fun _ => rfl)))⟩
theorem sc_check_row : FnScope ["asks", "row"] ["asks", "row"] (defScope (Hd.tp 28)) := ⟨rfl, rfl, rfl, by decide +kernel, rfl, by decide +kernel, by decide +kernel⟩
theorem ok_check_row  {d_is_row : FuncData} (c_is_row : FnOk P w K mg base (L2.CX P w) 2 (ga K "is_row") d_is_row ["asks", "row"] (SpP K 2 (fun u : ((List Int) × (List (Int × Int))) => [.is (sh (rList rInt)) u.1, .is (sh (rList (rPair rInt rInt))) u.2]) rBool m_is_row)) (g_is_row : mg "is_row" = some (.ref (ga K "is_row"))) (k_is_row : PySem.W.keepIn K (.ref (ga K "is_row")) = true) (b_is_row : Binds K d_is_row ["asks", "row"] []) (FD : FunD K "check_row" "check_row" (defArgs (Hd.tp 28)) (defBody (Hd.tp 28)) (defScope (Hd.tp 28)) [] [] (ga K "check_row") fd) : FnOk P w K mg base (L2.CX P w) 3 (ga K "check_row") fd ["asks", "row"] (SpP K 2 (fun u : ((List Int) × (List (Int × Int))) => [.is (sh (rList rInt)) u.1, .is (sh (rList (rPair rInt rInt))) u.2]) rNon m_check_row) :=
  fn_proc (k := 2) FD sc_check_row o_check_row (fun _ => rfl) fun u cdv A outer s H E hr F hio hW => ⟨_, (bx_nf (fun s => [.is (sh (rList rInt)) u.1, .is (sh (rList (rPair rInt rInt))) u.2]) (fun _ => rfl) (bx_ifr (GE_ := fun e _ => e.elim) (et_not (et_val (ex_call (E := E) (fun q434 => (q434.1, q434.2.1)) c_is_row (hr.mono (by decide)) rfl g_is_row k_is_row b_is_row (by exact passes_call (takes_of rfl rfl rfl rfl) fun _ _ _ _ h => h) (ea_cons (eo_t (ex_var 0 cp_sh fun _ => rfl)) (ea_cons (eo_t (ex_var 1 cp_sh fun _ => rfl)) ea_nil)) (fun _ => rfl) (.inl ⟨clo_bool, fun _ _ => (.cp cp_sh .t (.cp cp_sh .t .nil))⟩) (hWE hW) (wio hio fun _ => (.un (.un .nil)))))) (bx_nf (fun s => [.is (sh (rList rInt)) u.1, .is (sh (rList (rPair rInt rInt))) u.2]) (fun _ => rfl) bx_no) (bx_end () fun _ => (.un (.un .nil)))))⟩
theorem sc_way : FnScope ["tape", "asks", "row", "asked", "first", "last", "stops"] ["tape", "asks", "row"] (defScope (Hd.tp 31)) := ⟨rfl, rfl, rfl, by decide +kernel, rfl, by decide +kernel, by decide +kernel⟩
theorem ok_way  (t_cls : TapeCls K) (t_length : Prp K (tapeC K) "length") (t_ix : Mth K "__getitem__") (h_ix : PySem.W.fnIn K (He.ma K (tapeC K) "__getitem__") = true) {d_Tape_DgetitemD : FuncData} (c_Tape_DgetitemD : FnOk P w K mg base (L2.CX P w) 1 (He.ma K (tapeC K) "__getitem__") d_Tape_DgetitemD ["self", "index"] (SpP K 2 (fun u : ((Int × List (Int × Int)) × Int) => [.is (sh rTape) u.1, .is rInt u.2]) (rPair rInt rInt) m_Tape_DgetitemD)) (b_Tape_DgetitemD : Binds K d_Tape_DgetitemD ["self", "index"] []) {d_Tape_length : FuncData} (c_Tape_length : FnOk P w K mg base (L2.CX P w) 1 (pgA K (tapeC K) "length") d_Tape_length ["self"] (SpP K 1 (fun u : (Int × List (Int × Int)) => [.is (sh rTape) u]) rInt m_Tape_length)) (b_Tape_length : Binds K d_Tape_length ["self"] []) {d_asked_files : FuncData} (c_asked_files : FnOk P w K mg base (L2.CX P w) 1 (ga K "asked_files") d_asked_files ["asks"] (SpP K 1 (fun u : (List Int) => [.is (sh (rList rInt)) u]) (rList rInt) m_asked_files)) (g_asked_files : mg "asked_files" = some (.ref (ga K "asked_files"))) (k_asked_files : PySem.W.keepIn K (.ref (ga K "asked_files")) = true) (b_asked_files : Binds K d_asked_files ["asks"] []) {d_check_asks : FuncData} (c_check_asks : FnOk P w K mg base (L2.CX P w) 3 (ga K "check_asks") d_check_asks ["tape", "asks"] (SpP K 2 (fun u : ((Int × List (Int × Int)) × (List Int)) => [.is (sh rTape) u.1, .is (sh (rList rInt)) u.2]) rNon m_check_asks)) (g_check_asks : mg "check_asks" = some (.ref (ga K "check_asks"))) (k_check_asks : PySem.W.keepIn K (.ref (ga K "check_asks")) = true) (b_check_asks : Binds K d_check_asks ["tape", "asks"] []) {d_check_row : FuncData} (c_check_row : FnOk P w K mg base (L2.CX P w) 3 (ga K "check_row") d_check_row ["asks", "row"] (SpP K 2 (fun u : ((List Int) × (List (Int × Int))) => [.is (sh (rList rInt)) u.1, .is (sh (rList (rPair rInt rInt))) u.2]) rNon m_check_row)) (g_check_row : mg "check_row" = some (.ref (ga K "check_row"))) (k_check_row : PySem.W.keepIn K (.ref (ga K "check_row")) = true) (b_check_row : Binds K d_check_row ["asks", "row"] []) {d_fresh_runs : FuncData} (c_fresh_runs : FnOk P w K mg base (L2.CX P w) 2 (ga K "fresh_runs") d_fresh_runs ["asks", "row"] (SpP K 2 (fun u : ((List Int) × (List (Int × Int))) => [.is (sh (rList rInt)) u.1, .is (sh (rList (rPair rInt rInt))) u.2]) (rList (sh (rList rInt))) m_fresh_runs)) (g_fresh_runs : mg "fresh_runs" = some (.ref (ga K "fresh_runs"))) (k_fresh_runs : PySem.W.keepIn K (.ref (ga K "fresh_runs")) = true) (b_fresh_runs : Binds K d_fresh_runs ["asks", "row"] []) (FD : FunD K "way" "way" (defArgs (Hd.tp 31)) (defBody (Hd.tp 31)) (defScope (Hd.tp 31)) [] [] (ga K "way") fd) : FnOk P w K mg base (L2.CX P w) 4 (ga K "way") fd ["tape", "asks", "row"] (SpP K 3 (fun u : ((Int × List (Int × Int)) × (List Int) × (List (Int × Int))) => [.is (sh rTape) u.1, .is (sh (rList rInt)) u.2.1, .is (sh (rList (rPair rInt rInt))) u.2.2]) (rList rInt) m_way) :=
  fn_pure (k := 3) FD sc_way o_way (fun _ => rfl) fun u cdv A outer s H E hr F hio hW => ⟨_, (bx_nf (fun s => [.is (sh rTape) u.1, .is (sh (rList rInt)) u.2.1, .is (sh (rList (rPair rInt rInt))) u.2.2, .un, .un, .un, .un]) (fun _ => rfl) (bx_expr (ex_call (E := E) (fun q441 => (q441.1, q441.2.1)) c_check_asks (hr.mono (by decide)) rfl g_check_asks k_check_asks b_check_asks (by exact passes_call (takes_of rfl rfl rfl rfl) fun _ _ _ _ h => h) (ea_cons (eo_t (ex_var 0 cp_sh fun _ => rfl)) (ea_cons (eo_t (ex_var 1 cp_sh fun _ => rfl)) ea_nil)) (fun _ => rfl) (.inl ⟨clo_non, fun _ _ => (.cp cp_sh .t (.cp cp_sh .t .nil))⟩) (hWE hW) (wio hio fun _ => (.un (.un (.un (.eq (.eq (.eq (.eq .nil))))))))) (bx_nf (fun s => [.is (sh rTape) u.1, .is (sh (rList rInt)) u.2.1, .is (sh (rList (rPair rInt rInt))) u.2.2, .un, .un, .un, .un]) (fun _ => rfl) (bx_expr (ex_call (E := E) (fun q446 => (q446.1, q446.2.1)) c_check_row (hr.mono (by decide)) rfl g_check_row k_check_row b_check_row (by exact passes_call (takes_of rfl rfl rfl rfl) fun _ _ _ _ h => h) (ea_cons (eo_t (ex_var 1 cp_sh fun _ => rfl)) (ea_cons (eo_t (ex_var 2 cp_sh fun _ => rfl)) ea_nil)) (fun _ => rfl) (.inl ⟨clo_non, fun _ _ => (.cp cp_sh .t (.cp cp_sh .t .nil))⟩) (hWE hW) (wio hio fun _ => (.un (.un (.un (.eq (.eq (.eq (.eq .nil))))))))) (bx_nf (fun s => [.is (sh rTape) u.1, .is (sh (rList rInt)) u.2.1, .is (sh (rList (rPair rInt rInt))) u.2.2, .un, .un, .un, .un]) (fun _ => rfl) (bx_asg 3 sc_way.nd (ex_freeze (ex_call (E := E) (fun q450 => q450.1) c_asked_files (hr.mono (by decide)) rfl g_asked_files k_asked_files b_asked_files (by exact passes_call (takes_of rfl rfl rfl rfl) fun _ _ _ _ h => h) (ea_cons (eo_t (ex_var 1 cp_sh fun _ => rfl)) ea_nil) (fun _ => rfl) (.inl ⟨(clo_list clo_int), fun _ _ => (.cp cp_sh .t .nil)⟩) (hWE hW) (wio hio fun _ => (.un (.un (.un (.eq (.eq (.eq (.eq .nil)))))))))) (fun v_asked447 => (bx_nf (fun s => [.is (sh rTape) u.1, .is (sh (rList rInt)) u.2.1, .is (sh (rList (rPair rInt rInt))) u.2.2, .is (sh (rList rInt)) v_asked447, .un, .un, .un]) (fun _ => rfl) (bx_ifr (GE_ := fun e _ => e.elim) (et_not (et_truL (eo_t (ex_var 3 cp_sh fun _ => rfl)) fun _ _ => .ts)) (bx_nf (fun s => [.is (sh rTape) u.1, .is (sh (rList rInt)) u.2.1, .is (sh (rList (rPair rInt rInt))) u.2.2, .is (sh (rList rInt)) v_asked447, .un, .un, .un]) (fun _ => rfl) (bx_ret (ex_lst (r := rInt) (el_cons (ex_prop t_cls t_length c_Tape_length b_Tape_length (hr.mono (by decide)) (eo_t (ex_var 0 cp_sh fun _ => rfl)) fun _ _ => .t) el_nil)) (wio hio fun _ => (.un (.un (.un (.un (.eq (.eq (.eq .nil)))))))))) (bx_nf (fun s => [.is (sh rTape) u.1, .is (sh (rList rInt)) u.2.1, .is (sh (rList (rPair rInt rInt))) u.2.2, .is (sh (rList rInt)) v_asked447, .un, .un, .un]) (fun _ => rfl) (bx_asg 6 sc_way.nd (ex_lst (r := rInt) el_nil) (fun v_stops459 => (bx_nf (fun s => [.is (sh rTape) u.1, .is (sh (rList rInt)) u.2.1, .is (sh (rList (rPair rInt rInt))) u.2.2, .is (sh (rList rInt)) v_asked447, .un, .un, .is (rList rInt) v_stops459]) (fun _ => rfl) (bx_for (Gt := fun (l461 : (List Int)) s (x462 : (Int × Int)) => [.is (sh rTape) u.1, .is (sh (rList rInt)) u.2.1, .is (sh (rList (rPair rInt rInt))) u.2.2, .is (sh (rList rInt)) v_asked447, .is rInt x462.1, .is rInt x462.2, .is (rList rInt) l461]) (passes_of rfl) rfl (fun (l461 : (List Int)) s => [.is (sh rTape) u.1, .is (sh (rList rInt)) u.2.1, .is (sh (rList (rPair rInt rInt))) u.2.2, .is (sh (rList rInt)) v_asked447, .un, .un, .is (rList rInt) l461]) v_stops459 (ei_sh (ex_var 2 cp_sh fun _ => rfl) (cp_pair cp_int cp_int)) (fun _ => (.eq (.eq (.eq (.eq (.eq (.eq (.eq .nil)))))))) (fun _ _ => trivial) (fun l461 _ => (eg_pair rfl (eg_name (i := 4) rfl sc_way.nd) (fun _ => (eg_name (i := 5) rfl sc_way.nd)) inferInstance)) (fun l461 x462 => (bx_nf (fun s => [.is (sh rTape) u.1, .is (sh (rList rInt)) u.2.1, .is (sh (rList (rPair rInt rInt))) u.2.2, .is (sh (rList rInt)) v_asked447, .is rInt x462.1, .is rInt x462.2, .is (rList rInt) l461]) (fun _ => rfl) (bx_augL 6 cp_int sc_way.nd (ex_lst (r := rInt) (el_cons (ex_plc (xs := fun a478 => a478) (eo_t (ex_tix t_ix h_ix c_Tape_DgetitemD b_Tape_DgetitemD (hr.mono (by decide)) (eo_t (ex_var 0 cp_sh fun _ => rfl)) (ex_var 4 cp_int fun _ => rfl) fun _ _ => .t)) plc2_0 cp_int fun _ _ => .t) (el_cons (ex_plc (xs := fun a471 => a471) (eo_t (ex_tix t_ix h_ix c_Tape_DgetitemD b_Tape_DgetitemD (hr.mono (by decide)) (eo_t (ex_var 0 cp_sh fun _ => rfl)) (ex_var 5 cp_int fun _ => rfl) fun _ _ => .t)) plc2_1 cp_int fun _ _ => .t) el_nil))) (fun _ => rfl) (fun _ => rfl) fun v_stops463 => (bx_end v_stops463 fun _ => (.eq (.eq (.eq (.eq (.un (.un (.eq .nil))))))))))) (fun l461 => (bx_nf (fun s => [.is (sh rTape) u.1, .is (sh (rList rInt)) u.2.1, .is (sh (rList (rPair rInt rInt))) u.2.2, .is (sh (rList rInt)) v_asked447, .un, .un, .is (rList rInt) l461]) (fun _ => rfl) (bx_ret (ex_lst (r := rInt) (el_star (eo_own (U := Unit) (a := ()) 6 fun _ => rfl) cp_int (fun _ _ => (.v rfl)) (el_cons (ex_plc (xs := fun a506 => a506) (eo_t (ex_tix t_ix h_ix c_Tape_DgetitemD b_Tape_DgetitemD (hr.mono (by decide)) (eo_t (ex_var 0 cp_sh fun _ => rfl)) (ex_ix (eo_t (ex_var 3 cp_sh fun _ => rfl)) ex_int cp_int fun _ _ => .ts) fun _ _ => .t)) plc2_0 cp_int fun _ _ => .t) (el_cons (ex_plc (xs := fun a497 => a497) (eo_t (ex_tix t_ix h_ix c_Tape_DgetitemD b_Tape_DgetitemD (hr.mono (by decide)) (eo_t (ex_var 0 cp_sh fun _ => rfl)) (ex_ix (eo_t (ex_ix (eo_t (ex_call (E := E) (fun q487 => (q487.1, q487.2.1)) c_fresh_runs (hr.mono (by decide)) rfl g_fresh_runs k_fresh_runs b_fresh_runs (by exact passes_call (takes_of rfl rfl rfl rfl) fun _ _ _ _ h => h) (ea_cons (eo_t (ex_var 1 cp_sh fun _ => rfl)) (ea_cons (eo_t (ex_var 2 cp_sh fun _ => rfl)) ea_nil)) (fun _ => rfl) (.inr fun _ _ => (.cp cp_sh (.tc cp_sh) (.cp cp_sh (.tc cp_sh) .nil))) (hWE hW) (wio hio fun _ => (.un (.un (.un (.un (.eq (.eq (.un .nil)))))))))) (ex_neg ex_int) cp_sh fun _ _ => .t)) (ex_neg ex_int) cp_int fun _ _ => .ts) fun _ _ => .t)) plc2_1 cp_int fun _ _ => .t) el_nil)))) (wio hio fun _ => (.un (.un (.un (.un (.eq (.eq (.un .nil))))))))))) inferInstance inferInstance))) inferInstance (fun _ => rfl)))))) inferInstance (fun _ => rfl)))))))⟩
theorem sc_waits : FnScope ["tape", "asks", "row", "count", "found", "index", "place", "runs", "steps", "stop", "stops", "turns"] ["tape", "asks", "row"] (defScope (Hd.tp 32)) := ⟨rfl, rfl, rfl, by decide +kernel, rfl, by decide +kernel, by decide +kernel⟩
theorem bk_waits_0 : BlkOk ["tape", "asks", "row", "count", "found", "index", "place", "runs", "steps", "stop", "stops", "turns"] (defScope (Hd.tp 32)) { kind := .function, names := [(".0", .local), ("count", .local)], isGenerator := false, isCoroutine := false, more := [] } [("count", 3)] := blkOk_by (by decide +kernel)
theorem ok_waits (f_abs : mg "abs" = none) (f_enumerate : mg "enumerate" = none) (t_cls : TapeCls K) (t_length : Prp K (tapeC K) "length") (t_ix : Mth K "__getitem__") (h_ix : PySem.W.fnIn K (He.ma K (tapeC K) "__getitem__") = true) {d_Tape_DgetitemD : FuncData} (c_Tape_DgetitemD : FnOk P w K mg base (L2.CX P w) 1 (He.ma K (tapeC K) "__getitem__") d_Tape_DgetitemD ["self", "index"] (SpP K 2 (fun u : ((Int × List (Int × Int)) × Int) => [.is (sh rTape) u.1, .is rInt u.2]) (rPair rInt rInt) m_Tape_DgetitemD)) (b_Tape_DgetitemD : Binds K d_Tape_DgetitemD ["self", "index"] []) {d_Tape_length : FuncData} (c_Tape_length : FnOk P w K mg base (L2.CX P w) 1 (pgA K (tapeC K) "length") d_Tape_length ["self"] (SpP K 1 (fun u : (Int × List (Int × Int)) => [.is (sh rTape) u]) rInt m_Tape_length)) (b_Tape_length : Binds K d_Tape_length ["self"] []) {d_fresh_runs : FuncData} (c_fresh_runs : FnOk P w K mg base (L2.CX P w) 2 (ga K "fresh_runs") d_fresh_runs ["asks", "row"] (SpP K 2 (fun u : ((List Int) × (List (Int × Int))) => [.is (sh (rList rInt)) u.1, .is (sh (rList (rPair rInt rInt))) u.2]) (rList (sh (rList rInt))) m_fresh_runs)) (g_fresh_runs : mg "fresh_runs" = some (.ref (ga K "fresh_runs"))) (k_fresh_runs : PySem.W.keepIn K (.ref (ga K "fresh_runs")) = true) (b_fresh_runs : Binds K d_fresh_runs ["asks", "row"] []) {d_way : FuncData} (c_way : FnOk P w K mg base (L2.CX P w) 4 (ga K "way") d_way ["tape", "asks", "row"] (SpP K 3 (fun u : ((Int × List (Int × Int)) × (List Int) × (List (Int × Int))) => [.is (sh rTape) u.1, .is (sh (rList rInt)) u.2.1, .is (sh (rList (rPair rInt rInt))) u.2.2]) (rList rInt) m_way)) (g_way : mg "way" = some (.ref (ga K "way"))) (k_way : PySem.W.keepIn K (.ref (ga K "way")) = true) (b_way : Binds K d_way ["tape", "asks", "row"] []) (FD : FunD K "waits" "waits" (defArgs (Hd.tp 32)) (defBody (Hd.tp 32)) (defScope (Hd.tp 32)) [] [] (ga K "waits") fd) : FnOk P w K mg base (L2.CX P w) 5 (ga K "waits") fd ["tape", "asks", "row"] (SpP K 3 (fun u : ((Int × List (Int × Int)) × (List Int) × (List (Int × Int))) => [.is (sh rTape) u.1, .is (sh (rList rInt)) u.2.1, .is (sh (rList (rPair rInt rInt))) u.2.2]) (rList (rOpt (rPair rInt rInt))) m_waits) :=
  fn_pure (k := 4) FD sc_waits o_waits (fun _ => rfl) fun u cdv A outer s H E hr F hio hW => ⟨_, (bx_nf (fun s => [.is (sh rTape) u.1, .is (sh (rList rInt)) u.2.1, .is (sh (rList (rPair rInt rInt))) u.2.2, .un, .un, .un, .un, .un, .un, .un, .un, .un]) (fun _ => rfl) (bx_asg 10 sc_waits.nd (ex_freeze (ex_call (E := E) (fun q518 => (q518.1, q518.2.1, q518.2.2.1)) c_way (hr.mono (by decide)) rfl g_way k_way b_way (by exact passes_call (takes_of rfl rfl rfl rfl) fun _ _ _ _ h => h) (ea_cons (eo_t (ex_var 0 cp_sh fun _ => rfl)) (ea_cons (eo_t (ex_var 1 cp_sh fun _ => rfl)) (ea_cons (eo_t (ex_var 2 cp_sh fun _ => rfl)) ea_nil))) (fun _ => rfl) (.inl ⟨(clo_list clo_int), fun _ _ => (.cp cp_sh .t (.cp cp_sh .t (.cp cp_sh .t .nil)))⟩) (hWE hW) (wio hio fun _ => (.un (.un (.un (.eq (.eq (.eq (.eq (.eq (.eq (.eq (.eq (.eq .nil))))))))))))))) (fun v_stops511 => (bx_nf (fun s => [.is (sh rTape) u.1, .is (sh (rList rInt)) u.2.1, .is (sh (rList (rPair rInt rInt))) u.2.2, .un, .un, .un, .un, .un, .un, .un, .is (sh (rList rInt)) v_stops511, .un]) (fun _ => rfl) (bx_lc (i := 4) (Gt := fun s (x520 : Int) => [.is (sh rTape) u.1, .is (sh (rList rInt)) u.2.1, .is (sh (rList (rPair rInt rInt))) u.2.2, .is rInt x520, .un, .un, .un, .un, .un, .un, .is (sh (rList rInt)) v_stops511, .un]) s rfl sc_waits.nd (ei_sh (ex_var 1 cp_sh fun _ => rfl) cp_int) (fun _ => trivial) bk_waits_0 (fun _ => (.cons rfl .nil)) (by exact fun _ h => h) (fun _ _ => (.eq (.eq (.eq (.un (.eq (.eq (.eq (.eq (.eq (.eq (.eq (.eq .nil))))))))))))) (fun _ _ _ _ _ _ => (eg_name (i := 3) rfl sc_waits.nd)) (fun _ _ _ _ _ x520 => ets_nil) (fun _ _ _ _ _ x520 => ex_noneO) inferInstance inferInstance (fun v_found519 => (bx_nf (fun s => [.is (sh rTape) u.1, .is (sh (rList rInt)) u.2.1, .is (sh (rList (rPair rInt rInt))) u.2.2, .un, .is (rList (rOpt (rPair rInt rInt))) v_found519, .un, .un, .un, .un, .un, .is (sh (rList rInt)) v_stops511, .un]) (fun _ => rfl) (bx_par 8 6 sc_waits.nd rfl (by decide) ex_int (ex_prop t_cls t_length c_Tape_length b_Tape_length (hr.mono (by decide)) (eo_t (ex_var 0 cp_sh fun _ => rfl)) fun _ _ => .t) (fun v_steps522 v_place523 => (bx_nf (fun s => [.is (sh rTape) u.1, .is (sh (rList rInt)) u.2.1, .is (sh (rList (rPair rInt rInt))) u.2.2, .un, .is (rList (rOpt (rPair rInt rInt))) v_found519, .un, .is rInt v_place523, .un, .is rInt v_steps522, .un, .is (sh (rList rInt)) v_stops511, .un]) (fun _ => rfl) (bx_asg 7 sc_waits.nd (ex_freeze (ex_call (E := E) (fun q529 => (q529.1, q529.2.1)) c_fresh_runs (hr.mono (by decide)) rfl g_fresh_runs k_fresh_runs b_fresh_runs (by exact passes_call (takes_of rfl rfl rfl rfl) fun _ _ _ _ h => h) (ea_cons (eo_t (ex_var 1 cp_sh fun _ => rfl)) (ea_cons (eo_t (ex_var 2 cp_sh fun _ => rfl)) ea_nil)) (fun _ => rfl) (.inr fun _ _ => (.cp cp_sh (.tc cp_sh) (.cp cp_sh (.tc cp_sh) .nil))) (hWE hW) (wio hio fun _ => (.un (.un (.un (.eq (.un (.eq (.un (.eq (.un (.eq (.un (.eq .nil))))))))))))))) (fun v_runs524 => (bx_nf (fun s => [.is (sh rTape) u.1, .is (sh (rList rInt)) u.2.1, .is (sh (rList (rPair rInt rInt))) u.2.2, .un, .is (rList (rOpt (rPair rInt rInt))) v_found519, .un, .is rInt v_place523, .is (sh (rList (sh (rList rInt)))) v_runs524, .is rInt v_steps522, .un, .is (sh (rList rInt)) v_stops511, .un]) (fun _ => rfl) (bx_for (Gt := fun (l530 : ((List (Option (Int × Int))) × Int × Int)) s (x532 : (Int × Int)) => [.is (sh rTape) u.1, .is (sh (rList rInt)) u.2.1, .is (sh (rList (rPair rInt rInt))) u.2.2, .un, .is (rList (rOpt (rPair rInt rInt))) l530.1, .un, .is rInt l530.2.1, .is (sh (rList (sh (rList rInt)))) v_runs524, .is rInt l530.2.2, .is rInt x532.2, .is (sh (rList rInt)) v_stops511, .is rInt x532.1]) (passes_of rfl) rfl (fun (l530 : ((List (Option (Int × Int))) × Int × Int)) s => [.is (sh rTape) u.1, .is (sh (rList rInt)) u.2.1, .is (sh (rList (rPair rInt rInt))) u.2.2, .un, .is (rList (rOpt (rPair rInt rInt))) l530.1, .un, .is rInt l530.2.1, .is (sh (rList (sh (rList rInt)))) v_runs524, .is rInt l530.2.2, .un, .is (sh (rList rInt)) v_stops511, .un]) (v_found519, v_place523, v_steps522) (ei_enum (ex_var 10 cp_sh fun _ => rfl) cp_int rfl f_enumerate) (fun _ => (.eq (.eq (.eq (.eq (.eq (.eq (.eq (.eq (.eq (.eq (.eq (.eq .nil))))))))))))) (fun _ _ => trivial) (fun l530 _ => (eg_pair rfl (eg_name (i := 11) rfl sc_waits.nd) (fun _ => (eg_name (i := 9) rfl sc_waits.nd)) inferInstance)) (fun l530 x532 => (bx_nf (fun s => [.is (sh rTape) u.1, .is (sh (rList rInt)) u.2.1, .is (sh (rList (rPair rInt rInt))) u.2.2, .un, .is (rList (rOpt (rPair rInt rInt))) l530.1, .un, .is rInt l530.2.1, .is (sh (rList (sh (rList rInt)))) v_runs524, .is rInt l530.2.2, .is rInt x532.2, .is (sh (rList rInt)) v_stops511, .is rInt x532.1]) (fun _ => rfl) (bx_if (GJ := fun (n568 : (List (Option (Int × Int)))) s => [.is (sh rTape) u.1, .is (sh (rList rInt)) u.2.1, .is (sh (rList (rPair rInt rInt))) u.2.2, .un, .is (rList (rOpt (rPair rInt rInt))) n568, .un, .is rInt l530.2.1, .is (sh (rList (sh (rList rInt)))) v_runs524, .is rInt l530.2.2, .is rInt x532.2, .is (sh (rList rInt)) v_stops511, .is rInt x532.1]) (et_cmp op_eq vo_eqI (fun _ _ => stl_ret _) (ex_bin op_modN vo_mod stl_mod (ex_var 11 cp_int fun _ => rfl) ex_int) ex_int rfl) (bx_nf (fun s => [.is (sh rTape) u.1, .is (sh (rList rInt)) u.2.1, .is (sh (rList (rPair rInt rInt))) u.2.2, .un, .is (rList (rOpt (rPair rInt rInt))) l530.1, .un, .is rInt l530.2.1, .is (sh (rList (sh (rList rInt)))) v_runs524, .is rInt l530.2.2, .is rInt x532.2, .is (sh (rList rInt)) v_stops511, .is rInt x532.1]) (fun _ => rfl) (bx_for (Gt := fun (l569 : (List (Option (Int × Int)))) s (x574 : Int) => [.is (sh rTape) u.1, .is (sh (rList rInt)) u.2.1, .is (sh (rList (rPair rInt rInt))) u.2.2, .un, .is (rList (rOpt (rPair rInt rInt))) l569, .is rInt x574, .is rInt l530.2.1, .is (sh (rList (sh (rList rInt)))) v_runs524, .is rInt l530.2.2, .is rInt x532.2, .is (sh (rList rInt)) v_stops511, .is rInt x532.1]) (passes_of rfl) rfl (fun (l569 : (List (Option (Int × Int)))) s => [.is (sh rTape) u.1, .is (sh (rList rInt)) u.2.1, .is (sh (rList (rPair rInt rInt))) u.2.2, .un, .is (rList (rOpt (rPair rInt rInt))) l569, .un, .is rInt l530.2.1, .is (sh (rList (sh (rList rInt)))) v_runs524, .is rInt l530.2.2, .is rInt x532.2, .is (sh (rList rInt)) v_stops511, .is rInt x532.1]) l530.1 (ei_sh (ex_ix (eo_t (ex_var 7 cp_sh fun _ => rfl)) (ex_bin op_fdivN vo_div stl_div (ex_var 11 cp_int fun _ => rfl) ex_int) cp_sh fun _ _ => .ts) cp_int) (fun _ => (.eq (.eq (.eq (.eq (.eq (.eq (.eq (.eq (.eq (.eq (.eq (.eq .nil))))))))))))) (fun _ _ => trivial) (fun l569 _ => (eg_name (i := 5) rfl sc_waits.nd)) (fun l569 x574 => (bx_nf (fun s => [.is (sh rTape) u.1, .is (sh (rList rInt)) u.2.1, .is (sh (rList (rPair rInt rInt))) u.2.2, .un, .is (rList (rOpt (rPair rInt rInt))) l569, .is rInt x574, .is rInt l530.2.1, .is (sh (rList (sh (rList rInt)))) v_runs524, .is rInt l530.2.2, .is rInt x532.2, .is (sh (rList rInt)) v_stops511, .is rInt x532.1]) (fun _ => rfl) (bx_setS 4 (cp_opt (cp_pair cp_int cp_int)) (ex_some (ex_tup2 (ex_bin op_sub (vo_I0 fun i j => i - j) (fun _ _ => stl_ret _) (ex_bin op_add (vo_I0 fun i j => i + j) (fun _ _ => stl_ret _) (ex_var 8 cp_int fun _ => rfl) (ex_plc (xs := fun a586 => a586) (eo_t (ex_tix t_ix h_ix c_Tape_DgetitemD b_Tape_DgetitemD (hr.mono (by decide)) (eo_t (ex_var 0 cp_sh fun _ => rfl)) (ex_var 5 cp_int fun _ => rfl) fun _ _ => .t)) plc2_1 cp_int fun _ _ => .t)) (ex_var 6 cp_int fun _ => rfl)) (ex_var 11 cp_int fun _ => rfl))) (ex_var 5 cp_int fun _ => rfl) (fun _ => rfl) (fun _ => rfl) fun v_found596 => (bx_end v_found596 fun _ => (.eq (.eq (.eq (.eq (.eq (.un (.eq (.eq (.eq (.eq (.eq (.eq .nil)))))))))))))))) (fun l569 => (bx_end l569 fun _ => (.eq (.eq (.eq (.eq (.eq (.eq (.eq (.eq (.eq (.eq (.eq (.eq .nil)))))))))))))) inferInstance inferInstance)) (bx_end l530.1 fun _ => (.eq (.eq (.eq (.eq (.eq (.eq (.eq (.eq (.eq (.eq (.eq (.eq .nil))))))))))))) (fun n568 => (bx_nf (fun s => [.is (sh rTape) u.1, .is (sh (rList rInt)) u.2.1, .is (sh (rList (rPair rInt rInt))) u.2.2, .un, .is (rList (rOpt (rPair rInt rInt))) n568, .un, .is rInt l530.2.1, .is (sh (rList (sh (rList rInt)))) v_runs524, .is rInt l530.2.2, .is rInt x532.2, .is (sh (rList rInt)) v_stops511, .is rInt x532.1]) (fun _ => rfl) (bx_augI 8 ipi_add sc_waits.nd (ex_abs (ex_bin op_sub (vo_I0 fun i j => i - j) (fun _ _ => stl_ret _) (ex_var 9 cp_int fun _ => rfl) (ex_var 6 cp_int fun _ => rfl)) rfl f_abs) (fun _ => rfl) (fun v_steps597 => (bx_nf (fun s => [.is (sh rTape) u.1, .is (sh (rList rInt)) u.2.1, .is (sh (rList (rPair rInt rInt))) u.2.2, .un, .is (rList (rOpt (rPair rInt rInt))) n568, .un, .is rInt l530.2.1, .is (sh (rList (sh (rList rInt)))) v_runs524, .is rInt v_steps597, .is rInt x532.2, .is (sh (rList rInt)) v_stops511, .is rInt x532.1]) (fun _ => rfl) (bx_asg 6 sc_waits.nd (ex_var 9 cp_int fun _ => rfl) (fun v_place603 => (bx_end (n568, v_place603, v_steps597) fun _ => (.eq (.eq (.eq (.eq (.eq (.eq (.eq (.eq (.eq (.un (.eq (.un .nil)))))))))))))) inferInstance (fun _ => rfl)))) fun _ => rfl))) inferInstance))) (fun l530 => (bx_nf (fun s => [.is (sh rTape) u.1, .is (sh (rList rInt)) u.2.1, .is (sh (rList (rPair rInt rInt))) u.2.2, .un, .is (rList (rOpt (rPair rInt rInt))) l530.1, .un, .is rInt l530.2.1, .is (sh (rList (sh (rList rInt)))) v_runs524, .is rInt l530.2.2, .un, .is (sh (rList rInt)) v_stops511, .un]) (fun _ => rfl) (bx_ret (ex_mv 4 fun _ => rfl) (wio hio fun _ => (.un (.un (.un (.eq (.eq (.eq (.un (.un (.un (.eq (.un (.eq .nil)))))))))))))))) inferInstance inferInstance))) inferInstance (fun _ => rfl)))) inferInstance inferInstance (fun _ => rfl) (fun _ => rfl)))) (fun _ => rfl)))) inferInstance (fun _ => rfl)))⟩
theorem sc__law_coin : FnScope ["_law_purse_here", "_law_many", "_law_drawn", "_law_stirred"] ["_law_purse_here", "_law_many"] (defScope (Hd.tp 35)) := ⟨rfl, rfl, rfl, by decide +kernel, rfl, by decide +kernel, by decide +kernel⟩
theorem ok__law_coin (f_int : mg "int" = none) (FD : FunD K "_law_coin" "_law_coin" (defArgs (Hd.tp 35)) (defBody (Hd.tp 35)) (defScope (Hd.tp 35)) [] [] (ga K "_law_coin") fd) : FnOk P w K mg base (L2.CX P w) 1 (ga K "_law_coin") fd ["_law_purse_here", "_law_many"] (SpI K 2 (rList rInt) (fun u : Int => [.is rInt u]) rInt m__law_coin) :=
  fn_io (k := 0) FD sc__law_coin o__law_coin (fun _ => rfl) fun u v0 cdv A outer s H E hr F hio hW => ⟨_, (bx_nf (fun s => [.pn v0 (rList rInt) s, .is rInt u, .un, .un]) (fun _ => rfl) (bx_ifr (GE_ := fun e _ => e.elim) (et_cmp op_gt (vo_B0 fun i j => decide (j < i)) (fun _ _ => stl_ret _) (ex_stix 0 ex_int cp_int (fun _ => rfl) (fun _ => rfl)) ex_int rfl) (bx_nf (fun s => [.pn v0 (rList rInt) s, .is rInt u, .un, .un]) (fun _ => rfl) (bx_asg 2 sc__law_coin.nd (ex_bin op_modN vo_mod stl_mod (ex_intI (ex_stix 0 ex_int cp_int (fun _ => rfl) (fun _ => rfl)) rfl f_int) (ex_var 1 cp_int fun _ => rfl)) (fun v_law_drawn609 => (bx_nf (fun s => [.pn v0 (rList rInt) s, .is rInt u, .is rInt v_law_drawn609, .un]) (fun _ => rfl) (bx_stset 0 cp_int (ex_bin op_fdivW vo_divW stl_divW (ex_stix 0 ex_int cp_int (fun _ => rfl) (fun _ => rfl)) (ex_var 1 cp_int fun _ => rfl)) ex_int (fun _ => rfl) (fun _ => rfl) (fun _ _ => rfl) (bx_nf (fun s => [.pn v0 (rList rInt) s, .is rInt u, .is rInt v_law_drawn609, .un]) (fun _ => rfl) (bx_ret (ex_var 2 cp_int fun _ => rfl) (wios hio fun _ => (.eq (.un (.un (.eq .nil)))))))))) inferInstance (fun _ => rfl))) (bx_nf (fun s => [.pn v0 (rList rInt) s, .is rInt u, .un, .un]) (fun _ => rfl) (bx_stset 0 cp_int (ex_bin op_add (vo_I0 fun i j => i + j) (fun _ _ => stl_ret _) (ex_stix 0 ex_int cp_int (fun _ => rfl) (fun _ => rfl)) ex_int) ex_int (fun _ => rfl) (fun _ => rfl) (fun _ _ => rfl) (bx_nf (fun s => [.pn v0 (rList rInt) s, .is rInt u, .un, .un]) (fun _ => rfl) (bx_asg 3 sc__law_coin.nd (ex_bin op_modN vo_mod stl_mod (ex_bin op_powV vo_pow stl_pow (ex_intI (ex_bin op_add (vo_I0 fun i j => i + j) (fun _ _ => stl_ret _) (ex_stix 0 ex_int cp_int (fun _ => rfl) (fun _ => rfl)) (ex_bin op_mulW vo_mulW stl_mulW ex_int (ex_stix 0 ex_int cp_int (fun _ => rfl) (fun _ => rfl)))) rfl f_int) ex_int) (ex_bin op_add (vo_I0 fun i j => i + j) (fun _ _ => stl_ret _) (ex_bin op_powV vo_pow stl_pow ex_int ex_int) ex_int)) (fun v_law_stirred631 => (bx_nf (fun s => [.pn v0 (rList rInt) s, .is rInt u, .un, .is rInt v_law_stirred631]) (fun _ => rfl) (bx_asg 3 sc__law_coin.nd (ex_bin op_modN vo_mod stl_mod (ex_bin op_powV vo_pow stl_pow (ex_intI (ex_bin op_add (vo_I0 fun i j => i + j) (fun _ _ => stl_ret _) (ex_var 3 cp_int fun _ => rfl) (ex_bin op_mulW vo_mulW stl_mulW ex_int (ex_stix 0 ex_int cp_int (fun _ => rfl) (fun _ => rfl)))) rfl f_int) ex_int) (ex_bin op_add (vo_I0 fun i j => i + j) (fun _ _ => stl_ret _) (ex_bin op_powV vo_pow stl_pow ex_int ex_int) ex_int)) (fun v_law_stirred680 => (bx_nf (fun s => [.pn v0 (rList rInt) s, .is rInt u, .un, .is rInt v_law_stirred680]) (fun _ => rfl) (bx_ret (ex_bin op_modN vo_mod stl_mod (ex_intI (ex_bin op_fdivW vo_divW stl_divW (ex_var 3 cp_int fun _ => rfl) ex_int) rfl f_int) (ex_var 1 cp_int fun _ => rfl)) (wios hio fun _ => (.eq (.un (.eq (.un .nil)))))))) inferInstance (fun _ => rfl)))) inferInstance (fun _ => rfl)))))))⟩
theorem sc__law_drawn_tape : FnScope ["_law_purse_here", "_law_most", "_law_top", "_law_files_here", "_law_gap", "_law_place_here", "_law_size_here", "_law_turn"] ["_law_purse_here", "_law_most", "_law_top"] (defScope (Hd.tp 36)) := ⟨rfl, rfl, rfl, by decide +kernel, rfl, by decide +kernel, by decide +kernel⟩
theorem ok__law_drawn_tape (f_max : mg "max" = none) (f_range : mg "range" = none) {d__law_coin : FuncData} (c__law_coin : FnOk P w K mg base (L2.CX P w) 1 (ga K "_law_coin") d__law_coin ["_law_purse_here", "_law_many"] (SpI K 2 (rList rInt) (fun u : Int => [.is rInt u]) rInt m__law_coin)) (g__law_coin : mg "_law_coin" = some (.ref (ga K "_law_coin"))) (k__law_coin : PySem.W.keepIn K (.ref (ga K "_law_coin")) = true) (b__law_coin : Binds K d__law_coin ["_law_purse_here", "_law_many"] []) (FD : FunD K "_law_drawn_tape" "_law_drawn_tape" (defArgs (Hd.tp 36)) (defBody (Hd.tp 36)) (defScope (Hd.tp 36)) [] [] (ga K "_law_drawn_tape") fd) : FnOk P w K mg base (L2.CX P w) 2 (ga K "_law_drawn_tape") fd ["_law_purse_here", "_law_most", "_law_top"] (SpI K 3 (rList rInt) (fun u : (Int × Int) => [.is rInt u.1, .is rInt u.2]) (rPair rInt (sh (rList (rPair rInt rInt)))) m__law_drawn_tape) :=
  fn_io (k := 1) FD sc__law_drawn_tape o__law_drawn_tape (fun _ => rfl) fun u v0 cdv A outer s H E hr F hio hW => ⟨_, (bx_nf (fun s => [.pn v0 (rList rInt) s, .is rInt u.1, .is rInt u.2, .un, .un, .un, .un, .un]) (fun _ => rfl) (bx_par 5 3 sc__law_drawn_tape.nd rfl (by decide) (ex_ix (eo_t (ex_lst (r := rInt) (el_cons ex_int (el_cons (ex_callIo (E := E) 0 (fun q736 => q736.2.1) c__law_coin (hr.mono (by decide)) rfl g__law_coin k__law_coin b__law_coin (by exact passes_call (takes_of rfl rfl rfl rfl) fun _ _ _ _ h => h) (clo_list clo_int) (ea_cons (eo_pn (U := Unit) (a := ()) 0 fun _ => rfl) (ea_cons (eo_t ex_int) ea_nil)) (fun _ => rfl) (fun _ => rfl) (fun _ _ => rfl) (fun _ _ => (.cp cp_int (.tc cp_int) .nil)) (hWE hW) (wios hio fun _ => (.eq (.un (.un (.eq (.eq (.eq (.eq (.eq .nil)))))))))) el_nil)))) (ex_callIo (E := E) 0 (fun q744 => q744.2.1) c__law_coin (hr.mono (by decide)) rfl g__law_coin k__law_coin b__law_coin (by exact passes_call (takes_of rfl rfl rfl rfl) fun _ _ _ _ h => h) (clo_list clo_int) (ea_cons (eo_pn (U := Unit) (a := ()) 0 fun _ => rfl) (ea_cons (eo_t ex_int) ea_nil)) (fun _ => rfl) (fun _ => rfl) (fun _ _ => rfl) (fun _ _ => (.cp cp_int (.tc cp_int) .nil)) (hWE hW) (wios hio fun _ => (.eq (.un (.un (.eq (.eq (.eq (.eq (.eq .nil)))))))))) cp_int fun _ _ => .t) (ex_lst (r := (rPair rInt rInt)) el_nil) (fun v_law_place_here748 v_law_files_here749 => (bx_nf (fun s => [.pn v0 (rList rInt) s, .is rInt u.1, .is rInt u.2, .is (rList (rPair rInt rInt)) v_law_files_here749, .un, .is rInt v_law_place_here748, .un, .un]) (fun _ => rfl) (bx_for (Gt := fun (l750 : ((List (Int × Int)) × Int)) s (x759 : Int) => [.pn v0 (rList rInt) s, .is rInt u.1, .is rInt u.2, .is (rList (rPair rInt rInt)) l750.1, .un, .is rInt l750.2, .un, .is rInt x759]) (passes_of rfl) rfl (fun (l750 : ((List (Int × Int)) × Int)) s => [.pn v0 (rList rInt) s, .is rInt u.1, .is rInt u.2, .is (rList (rPair rInt rInt)) l750.1, .un, .is rInt l750.2, .un, .un]) (v_law_files_here749, v_law_place_here748) (ei_rng1 (ex_callIo (E := E) 0 (fun q755 => q755.2.1) c__law_coin (hr.mono (by decide)) rfl g__law_coin k__law_coin b__law_coin (by exact passes_call (takes_of rfl rfl rfl rfl) fun _ _ _ _ h => h) (clo_list clo_int) (ea_cons (eo_pn (U := Unit) (a := ()) 0 fun _ => rfl) (ea_cons (eo_t (ex_bin op_add (vo_I0 fun i j => i + j) (fun _ _ => stl_ret _) (ex_var 1 cp_int fun _ => rfl) ex_int)) ea_nil)) (fun _ => rfl) (fun _ => rfl) (fun _ _ => rfl) (fun _ _ => (.cp cp_int (.tc cp_int) .nil)) (hWE hW) (wios hio fun _ => (.eq (.un (.un (.un (.eq (.un (.eq (.eq .nil)))))))))) rfl f_range) (fun _ => (.eq (.eq (.eq (.eq (.eq (.eq (.eq (.eq .nil))))))))) (fun _ _ => trivial) (fun l750 _ => (eg_name (i := 7) rfl sc__law_drawn_tape.nd)) (fun l750 x759 => (bx_nf (fun s => [.pn v0 (rList rInt) s, .is rInt u.1, .is rInt u.2, .is (rList (rPair rInt rInt)) l750.1, .un, .is rInt l750.2, .un, .is rInt x759]) (fun _ => rfl) (bx_asg 6 sc__law_drawn_tape.nd (ex_bin op_add (vo_I0 fun i j => i + j) (fun _ _ => stl_ret _) ex_int (ex_callIo (E := E) 0 (fun q763 => q763.2.1) c__law_coin (hr.mono (by decide)) rfl g__law_coin k__law_coin b__law_coin (by exact passes_call (takes_of rfl rfl rfl rfl) fun _ _ _ _ h => h) (clo_list clo_int) (ea_cons (eo_pn (U := Unit) (a := ()) 0 fun _ => rfl) (ea_cons (eo_t (ex_var 2 cp_int fun _ => rfl)) ea_nil)) (fun _ => rfl) (fun _ => rfl) (fun _ _ => rfl) (fun _ _ => (.cp cp_int (.tc cp_int) .nil)) (hWE hW) (wios hio fun _ => (.eq (.un (.un (.un (.eq (.un (.eq (.un .nil))))))))))) (fun v_law_size_here760 => (bx_nf (fun s => [.pn v0 (rList rInt) s, .is rInt u.1, .is rInt u.2, .is (rList (rPair rInt rInt)) l750.1, .un, .is rInt l750.2, .is rInt v_law_size_here760, .is rInt x759]) (fun _ => rfl) (bx_app 3 (ex_tup2 (ex_var 5 cp_int fun _ => rfl) (ex_bin op_add (vo_I0 fun i j => i + j) (fun _ _ => stl_ret _) (ex_var 5 cp_int fun _ => rfl) (ex_var 6 cp_int fun _ => rfl))) (fun _ => rfl) (fun _ => rfl) fun v_law_files_here772 => (bx_nf (fun s => [.pn v0 (rList rInt) s, .is rInt u.1, .is rInt u.2, .is (rList (rPair rInt rInt)) v_law_files_here772, .un, .is rInt l750.2, .is rInt v_law_size_here760, .is rInt x759]) (fun _ => rfl) (bx_asg 4 sc__law_drawn_tape.nd (ex_ix (eo_t (ex_lst (r := rInt) (el_cons ex_int (el_cons (ex_callIo (E := E) 0 (fun q778 => q778.2.1) c__law_coin (hr.mono (by decide)) rfl g__law_coin k__law_coin b__law_coin (by exact passes_call (takes_of rfl rfl rfl rfl) fun _ _ _ _ h => h) (clo_list clo_int) (ea_cons (eo_pn (U := Unit) (a := ()) 0 fun _ => rfl) (ea_cons (eo_t ex_int) ea_nil)) (fun _ => rfl) (fun _ => rfl) (fun _ _ => rfl) (fun _ _ => (.cp cp_int (.tc cp_int) .nil)) (hWE hW) (wios hio fun _ => (.eq (.un (.un (.un (.eq (.un (.un (.un .nil)))))))))) el_nil)))) (ex_callIo (E := E) 0 (fun q786 => q786.2.1) c__law_coin (hr.mono (by decide)) rfl g__law_coin k__law_coin b__law_coin (by exact passes_call (takes_of rfl rfl rfl rfl) fun _ _ _ _ h => h) (clo_list clo_int) (ea_cons (eo_pn (U := Unit) (a := ()) 0 fun _ => rfl) (ea_cons (eo_t ex_int) ea_nil)) (fun _ => rfl) (fun _ => rfl) (fun _ _ => rfl) (fun _ _ => (.cp cp_int (.tc cp_int) .nil)) (hWE hW) (wios hio fun _ => (.eq (.un (.un (.un (.eq (.un (.un (.un .nil)))))))))) cp_int fun _ _ => .t) (fun v_law_gap773 => (bx_nf (fun s => [.pn v0 (rList rInt) s, .is rInt u.1, .is rInt u.2, .is (rList (rPair rInt rInt)) v_law_files_here772, .is rInt v_law_gap773, .is rInt l750.2, .is rInt v_law_size_here760, .is rInt x759]) (fun _ => rfl) (bx_asg 5 sc__law_drawn_tape.nd (ex_bin op_add (vo_I0 fun i j => i + j) (fun _ _ => stl_ret _) (ex_bin op_add (vo_I0 fun i j => i + j) (fun _ _ => stl_ret _) (ex_var 5 cp_int fun _ => rfl) (ex_var 6 cp_int fun _ => rfl)) (ex_var 4 cp_int fun _ => rfl)) (fun v_law_place_here789 => (bx_end (v_law_files_here772, v_law_place_here789) fun _ => (.eq (.eq (.eq (.eq (.un (.eq (.un (.un .nil)))))))))) inferInstance (fun _ => rfl)))) inferInstance (fun _ => rfl)))))) inferInstance (fun _ => rfl)))) (fun l750 => (bx_nf (fun s => [.pn v0 (rList rInt) s, .is rInt u.1, .is rInt u.2, .is (rList (rPair rInt rInt)) l750.1, .un, .is rInt l750.2, .un, .un]) (fun _ => rfl) (bx_ret (ex_tup2 (ex_max2 ex_int (ex_bin op_add (vo_I0 fun i j => i + j) (fun _ _ => stl_ret _) (ex_var 5 cp_int fun _ => rfl) (ex_callIo (E := E) 0 (fun q798 => q798.2.1) c__law_coin (hr.mono (by decide)) rfl g__law_coin k__law_coin b__law_coin (by exact passes_call (takes_of rfl rfl rfl rfl) fun _ _ _ _ h => h) (clo_list clo_int) (ea_cons (eo_pn (U := Unit) (a := ()) 0 fun _ => rfl) (ea_cons (eo_t ex_int) ea_nil)) (fun _ => rfl) (fun _ => rfl) (fun _ _ => rfl) (fun _ _ => (.cp cp_int (.tc cp_int) .nil)) (hWE hW) (wios hio fun _ => (.eq (.un (.un (.un (.eq (.un (.eq (.eq .nil))))))))))) rfl f_max) (ex_freeze (ex_mv 3 fun _ => rfl))) (wios hio fun _ => (.eq (.un (.un (.eq (.eq (.un (.eq (.eq .nil)))))))))))) inferInstance inferInstance))) inferInstance inferInstance (fun _ => rfl) (fun _ => rfl)))⟩
theorem sc__law_great_tape : FnScope ["_law_purse_here", "_law_files_here", "_law_place_here", "_law_size_here", "_law_turn"] ["_law_purse_here"] (defScope (Hd.tp 37)) := ⟨rfl, rfl, rfl, by decide +kernel, rfl, by decide +kernel, by decide +kernel⟩
theorem ok__law_great_tape (f_max : mg "max" = none) (f_range : mg "range" = none) {d__law_coin : FuncData} (c__law_coin : FnOk P w K mg base (L2.CX P w) 1 (ga K "_law_coin") d__law_coin ["_law_purse_here", "_law_many"] (SpI K 2 (rList rInt) (fun u : Int => [.is rInt u]) rInt m__law_coin)) (g__law_coin : mg "_law_coin" = some (.ref (ga K "_law_coin"))) (k__law_coin : PySem.W.keepIn K (.ref (ga K "_law_coin")) = true) (b__law_coin : Binds K d__law_coin ["_law_purse_here", "_law_many"] []) (FD : FunD K "_law_great_tape" "_law_great_tape" (defArgs (Hd.tp 37)) (defBody (Hd.tp 37)) (defScope (Hd.tp 37)) [] [] (ga K "_law_great_tape") fd) : FnOk P w K mg base (L2.CX P w) 2 (ga K "_law_great_tape") fd ["_law_purse_here"] (SpI K 1 (rList rInt) (fun u : Unit => []) (rPair rInt (sh (rList (rPair rInt rInt)))) m__law_great_tape) :=
  fn_io (k := 1) FD sc__law_great_tape o__law_great_tape (fun _ => rfl) fun u v0 cdv A outer s H E hr F hio hW => ⟨_, (bx_nf (fun s => [.pn v0 (rList rInt) s, .un, .un, .un, .un]) (fun _ => rfl) (bx_par 2 1 sc__law_great_tape.nd rfl (by decide) (ex_callIo (E := E) 0 (fun q811 => q811.2.1) c__law_coin (hr.mono (by decide)) rfl g__law_coin k__law_coin b__law_coin (by exact passes_call (takes_of rfl rfl rfl rfl) fun _ _ _ _ h => h) (clo_list clo_int) (ea_cons (eo_pn (U := Unit) (a := ()) 0 fun _ => rfl) (ea_cons (eo_t (ex_bin op_powV vo_pow stl_pow ex_int ex_int)) ea_nil)) (fun _ => rfl) (fun _ => rfl) (fun _ _ => rfl) (fun _ _ => (.cp cp_int (.tc cp_int) .nil)) (hWE hW) (wios hio fun _ => (.eq (.eq (.eq (.eq (.eq .nil))))))) (ex_lst (r := (rPair rInt rInt)) el_nil) (fun v_law_place_here814 v_law_files_here815 => (bx_nf (fun s => [.pn v0 (rList rInt) s, .is (rList (rPair rInt rInt)) v_law_files_here815, .is rInt v_law_place_here814, .un, .un]) (fun _ => rfl) (bx_for (Gt := fun (l816 : ((List (Int × Int)) × Int)) s (x823 : Int) => [.pn v0 (rList rInt) s, .is (rList (rPair rInt rInt)) l816.1, .is rInt l816.2, .un, .is rInt x823]) (passes_of rfl) rfl (fun (l816 : ((List (Int × Int)) × Int)) s => [.pn v0 (rList rInt) s, .is (rList (rPair rInt rInt)) l816.1, .is rInt l816.2, .un, .un]) (v_law_files_here815, v_law_place_here814) (ei_rng1 (ex_callIo (E := E) 0 (fun q819 => q819.2.1) c__law_coin (hr.mono (by decide)) rfl g__law_coin k__law_coin b__law_coin (by exact passes_call (takes_of rfl rfl rfl rfl) fun _ _ _ _ h => h) (clo_list clo_int) (ea_cons (eo_pn (U := Unit) (a := ()) 0 fun _ => rfl) (ea_cons (eo_t ex_int) ea_nil)) (fun _ => rfl) (fun _ => rfl) (fun _ _ => rfl) (fun _ _ => (.cp cp_int (.tc cp_int) .nil)) (hWE hW) (wios hio fun _ => (.eq (.un (.un (.eq (.eq .nil))))))) rfl f_range) (fun _ => (.eq (.eq (.eq (.eq (.eq .nil)))))) (fun _ _ => trivial) (fun l816 _ => (eg_name (i := 4) rfl sc__law_great_tape.nd)) (fun l816 x823 => (bx_nf (fun s => [.pn v0 (rList rInt) s, .is (rList (rPair rInt rInt)) l816.1, .is rInt l816.2, .un, .is rInt x823]) (fun _ => rfl) (bx_asg 3 sc__law_great_tape.nd (ex_bin op_add (vo_I0 fun i j => i + j) (fun _ _ => stl_ret _) ex_int (ex_callIo (E := E) 0 (fun q827 => q827.2.1) c__law_coin (hr.mono (by decide)) rfl g__law_coin k__law_coin b__law_coin (by exact passes_call (takes_of rfl rfl rfl rfl) fun _ _ _ _ h => h) (clo_list clo_int) (ea_cons (eo_pn (U := Unit) (a := ()) 0 fun _ => rfl) (ea_cons (eo_t ex_int) ea_nil)) (fun _ => rfl) (fun _ => rfl) (fun _ _ => rfl) (fun _ _ => (.cp cp_int (.tc cp_int) .nil)) (hWE hW) (wios hio fun _ => (.eq (.un (.un (.eq (.un .nil)))))))) (fun v_law_size_here824 => (bx_nf (fun s => [.pn v0 (rList rInt) s, .is (rList (rPair rInt rInt)) l816.1, .is rInt l816.2, .is rInt v_law_size_here824, .is rInt x823]) (fun _ => rfl) (bx_app 1 (ex_tup2 (ex_var 2 cp_int fun _ => rfl) (ex_bin op_add (vo_I0 fun i j => i + j) (fun _ _ => stl_ret _) (ex_var 2 cp_int fun _ => rfl) (ex_var 3 cp_int fun _ => rfl))) (fun _ => rfl) (fun _ => rfl) fun v_law_files_here836 => (bx_nf (fun s => [.pn v0 (rList rInt) s, .is (rList (rPair rInt rInt)) v_law_files_here836, .is rInt l816.2, .is rInt v_law_size_here824, .is rInt x823]) (fun _ => rfl) (bx_asg 2 sc__law_great_tape.nd (ex_bin op_add (vo_I0 fun i j => i + j) (fun _ _ => stl_ret _) (ex_bin op_add (vo_I0 fun i j => i + j) (fun _ _ => stl_ret _) (ex_var 2 cp_int fun _ => rfl) (ex_var 3 cp_int fun _ => rfl)) (ex_callIo (E := E) 0 (fun q844 => q844.2.1) c__law_coin (hr.mono (by decide)) rfl g__law_coin k__law_coin b__law_coin (by exact passes_call (takes_of rfl rfl rfl rfl) fun _ _ _ _ h => h) (clo_list clo_int) (ea_cons (eo_pn (U := Unit) (a := ()) 0 fun _ => rfl) (ea_cons (eo_t ex_int) ea_nil)) (fun _ => rfl) (fun _ => rfl) (fun _ _ => rfl) (fun _ _ => (.cp cp_int (.tc cp_int) .nil)) (hWE hW) (wios hio fun _ => (.eq (.un (.un (.un (.un .nil)))))))) (fun v_law_place_here837 => (bx_end (v_law_files_here836, v_law_place_here837) fun _ => (.eq (.eq (.eq (.un (.un .nil))))))) inferInstance (fun _ => rfl)))))) inferInstance (fun _ => rfl)))) (fun l816 => (bx_nf (fun s => [.pn v0 (rList rInt) s, .is (rList (rPair rInt rInt)) l816.1, .is rInt l816.2, .un, .un]) (fun _ => rfl) (bx_ret (ex_tup2 (ex_max2 ex_int (ex_bin op_add (vo_I0 fun i j => i + j) (fun _ _ => stl_ret _) (ex_var 2 cp_int fun _ => rfl) (ex_callIo (E := E) 0 (fun q850 => q850.2.1) c__law_coin (hr.mono (by decide)) rfl g__law_coin k__law_coin b__law_coin (by exact passes_call (takes_of rfl rfl rfl rfl) fun _ _ _ _ h => h) (clo_list clo_int) (ea_cons (eo_pn (U := Unit) (a := ()) 0 fun _ => rfl) (ea_cons (eo_t ex_int) ea_nil)) (fun _ => rfl) (fun _ => rfl) (fun _ _ => rfl) (fun _ _ => (.cp cp_int (.tc cp_int) .nil)) (hWE hW) (wios hio fun _ => (.eq (.un (.un (.eq (.eq .nil)))))))) rfl f_max) (ex_freeze (ex_mv 1 fun _ => rfl))) (wios hio fun _ => (.eq (.eq (.un (.eq (.eq .nil))))))))) inferInstance inferInstance))) inferInstance inferInstance (fun _ => rfl) (fun _ => rfl)))⟩
theorem sc__law_drawn_asks : FnScope ["_law_purse_here", "_law_shape", "_law_most", "_law_file_here", "_law_found"] ["_law_purse_here", "_law_shape", "_law_most"] (defScope (Hd.tp 38)) := ⟨rfl, rfl, rfl, by decide +kernel, rfl, by decide +kernel, by decide +kernel⟩
theorem ok__law_drawn_asks  {d__law_coin : FuncData} (c__law_coin : FnOk P w K mg base (L2.CX P w) 1 (ga K "_law_coin") d__law_coin ["_law_purse_here", "_law_many"] (SpI K 2 (rList rInt) (fun u : Int => [.is rInt u]) rInt m__law_coin)) (g__law_coin : mg "_law_coin" = some (.ref (ga K "_law_coin"))) (k__law_coin : PySem.W.keepIn K (.ref (ga K "_law_coin")) = true) (b__law_coin : Binds K d__law_coin ["_law_purse_here", "_law_many"] []) (FD : FunD K "_law_drawn_asks" "_law_drawn_asks" (defArgs (Hd.tp 38)) (defBody (Hd.tp 38)) (defScope (Hd.tp 38)) [] [] (ga K "_law_drawn_asks") fd) : FnOk P w K mg base (L2.CX P w) 2 (ga K "_law_drawn_asks") fd ["_law_purse_here", "_law_shape", "_law_most"] (SpI K 3 (rList rInt) (fun u : ((Int × (List (Int × Int))) × Int) => [.is (rPair rInt (sh (rList (rPair rInt rInt)))) u.1, .is rInt u.2]) (rList rInt) m__law_drawn_asks) :=
  fn_io (k := 1) FD sc__law_drawn_asks o__law_drawn_asks (fun _ => rfl) fun u v0 cdv A outer s H E hr F hio hW => ⟨_, (bx_nf (fun s => [.pn v0 (rList rInt) s, .is (rPair rInt (sh (rList (rPair rInt rInt)))) u.1, .is rInt u.2, .un, .un]) (fun _ => rfl) (bx_asg 4 sc__law_drawn_asks.nd (ex_lst (r := rInt) el_nil) (fun v_law_found859 => (bx_nf (fun s => [.pn v0 (rList rInt) s, .is (rPair rInt (sh (rList (rPair rInt rInt)))) u.1, .is rInt u.2, .un, .is (rList rInt) v_law_found859]) (fun _ => rfl) (bx_for (Gt := fun (l861 : (List Int)) s (x863 : (Int × Int)) => [.pn v0 (rList rInt) s, .is (rPair rInt (sh (rList (rPair rInt rInt)))) u.1, .is rInt u.2, .is (rPair rInt rInt) x863, .is (rList rInt) l861]) (passes_of rfl) rfl (fun (l861 : (List Int)) s => [.pn v0 (rList rInt) s, .is (rPair rInt (sh (rList (rPair rInt rInt)))) u.1, .is rInt u.2, .un, .is (rList rInt) l861]) v_law_found859 (ei_sh (ex_plc (xs := fun a862 => a862) (eo_t (ex_var 1 (cp_pair cp_int cp_sh) fun _ => rfl)) plc2_1 cp_sh fun _ _ => .t) (cp_pair cp_int cp_int)) (fun _ => (.eq (.eq (.eq (.eq (.eq .nil)))))) (fun _ _ => trivial) (fun l861 _ => (eg_name (i := 3) rfl sc__law_drawn_asks.nd)) (fun l861 x863 => (bx_nf (fun s => [.pn v0 (rList rInt) s, .is (rPair rInt (sh (rList (rPair rInt rInt)))) u.1, .is rInt u.2, .is (rPair rInt rInt) x863, .is (rList rInt) l861]) (fun _ => rfl) (bx_app 4 (ex_ix (eo_t (ex_lst (r := rInt) (el_cons ex_int (el_cons ex_int (el_cons (ex_callIo (E := E) 0 (fun q870 => q870.2.1) c__law_coin (hr.mono (by decide)) rfl g__law_coin k__law_coin b__law_coin (by exact passes_call (takes_of rfl rfl rfl rfl) fun _ _ _ _ h => h) (clo_list clo_int) (ea_cons (eo_pn (U := Unit) (a := ()) 0 fun _ => rfl) (ea_cons (eo_t (ex_bin op_add (vo_I0 fun i j => i + j) (fun _ _ => stl_ret _) (ex_var 2 cp_int fun _ => rfl) ex_int)) ea_nil)) (fun _ => rfl) (fun _ => rfl) (fun _ _ => rfl) (fun _ _ => (.cp cp_int (.tc cp_int) .nil)) (hWE hW) (wios hio fun _ => (.eq (.un (.un (.un (.un .nil))))))) el_nil))))) (ex_callIo (E := E) 0 (fun q880 => q880.2.1) c__law_coin (hr.mono (by decide)) rfl g__law_coin k__law_coin b__law_coin (by exact passes_call (takes_of rfl rfl rfl rfl) fun _ _ _ _ h => h) (clo_list clo_int) (ea_cons (eo_pn (U := Unit) (a := ()) 0 fun _ => rfl) (ea_cons (eo_t ex_int) ea_nil)) (fun _ => rfl) (fun _ => rfl) (fun _ _ => rfl) (fun _ _ => (.cp cp_int (.tc cp_int) .nil)) (hWE hW) (wios hio fun _ => (.eq (.un (.un (.un (.un .nil))))))) cp_int fun _ _ => .t) (fun _ => rfl) (fun _ => rfl) fun v_law_found884 => (bx_end v_law_found884 fun _ => (.eq (.eq (.eq (.un (.eq .nil))))))))) (fun l861 => (bx_nf (fun s => [.pn v0 (rList rInt) s, .is (rPair rInt (sh (rList (rPair rInt rInt)))) u.1, .is rInt u.2, .un, .is (rList rInt) l861]) (fun _ => rfl) (bx_ret (ex_mv 4 fun _ => rfl) (wios hio fun _ => (.eq (.un (.un (.eq (.eq .nil))))))))) inferInstance inferInstance))) inferInstance (fun _ => rfl)))⟩
theorem sc__law_asked : FnScope ["_law_asks_here", "_law_count", "_law_spot"] ["_law_asks_here"] (defScope (Hd.tp 39)) := ⟨rfl, rfl, rfl, by decide +kernel, rfl, by decide +kernel, by decide +kernel⟩
theorem bk__law_asked_0 : BlkOk ["_law_asks_here", "_law_count", "_law_spot"] (defScope (Hd.tp 39)) { kind := .function, names := [(".0", .local), ("_law_spot", .local), ("_law_count", .local)], isGenerator := false, isCoroutine := false, more := [] } [("_law_spot", 2), ("_law_count", 1)] := blkOk_by (by decide +kernel)
theorem ok__law_asked (f_enumerate : mg "enumerate" = none) (FD : FunD K "_law_asked" "_law_asked" (defArgs (Hd.tp 39)) (defBody (Hd.tp 39)) (defScope (Hd.tp 39)) [] [] (ga K "_law_asked") fd) : FnOk P w K mg base (L2.CX P w) 1 (ga K "_law_asked") fd ["_law_asks_here"] (SpP K 1 (fun u : (List Int) => [.is (sh (rList rInt)) u]) (rList rInt) m__law_asked) :=
  fn_pure (k := 0) FD sc__law_asked o__law_asked (fun _ => rfl) fun u cdv A outer s H E hr F hio hW => ⟨_, (bx_nf (fun s => [.is (sh (rList rInt)) u, .un, .un]) (fun _ => rfl) (bx_ret (ex_lcU (Gt := fun s (x887 : (Int × Int)) => [.is (sh (rList rInt)) u, .is rInt x887.2, .is rInt x887.1]) s rfl sc__law_asked.nd (ei_enum (ex_var 0 cp_sh fun _ => rfl) cp_int rfl f_enumerate) (fun _ => trivial) bk__law_asked_0 (fun _ => (.cons rfl (.cons rfl .nil))) (by exact fun _ h => h) (fun _ _ => (.eq (.un (.un .nil)))) (fun _ _ _ _ _ _ => (eg_pair rfl (eg_name (i := 2) rfl sc__law_asked.nd) (fun _ => (eg_name (i := 1) rfl sc__law_asked.nd)) inferInstance)) (fun _ _ _ _ _ x887 => (ets_one (et_cmp op_gt (vo_B0 fun i j => decide (j < i)) (fun _ _ => stl_ret _) (ex_var 1 cp_int fun _ => rfl) ex_int rfl))) (fun _ _ _ _ _ x887 => (ex_var 2 cp_int fun _ => rfl)) inferInstance inferInstance) (wio hio fun _ => (.un (.eq (.eq .nil))))))⟩
theorem sc__law_drawn_row : FnScope ["_law_purse_here", "_law_asks_here", "_law_asked_here", "_law_far", "_law_found", "_law_spot"] ["_law_purse_here", "_law_asks_here"] (defScope (Hd.tp 40)) := ⟨rfl, rfl, rfl, by decide +kernel, rfl, by decide +kernel, by decide +kernel⟩
theorem ok__law_drawn_row (f_len : mg "len" = none) (f_range : mg "range" = none) {d__law_asked : FuncData} (c__law_asked : FnOk P w K mg base (L2.CX P w) 1 (ga K "_law_asked") d__law_asked ["_law_asks_here"] (SpP K 1 (fun u : (List Int) => [.is (sh (rList rInt)) u]) (rList rInt) m__law_asked)) (g__law_asked : mg "_law_asked" = some (.ref (ga K "_law_asked"))) (k__law_asked : PySem.W.keepIn K (.ref (ga K "_law_asked")) = true) (b__law_asked : Binds K d__law_asked ["_law_asks_here"] []) {d__law_coin : FuncData} (c__law_coin : FnOk P w K mg base (L2.CX P w) 1 (ga K "_law_coin") d__law_coin ["_law_purse_here", "_law_many"] (SpI K 2 (rList rInt) (fun u : Int => [.is rInt u]) rInt m__law_coin)) (g__law_coin : mg "_law_coin" = some (.ref (ga K "_law_coin"))) (k__law_coin : PySem.W.keepIn K (.ref (ga K "_law_coin")) = true) (b__law_coin : Binds K d__law_coin ["_law_purse_here", "_law_many"] []) (FD : FunD K "_law_drawn_row" "_law_drawn_row" (defArgs (Hd.tp 40)) (defBody (Hd.tp 40)) (defScope (Hd.tp 40)) [] [] (ga K "_law_drawn_row") fd) : FnOk P w K mg base (L2.CX P w) 2 (ga K "_law_drawn_row") fd ["_law_purse_here", "_law_asks_here"] (SpI K 2 (rList rInt) (fun u : (List Int) => [.is (sh (rList rInt)) u]) (rList (rPair rInt rInt)) m__law_drawn_row) :=
  fn_io (k := 1) FD sc__law_drawn_row o__law_drawn_row (fun _ => rfl) fun u v0 cdv A outer s H E hr F hio hW => ⟨_, (bx_nf (fun s => [.pn v0 (rList rInt) s, .is (sh (rList rInt)) u, .un, .un, .un, .un]) (fun _ => rfl) (bx_par 2 4 sc__law_drawn_row.nd rfl (by decide) (ex_freeze (ex_call (E := E) (fun q893 => q893.1) c__law_asked (hr.mono (by decide)) rfl g__law_asked k__law_asked b__law_asked (by exact passes_call (takes_of rfl rfl rfl rfl) fun _ _ _ _ h => h) (ea_cons (eo_t (ex_var 1 cp_sh fun _ => rfl)) ea_nil) (fun _ => rfl) (.inl ⟨(clo_list clo_int), fun _ _ => (.cp cp_sh .t .nil)⟩) (hWE hW) (wios hio fun _ => (.eq (.un (.eq (.eq (.eq (.eq .nil))))))))) (ex_lst (r := (rPair rInt rInt)) el_nil) (fun v_law_asked_here895 v_law_found896 => (bx_nf (fun s => [.pn v0 (rList rInt) s, .is (sh (rList rInt)) u, .is (sh (rList rInt)) v_law_asked_here895, .un, .is (rList (rPair rInt rInt)) v_law_found896, .un]) (fun _ => rfl) (bx_for (Gt := fun (l897 : (List (Int × Int))) s (x904 : Int) => [.pn v0 (rList rInt) s, .is (sh (rList rInt)) u, .is (sh (rList rInt)) v_law_asked_here895, .un, .is (rList (rPair rInt rInt)) l897, .is rInt x904]) (passes_of rfl) rfl (fun (l897 : (List (Int × Int))) s => [.pn v0 (rList rInt) s, .is (sh (rList rInt)) u, .is (sh (rList rInt)) v_law_asked_here895, .un, .is (rList (rPair rInt rInt)) l897, .un]) v_law_found896 (ei_rng3 (ex_bin op_sub (vo_I0 fun i j => i - j) (fun _ _ => stl_ret _) (ex_len (eo_t (ex_var 2 cp_sh fun _ => rfl)) (fun _ _ => .ts) rfl f_len) ex_int) ex_int rfl f_range) (fun _ => (.eq (.eq (.eq (.eq (.eq (.eq .nil))))))) (fun _ _ => trivial) (fun l897 _ => (eg_name (i := 5) rfl sc__law_drawn_row.nd)) (fun l897 x904 => (bx_nf (fun s => [.pn v0 (rList rInt) s, .is (sh (rList rInt)) u, .is (sh (rList rInt)) v_law_asked_here895, .un, .is (rList (rPair rInt rInt)) l897, .is rInt x904]) (fun _ => rfl) (bx_if (GJ := fun (n935 : (List (Int × Int))) s => [.pn v0 (rList rInt) s, .is (sh (rList rInt)) u, .is (sh (rList rInt)) v_law_asked_here895, .un, .is (rList (rPair rInt rInt)) n935, .is rInt x904]) (et_cmp op_eq vo_eqI (fun _ _ => stl_ret _) (ex_callIo (E := E) 0 (fun q913 => q913.2.1) c__law_coin (hr.mono (by decide)) rfl g__law_coin k__law_coin b__law_coin (by exact passes_call (takes_of rfl rfl rfl rfl) fun _ _ _ _ h => h) (clo_list clo_int) (ea_cons (eo_pn (U := Unit) (a := ()) 0 fun _ => rfl) (ea_cons (eo_t ex_int) ea_nil)) (fun _ => rfl) (fun _ => rfl) (fun _ _ => rfl) (fun _ _ => (.cp cp_int (.tc cp_int) .nil)) (hWE hW) (wios hio fun _ => (.eq (.un (.un (.eq (.un (.un .nil)))))))) ex_int rfl) (bx_nf (fun s => [.pn v0 (rList rInt) s, .is (sh (rList rInt)) u, .is (sh (rList rInt)) v_law_asked_here895, .un, .is (rList (rPair rInt rInt)) l897, .is rInt x904]) (fun _ => rfl) (bx_asg 3 sc__law_drawn_row.nd (ex_bin op_add (vo_I0 fun i j => i + j) (fun _ _ => stl_ret _) (ex_var 5 cp_int fun _ => rfl) (ex_callIo (E := E) 0 (fun q943 => q943.2.1) c__law_coin (hr.mono (by decide)) rfl g__law_coin k__law_coin b__law_coin (by exact passes_call (takes_of rfl rfl rfl rfl) fun _ _ _ _ h => h) (clo_list clo_int) (ea_cons (eo_pn (U := Unit) (a := ()) 0 fun _ => rfl) (ea_cons (eo_t (ex_bin op_sub (vo_I0 fun i j => i - j) (fun _ _ => stl_ret _) (ex_len (eo_t (ex_var 2 cp_sh fun _ => rfl)) (fun _ _ => .ts) rfl f_len) (ex_var 5 cp_int fun _ => rfl))) ea_nil)) (fun _ => rfl) (fun _ => rfl) (fun _ _ => rfl) (fun _ _ => (.cp cp_int (.tc cp_int) .nil)) (hWE hW) (wios hio fun _ => (.eq (.un (.un (.eq (.un (.un .nil))))))))) (fun v_law_far936 => (bx_nf (fun s => [.pn v0 (rList rInt) s, .is (sh (rList rInt)) u, .is (sh (rList rInt)) v_law_asked_here895, .is rInt v_law_far936, .is (rList (rPair rInt rInt)) l897, .is rInt x904]) (fun _ => rfl) (bx_app 4 (ex_tup2 (ex_ix (eo_t (ex_var 2 cp_sh fun _ => rfl)) (ex_var 5 cp_int fun _ => rfl) cp_int fun _ _ => .ts) (ex_ix (eo_t (ex_var 2 cp_sh fun _ => rfl)) (ex_var 3 cp_int fun _ => rfl) cp_int fun _ _ => .ts)) (fun _ => rfl) (fun _ => rfl) fun v_law_found954 => (bx_end v_law_found954 fun _ => (.eq (.eq (.eq (.un (.eq (.eq .nil)))))))))) inferInstance (fun _ => rfl))) (bx_end l897 fun _ => (.eq (.eq (.eq (.eq (.eq (.eq .nil))))))) (fun n935 => (bx_end n935 fun _ => (.eq (.eq (.eq (.eq (.eq (.un .nil)))))))) inferInstance))) (fun l897 => (bx_nf (fun s => [.pn v0 (rList rInt) s, .is (sh (rList rInt)) u, .is (sh (rList rInt)) v_law_asked_here895, .un, .is (rList (rPair rInt rInt)) l897, .un]) (fun _ => rfl) (bx_ret (ex_mv 4 fun _ => rfl) (wios hio fun _ => (.eq (.un (.un (.eq (.eq (.eq .nil)))))))))) inferInstance inferInstance))) inferInstance inferInstance (fun _ => rfl) (fun _ => rfl)))⟩
theorem sc__law_led : FnScope ["_law_shape", "_law_asks_here", "_law_row_here", "_law_asked_here", "_law_first", "_law_found", "_law_last", "_law_spot", "_law_unread"] ["_law_shape", "_law_asks_here", "_law_row_here"] (defScope (Hd.tp 41)) := ⟨rfl, rfl, rfl, by decide +kernel, rfl, by decide +kernel, by decide +kernel⟩
theorem bk__law_led_0 : BlkOk ["_law_shape", "_law_asks_here", "_law_row_here", "_law_asked_here", "_law_first", "_law_found", "_law_last", "_law_spot", "_law_unread"] (defScope (Hd.tp 41)) { kind := .function, names := [(".0", .local), ("_law_spot", .local), ("_law_first", .free), ("_law_last", .free)], isGenerator := false, isCoroutine := false, more := [] } [("_law_spot", 7)] := blkOk_by (by decide +kernel)
theorem ok__law_led (f_list : mg "list" = none) {d__law_asked : FuncData} (c__law_asked : FnOk P w K mg base (L2.CX P w) 1 (ga K "_law_asked") d__law_asked ["_law_asks_here"] (SpP K 1 (fun u : (List Int) => [.is (sh (rList rInt)) u]) (rList rInt) m__law_asked)) (g__law_asked : mg "_law_asked" = some (.ref (ga K "_law_asked"))) (k__law_asked : PySem.W.keepIn K (.ref (ga K "_law_asked")) = true) (b__law_asked : Binds K d__law_asked ["_law_asks_here"] []) (FD : FunD K "_law_led" "_law_led" (defArgs (Hd.tp 41)) (defBody (Hd.tp 41)) (defScope (Hd.tp 41)) [] [] (ga K "_law_led") fd) : FnOk P w K mg base (L2.CX P w) 2 (ga K "_law_led") fd ["_law_shape", "_law_asks_here", "_law_row_here"] (SpP K 3 (fun u : ((Int × (List (Int × Int))) × (List Int) × (List (Int × Int))) => [.is (rPair rInt (sh (rList (rPair rInt rInt)))) u.1, .is (sh (rList rInt)) u.2.1, .is (sh (rList (rPair rInt rInt))) u.2.2]) (rList rInt) m__law_led) :=
  fn_pure (k := 1) FD sc__law_led o__law_led (fun _ => rfl) fun u cdv A outer s H E hr F hio hW => ⟨_, (bx_nf (fun s => [.is (rPair rInt (sh (rList (rPair rInt rInt)))) u.1, .is (sh (rList rInt)) u.2.1, .is (sh (rList (rPair rInt rInt))) u.2.2, .un, .un, .un, .un, .un, .un]) (fun _ => rfl) (bx_asg 3 sc__law_led.nd (ex_freeze (ex_call (E := E) (fun q959 => q959.1) c__law_asked (hr.mono (by decide)) rfl g__law_asked k__law_asked b__law_asked (by exact passes_call (takes_of rfl rfl rfl rfl) fun _ _ _ _ h => h) (ea_cons (eo_t (ex_var 1 cp_sh fun _ => rfl)) ea_nil) (fun _ => rfl) (.inl ⟨(clo_list clo_int), fun _ _ => (.cp cp_sh .t .nil)⟩) (hWE hW) (wio hio fun _ => (.un (.un (.un (.eq (.eq (.eq (.eq (.eq (.eq .nil)))))))))))) (fun v_law_asked_here956 => (bx_nf (fun s => [.is (rPair rInt (sh (rList (rPair rInt rInt)))) u.1, .is (sh (rList rInt)) u.2.1, .is (sh (rList (rPair rInt rInt))) u.2.2, .is (sh (rList rInt)) v_law_asked_here956, .un, .un, .un, .un, .un]) (fun _ => rfl) (bx_ifr (GE_ := fun e _ => e.elim) (et_eqD hr.units (eo_t (ex_var 3 cp_sh fun _ => rfl)) (eo_t (ex_lst (r := rInt) el_nil)) (fun _ _ => .mk (en_L enc_int) .ts) (fun _ _ => .mk (en_L enc_int) .t)) (bx_nf (fun s => [.is (rPair rInt (sh (rList (rPair rInt rInt)))) u.1, .is (sh (rList rInt)) u.2.1, .is (sh (rList (rPair rInt rInt))) u.2.2, .is (sh (rList rInt)) v_law_asked_here956, .un, .un, .un, .un, .un]) (fun _ => rfl) (bx_ret (ex_lst (r := rInt) (el_cons (ex_plc (xs := fun a966 => a966) (eo_t (ex_var 0 (cp_pair cp_int cp_sh) fun _ => rfl)) plc2_0 cp_int fun _ _ => .t) el_nil)) (wio hio fun _ => (.un (.un (.un (.un (.eq (.eq (.eq (.eq (.eq .nil)))))))))))) (bx_nf (fun s => [.is (rPair rInt (sh (rList (rPair rInt rInt)))) u.1, .is (sh (rList rInt)) u.2.1, .is (sh (rList (rPair rInt rInt))) u.2.2, .is (sh (rList rInt)) v_law_asked_here956, .un, .un, .un, .un, .un]) (fun _ => rfl) (bx_par 5 8 sc__law_led.nd rfl (by decide) (ex_lst (r := rInt) el_nil) (ex_freeze (ex_list (eo_t (ex_var 3 cp_sh fun _ => rfl)) cp_int (fun _ _ => .ts) rfl f_list)) (fun v_law_found971 v_law_unread972 => (bx_nf (fun s => [.is (rPair rInt (sh (rList (rPair rInt rInt)))) u.1, .is (sh (rList rInt)) u.2.1, .is (sh (rList (rPair rInt rInt))) u.2.2, .is (sh (rList rInt)) v_law_asked_here956, .un, .is (rList rInt) v_law_found971, .un, .un, .is (sh (rList rInt)) v_law_unread972]) (fun _ => rfl) (bx_for (Gt := fun (l973 : ((List Int) × (List Int))) s (x974 : (Int × Int)) => [.is (rPair rInt (sh (rList (rPair rInt rInt)))) u.1, .is (sh (rList rInt)) u.2.1, .is (sh (rList (rPair rInt rInt))) u.2.2, .is (sh (rList rInt)) v_law_asked_here956, .is rInt x974.1, .is (rList rInt) l973.1, .is rInt x974.2, .un, .is (sh (rList rInt)) l973.2]) (passes_of rfl) rfl (fun (l973 : ((List Int) × (List Int))) s => [.is (rPair rInt (sh (rList (rPair rInt rInt)))) u.1, .is (sh (rList rInt)) u.2.1, .is (sh (rList (rPair rInt rInt))) u.2.2, .is (sh (rList rInt)) v_law_asked_here956, .un, .is (rList rInt) l973.1, .un, .un, .is (sh (rList rInt)) l973.2]) (v_law_found971, v_law_unread972) (ei_sh (ex_var 2 cp_sh fun _ => rfl) (cp_pair cp_int cp_int)) (fun _ => (.eq (.eq (.eq (.eq (.eq (.eq (.eq (.eq (.eq .nil)))))))))) (fun _ _ => trivial) (fun l973 _ => (eg_pair rfl (eg_name (i := 4) rfl sc__law_led.nd) (fun _ => (eg_name (i := 6) rfl sc__law_led.nd)) inferInstance)) (fun l973 x974 => (bx_nf (fun s => [.is (rPair rInt (sh (rList (rPair rInt rInt)))) u.1, .is (sh (rList rInt)) u.2.1, .is (sh (rList (rPair rInt rInt))) u.2.2, .is (sh (rList rInt)) v_law_asked_here956, .is rInt x974.1, .is (rList rInt) l973.1, .is rInt x974.2, .un, .is (sh (rList rInt)) l973.2]) (fun _ => rfl) (bx_asg 5 sc__law_led.nd (ex_cat (eo_own (U := Unit) (a := ()) 5 fun _ => rfl) (eo_t (ex_lst (r := rInt) (el_cons (ex_plc (xs := fun a987 => a987) (eo_t (ex_ix (eo_t (ex_plc (xs := fun a984 => a984) (eo_t (ex_var 0 (cp_pair cp_int cp_sh) fun _ => rfl)) plc2_1 cp_sh fun _ _ => .t)) (ex_var 4 cp_int fun _ => rfl) (cp_pair cp_int cp_int) fun _ _ => .ts)) plc2_0 cp_int fun _ _ => .t) (el_cons (ex_plc (xs := fun a981 => a981) (eo_t (ex_ix (eo_t (ex_plc (xs := fun a978 => a978) (eo_t (ex_var 0 (cp_pair cp_int cp_sh) fun _ => rfl)) plc2_1 cp_sh fun _ _ => .t)) (ex_var 6 cp_int fun _ => rfl) (cp_pair cp_int cp_int) fun _ _ => .ts)) plc2_1 cp_int fun _ _ => .t) el_nil)))) cp_int (fun _ _ => (.v rfl)) (fun _ _ => .t)) (fun v_law_found975 => (bx_nf (fun s => [.is (rPair rInt (sh (rList (rPair rInt rInt)))) u.1, .is (sh (rList rInt)) u.2.1, .is (sh (rList (rPair rInt rInt))) u.2.2, .is (sh (rList rInt)) v_law_asked_here956, .is rInt x974.1, .is (rList rInt) v_law_found975, .is rInt x974.2, .un, .is (sh (rList rInt)) l973.2]) (fun _ => rfl) (bx_lcS (i := 8) (Gt := fun s (x992 : Int) => [.is (rPair rInt (sh (rList (rPair rInt rInt)))) u.1, .is (sh (rList rInt)) u.2.1, .is (sh (rList (rPair rInt rInt))) u.2.2, .is (sh (rList rInt)) v_law_asked_here956, .is rInt x974.1, .is (rList rInt) v_law_found975, .is rInt x974.2, .is rInt x992, .is (sh (rList rInt)) l973.2]) s rfl sc__law_led.nd (ei_sh (ex_var 8 cp_sh fun _ => rfl) cp_int) (fun _ => trivial) bk__law_led_0 (fun _ => (.cons rfl .nil)) (by exact fun _ h => h) (fun _ _ => (.eq (.eq (.eq (.eq (.eq (.eq (.eq (.un (.eq .nil)))))))))) (fun _ _ _ _ _ _ => (eg_name (i := 7) rfl sc__law_led.nd)) (fun _ _ _ _ _ x992 => (ets_one (et_not (et_chain2 ci_le ci_le (ex_var 4 cp_int fun _ => rfl) (ex_var 7 cp_int fun _ => rfl) (ex_var 6 cp_int fun _ => rfl))))) (fun _ _ _ _ _ x992 => (ex_var 7 cp_int fun _ => rfl)) inferInstance inferInstance (fun v_law_unread991 => (bx_end (v_law_found975, v_law_unread991) fun _ => (.eq (.eq (.eq (.eq (.un (.eq (.un (.eq (.eq .nil))))))))))) (fun _ => rfl)))) inferInstance (fun _ => rfl)))) (fun l973 => (bx_nf (fun s => [.is (rPair rInt (sh (rList (rPair rInt rInt)))) u.1, .is (sh (rList rInt)) u.2.1, .is (sh (rList (rPair rInt rInt))) u.2.2, .is (sh (rList rInt)) v_law_asked_here956, .un, .is (rList rInt) l973.1, .un, .un, .is (sh (rList rInt)) l973.2]) (fun _ => rfl) (bx_app 5 (ex_plc (xs := fun a1002 => a1002) (eo_t (ex_ix (eo_t (ex_plc (xs := fun a997 => a997) (eo_t (ex_var 0 (cp_pair cp_int cp_sh) fun _ => rfl)) plc2_1 cp_sh fun _ _ => .t)) (ex_ix (eo_t (ex_var 3 cp_sh fun _ => rfl)) ex_int cp_int fun _ _ => .ts) (cp_pair cp_int cp_int) fun _ _ => .ts)) plc2_0 cp_int fun _ _ => .t) (fun _ => rfl) (fun _ => rfl) fun v_law_found1004 => (bx_nf (fun s => [.is (rPair rInt (sh (rList (rPair rInt rInt)))) u.1, .is (sh (rList rInt)) u.2.1, .is (sh (rList (rPair rInt rInt))) u.2.2, .is (sh (rList rInt)) v_law_asked_here956, .un, .is (rList rInt) v_law_found1004, .un, .un, .is (sh (rList rInt)) l973.2]) (fun _ => rfl) (bx_ret (ex_cat (eo_own (U := Unit) (a := ()) 5 fun _ => rfl) (eo_t (ex_lst (r := rInt) (el_cons (ex_plc (xs := fun a1013 => a1013) (eo_t (ex_ix (eo_t (ex_plc (xs := fun a1007 => a1007) (eo_t (ex_var 0 (cp_pair cp_int cp_sh) fun _ => rfl)) plc2_1 cp_sh fun _ _ => .t)) (ex_ix (eo_t (ex_var 8 cp_sh fun _ => rfl)) (ex_neg ex_int) cp_int fun _ _ => .ts) (cp_pair cp_int cp_int) fun _ _ => .ts)) plc2_1 cp_int fun _ _ => .t) el_nil))) cp_int (fun _ _ => (.v rfl)) (fun _ _ => .t)) (wio hio fun _ => (.un (.un (.un (.un (.eq (.un (.eq (.eq (.un .nil))))))))))))))) inferInstance inferInstance))) inferInstance inferInstance (fun _ => rfl) (fun _ => rfl)))))) inferInstance (fun _ => rfl)))⟩
theorem sc__law_waits : FnScope ["_law_shape", "_law_asks_here", "_law_goals", "_law_begin", "_law_edge", "_law_end", "_law_file_here", "_law_found", "_law_goal", "_law_is_left", "_law_is_new", "_law_number", "_law_spot_here", "_law_steps", "_law_turns"] ["_law_shape", "_law_asks_here", "_law_goals"] (defScope (Hd.tp 42)) := ⟨rfl, rfl, rfl, by decide +kernel, rfl, by decide +kernel, by decide +kernel⟩
theorem bk__law_waits_0 : BlkOk ["_law_shape", "_law_asks_here", "_law_goals", "_law_begin", "_law_edge", "_law_end", "_law_file_here", "_law_found", "_law_goal", "_law_is_left", "_law_is_new", "_law_number", "_law_spot_here", "_law_steps", "_law_turns"] (defScope (Hd.tp 42)) { kind := .function, names := [(".0", .local), ("_law_file_here", .local)], isGenerator := false, isCoroutine := false, more := [] } [("_law_file_here", 6)] := blkOk_by (by decide +kernel)
theorem ok__law_waits (f_abs : mg "abs" = none) (f_enumerate : mg "enumerate" = none) (FD : FunD K "_law_waits" "_law_waits" (defArgs (Hd.tp 42)) (defBody (Hd.tp 42)) (defScope (Hd.tp 42)) [] [] (ga K "_law_waits") fd) : FnOk P w K mg base (L2.CX P w) 1 (ga K "_law_waits") fd ["_law_shape", "_law_asks_here", "_law_goals"] (SpP K 3 (fun u : ((Int × (List (Int × Int))) × (List Int) × (List Int)) => [.is (rPair rInt (sh (rList (rPair rInt rInt)))) u.1, .is (sh (rList rInt)) u.2.1, .is (sh (rList rInt)) u.2.2]) (rList (rOpt (rPair rInt rInt))) m__law_waits) :=
  fn_pure (k := 0) FD sc__law_waits o__law_waits (fun _ => rfl) fun u cdv A outer s H E hr F hio hW => ⟨_, (bx_nf (fun s => [.is (rPair rInt (sh (rList (rPair rInt rInt)))) u.1, .is (sh (rList rInt)) u.2.1, .is (sh (rList rInt)) u.2.2, .un, .un, .un, .un, .un, .un, .un, .un, .un, .un, .un, .un]) (fun _ => rfl) (bx_par5 12 4 13 14 9 sc__law_waits.nd rfl (by decide) (by decide) (by decide) (by decide) (by decide) (by decide) (by decide) (by decide) (by decide) (by decide) (ex_plc (xs := fun a1018 => a1018) (eo_t (ex_var 0 (cp_pair cp_int cp_sh) fun _ => rfl)) plc2_0 cp_int fun _ _ => .t) (ex_plc (xs := fun a1019 => a1019) (eo_t (ex_var 0 (cp_pair cp_int cp_sh) fun _ => rfl)) plc2_0 cp_int fun _ _ => .t) ex_int ex_int ex_bool (fun v_law_spot_here1020 v_law_edge1021 v_law_steps1022 v_law_turns1023 v_law_is_left1024 => (bx_nf (fun s => [.is (rPair rInt (sh (rList (rPair rInt rInt)))) u.1, .is (sh (rList rInt)) u.2.1, .is (sh (rList rInt)) u.2.2, .un, .is rInt v_law_edge1021, .un, .un, .un, .un, .is rBool v_law_is_left1024, .un, .un, .is rInt v_law_spot_here1020, .is rInt v_law_steps1022, .is rInt v_law_turns1023]) (fun _ => rfl) (bx_lc (i := 7) (Gt := fun s (x1027 : (Int × Int)) => [.is (rPair rInt (sh (rList (rPair rInt rInt)))) u.1, .is (sh (rList rInt)) u.2.1, .is (sh (rList rInt)) u.2.2, .un, .is rInt v_law_edge1021, .un, .is (rPair rInt rInt) x1027, .un, .un, .is rBool v_law_is_left1024, .un, .un, .is rInt v_law_spot_here1020, .is rInt v_law_steps1022, .is rInt v_law_turns1023]) s rfl sc__law_waits.nd (ei_sh (ex_plc (xs := fun a1026 => a1026) (eo_t (ex_var 0 (cp_pair cp_int cp_sh) fun _ => rfl)) plc2_1 cp_sh fun _ _ => .t) (cp_pair cp_int cp_int)) (fun _ => trivial) bk__law_waits_0 (fun _ => (.cons rfl .nil)) (by exact fun _ h => h) (fun _ _ => (.eq (.eq (.eq (.eq (.eq (.eq (.un (.eq (.eq (.eq (.eq (.eq (.eq (.eq (.eq .nil)))))))))))))))) (fun _ _ _ _ _ _ => (eg_name (i := 6) rfl sc__law_waits.nd)) (fun _ _ _ _ _ x1027 => ets_nil) (fun _ _ _ _ _ x1027 => ex_noneO) inferInstance inferInstance (fun v_law_found1025 => (bx_nf (fun s => [.is (rPair rInt (sh (rList (rPair rInt rInt)))) u.1, .is (sh (rList rInt)) u.2.1, .is (sh (rList rInt)) u.2.2, .un, .is rInt v_law_edge1021, .un, .un, .is (rList (rOpt (rPair rInt rInt))) v_law_found1025, .un, .is rBool v_law_is_left1024, .un, .un, .is rInt v_law_spot_here1020, .is rInt v_law_steps1022, .is rInt v_law_turns1023]) (fun _ => rfl) (bx_for (Gt := fun (l1028 : (Int × (List (Option (Int × Int))) × Bool × Int × Int × Int)) s (x1029 : Int) => [.is (rPair rInt (sh (rList (rPair rInt rInt)))) u.1, .is (sh (rList rInt)) u.2.1, .is (sh (rList rInt)) u.2.2, .un, .is rInt l1028.1, .un, .un, .is (rList (rOpt (rPair rInt rInt))) l1028.2.1, .is rInt x1029, .is rBool l1028.2.2.1, .un, .un, .is rInt l1028.2.2.2.1, .is rInt l1028.2.2.2.2.1, .is rInt l1028.2.2.2.2.2]) (passes_of rfl) rfl (fun (l1028 : (Int × (List (Option (Int × Int))) × Bool × Int × Int × Int)) s => [.is (rPair rInt (sh (rList (rPair rInt rInt)))) u.1, .is (sh (rList rInt)) u.2.1, .is (sh (rList rInt)) u.2.2, .un, .is rInt l1028.1, .un, .un, .is (rList (rOpt (rPair rInt rInt))) l1028.2.1, .un, .is rBool l1028.2.2.1, .un, .un, .is rInt l1028.2.2.2.1, .is rInt l1028.2.2.2.2.1, .is rInt l1028.2.2.2.2.2]) (v_law_edge1021, v_law_found1025, v_law_is_left1024, v_law_spot_here1020, v_law_steps1022, v_law_turns1023) (ei_sh (ex_var 2 cp_sh fun _ => rfl) cp_int) (fun _ => (.eq (.eq (.eq (.eq (.eq (.eq (.eq (.eq (.eq (.eq (.eq (.eq (.eq (.eq (.eq .nil)))))))))))))))) (fun _ _ => trivial) (fun l1028 _ => (eg_name (i := 8) rfl sc__law_waits.nd)) (fun l1028 x1029 => (bx_nf (fun s => [.is (rPair rInt (sh (rList (rPair rInt rInt)))) u.1, .is (sh (rList rInt)) u.2.1, .is (sh (rList rInt)) u.2.2, .un, .is rInt l1028.1, .un, .un, .is (rList (rOpt (rPair rInt rInt))) l1028.2.1, .is rInt x1029, .is rBool l1028.2.2.1, .un, .un, .is rInt l1028.2.2.2.1, .is rInt l1028.2.2.2.2.1, .is rInt l1028.2.2.2.2.2]) (fun _ => rfl) (bx_if (GJ := fun (n1110 : (Int × (List (Option (Int × Int))) × Bool × Int × Int × Int)) s => [.is (rPair rInt (sh (rList (rPair rInt rInt)))) u.1, .is (sh (rList rInt)) u.2.1, .is (sh (rList rInt)) u.2.2, .un, .is rInt n1110.1, .un, .un, .is (rList (rOpt (rPair rInt rInt))) n1110.2.1, .is rInt x1029, .is rBool n1110.2.2.1, .un, .un, .is rInt n1110.2.2.2.1, .is rInt n1110.2.2.2.2.1, .is rInt n1110.2.2.2.2.2]) (et_cmp op_ne vo_neI (fun _ _ => stl_ret _) (ex_var 8 cp_int fun _ => rfl) (ex_var 12 cp_int fun _ => rfl) rfl) (bx_nf (fun s => [.is (rPair rInt (sh (rList (rPair rInt rInt)))) u.1, .is (sh (rList rInt)) u.2.1, .is (sh (rList rInt)) u.2.2, .un, .is rInt l1028.1, .un, .un, .is (rList (rOpt (rPair rInt rInt))) l1028.2.1, .is rInt x1029, .is rBool l1028.2.2.1, .un, .un, .is rInt l1028.2.2.2.1, .is rInt l1028.2.2.2.2.1, .is rInt l1028.2.2.2.2.2]) (fun _ => rfl) (bx_if (GJ := fun (n1124 : (Int × Bool × Int)) s => [.is (rPair rInt (sh (rList (rPair rInt rInt)))) u.1, .is (sh (rList rInt)) u.2.1, .is (sh (rList rInt)) u.2.2, .un, .is rInt n1124.1, .un, .un, .is (rList (rOpt (rPair rInt rInt))) l1028.2.1, .is rInt x1029, .is rBool n1124.2.1, .un, .un, .is rInt l1028.2.2.2.1, .is rInt l1028.2.2.2.2.1, .is rInt n1124.2.2]) (et_cmp op_ne vo_neB (fun _ _ => stl_ret _) (ex_cmp op_lt (vo_B0 fun i j => decide (i < j)) (fun _ _ => stl_ret _) (ex_var 8 cp_int fun _ => rfl) (ex_var 12 cp_int fun _ => rfl) rfl) (ex_var 9 cp_bool fun _ => rfl) rfl) (bx_nf (fun s => [.is (rPair rInt (sh (rList (rPair rInt rInt)))) u.1, .is (sh (rList rInt)) u.2.1, .is (sh (rList rInt)) u.2.2, .un, .is rInt l1028.1, .un, .un, .is (rList (rOpt (rPair rInt rInt))) l1028.2.1, .is rInt x1029, .is rBool l1028.2.2.1, .un, .un, .is rInt l1028.2.2.2.1, .is rInt l1028.2.2.2.2.1, .is rInt l1028.2.2.2.2.2]) (fun _ => rfl) (bx_par3 14 9 4 sc__law_waits.nd rfl (by decide) (by decide) (by decide) (ex_bin op_add (vo_I0 fun i j => i + j) (fun _ _ => stl_ret _) (ex_var 14 cp_int fun _ => rfl) ex_int) (ex_not (ex_var 9 cp_bool fun _ => rfl)) (ex_var 12 cp_int fun _ => rfl) (fun v_law_turns1128 v_law_is_left1129 v_law_edge1130 => (bx_end (v_law_edge1130, v_law_is_left1129, v_law_turns1128) fun _ => (.eq (.eq (.eq (.eq (.eq (.eq (.eq (.eq (.eq (.eq (.eq (.eq (.eq (.eq (.eq .nil))))))))))))))))) inferInstance inferInstance inferInstance (fun _ => rfl) (fun _ => rfl) (fun _ => rfl))) (bx_end (l1028.1, l1028.2.2.1, l1028.2.2.2.2.2) fun _ => (.eq (.eq (.eq (.eq (.eq (.eq (.eq (.eq (.eq (.eq (.eq (.eq (.eq (.eq (.eq .nil)))))))))))))))) (fun n1124 => (bx_nf (fun s => [.is (rPair rInt (sh (rList (rPair rInt rInt)))) u.1, .is (sh (rList rInt)) u.2.1, .is (sh (rList rInt)) u.2.2, .un, .is rInt n1124.1, .un, .un, .is (rList (rOpt (rPair rInt rInt))) l1028.2.1, .is rInt x1029, .is rBool n1124.2.1, .un, .un, .is rInt l1028.2.2.2.1, .is rInt l1028.2.2.2.2.1, .is rInt n1124.2.2]) (fun _ => rfl) (bx_for (Gt := fun (l1131 : (List (Option (Int × Int)))) s (x1134 : (Int × (Int × Int))) => [.is (rPair rInt (sh (rList (rPair rInt rInt)))) u.1, .is (sh (rList rInt)) u.2.1, .is (sh (rList rInt)) u.2.2, .is rInt x1134.2.1, .is rInt n1124.1, .is rInt x1134.2.2, .un, .is (rList (rOpt (rPair rInt rInt))) l1131, .is rInt x1029, .is rBool n1124.2.1, .un, .is rInt x1134.1, .is rInt l1028.2.2.2.1, .is rInt l1028.2.2.2.2.1, .is rInt n1124.2.2]) (passes_of rfl) rfl (fun (l1131 : (List (Option (Int × Int)))) s => [.is (rPair rInt (sh (rList (rPair rInt rInt)))) u.1, .is (sh (rList rInt)) u.2.1, .is (sh (rList rInt)) u.2.2, .un, .is rInt n1124.1, .un, .un, .is (rList (rOpt (rPair rInt rInt))) l1131, .is rInt x1029, .is rBool n1124.2.1, .un, .un, .is rInt l1028.2.2.2.1, .is rInt l1028.2.2.2.2.1, .is rInt n1124.2.2]) l1028.2.1 (ei_enum (ex_plc (xs := fun a1132 => a1132) (eo_t (ex_var 0 (cp_pair cp_int cp_sh) fun _ => rfl)) plc2_1 cp_sh fun _ _ => .t) (cp_pair cp_int cp_int) rfl f_enumerate) (fun _ => (.eq (.eq (.eq (.eq (.eq (.eq (.eq (.eq (.eq (.eq (.eq (.eq (.eq (.eq (.eq .nil)))))))))))))))) (fun _ _ => trivial) (fun l1131 _ => (eg_pair rfl (eg_name (i := 11) rfl sc__law_waits.nd) (fun _ => (eg_pair rfl (eg_name (i := 3) rfl sc__law_waits.nd) (fun _ => (eg_name (i := 5) rfl sc__law_waits.nd)) inferInstance)) inferInstance)) (fun l1131 x1134 => (bx_nf (fun s => [.is (rPair rInt (sh (rList (rPair rInt rInt)))) u.1, .is (sh (rList rInt)) u.2.1, .is (sh (rList rInt)) u.2.2, .is rInt x1134.2.1, .is rInt n1124.1, .is rInt x1134.2.2, .un, .is (rList (rOpt (rPair rInt rInt))) l1131, .is rInt x1029, .is rBool n1124.2.1, .un, .is rInt x1134.1, .is rInt l1028.2.2.2.1, .is rInt l1028.2.2.2.2.1, .is rInt n1124.2.2]) (fun _ => rfl) (bx_asg 10 sc__law_waits.nd (ex_and (ex_isN nn_pair (eo_t (ex_ix (eo_own (U := Unit) (a := ()) 7 fun _ => rfl) (ex_var 11 cp_int fun _ => rfl) (cp_opt (cp_pair cp_int cp_int)) fun _ _ => (.v rfl))) fun _ _ => .t) (ex_one (ex_cmp op_gt (vo_B0 fun i j => decide (j < i)) (fun _ _ => stl_ret _) (ex_ix (eo_t (ex_var 1 cp_sh fun _ => rfl)) (ex_var 11 cp_int fun _ => rfl) cp_int fun _ _ => .ts) ex_int rfl))) (fun v_law_is_new1135 => (bx_nf (fun s => [.is (rPair rInt (sh (rList (rPair rInt rInt)))) u.1, .is (sh (rList rInt)) u.2.1, .is (sh (rList rInt)) u.2.2, .is rInt x1134.2.1, .is rInt n1124.1, .is rInt x1134.2.2, .un, .is (rList (rOpt (rPair rInt rInt))) l1131, .is rInt x1029, .is rBool n1124.2.1, .is rBool v_law_is_new1135, .is rInt x1134.1, .is rInt l1028.2.2.2.1, .is rInt l1028.2.2.2.2.1, .is rInt n1124.2.2]) (fun _ => rfl) (bx_if (GJ := fun (n1167 : (List (Option (Int × Int)))) s => [.is (rPair rInt (sh (rList (rPair rInt rInt)))) u.1, .is (sh (rList rInt)) u.2.1, .is (sh (rList rInt)) u.2.2, .is rInt x1134.2.1, .is rInt n1124.1, .is rInt x1134.2.2, .un, .is (rList (rOpt (rPair rInt rInt))) n1167, .is rInt x1029, .is rBool n1124.2.1, .is rBool v_law_is_new1135, .is rInt x1134.1, .is rInt l1028.2.2.2.1, .is rInt l1028.2.2.2.2.1, .is rInt n1124.2.2]) (et_w (ew_and (et_val (ex_var 10 cp_bool fun _ => rfl)) (ew_and (et_not (et_val (ex_var 9 cp_bool fun _ => rfl))) (ew_and (et_cmp op_le (vo_B0 fun i j => decide (i ≤ j)) (fun _ _ => stl_ret _) (ex_var 4 cp_int fun _ => rfl) (ex_var 3 cp_int fun _ => rfl) rfl) (ew_and1 (et_cmp op_le (vo_B0 fun i j => decide (i ≤ j)) (fun _ _ => stl_ret _) (ex_var 5 cp_int fun _ => rfl) (ex_var 8 cp_int fun _ => rfl) rfl)))))) (bx_nf (fun s => [.is (rPair rInt (sh (rList (rPair rInt rInt)))) u.1, .is (sh (rList rInt)) u.2.1, .is (sh (rList rInt)) u.2.2, .is rInt x1134.2.1, .is rInt n1124.1, .is rInt x1134.2.2, .un, .is (rList (rOpt (rPair rInt rInt))) l1131, .is rInt x1029, .is rBool n1124.2.1, .is rBool v_law_is_new1135, .is rInt x1134.1, .is rInt l1028.2.2.2.1, .is rInt l1028.2.2.2.2.1, .is rInt n1124.2.2]) (fun _ => rfl) (bx_setS 7 (cp_opt (cp_pair cp_int cp_int)) (ex_some (ex_tup2 (ex_bin op_sub (vo_I0 fun i j => i - j) (fun _ _ => stl_ret _) (ex_bin op_add (vo_I0 fun i j => i + j) (fun _ _ => stl_ret _) (ex_var 13 cp_int fun _ => rfl) (ex_var 5 cp_int fun _ => rfl)) (ex_var 12 cp_int fun _ => rfl)) (ex_var 14 cp_int fun _ => rfl))) (ex_var 11 cp_int fun _ => rfl) (fun _ => rfl) (fun _ => rfl) fun v_law_found1179 => (bx_end v_law_found1179 fun _ => (.eq (.eq (.eq (.eq (.eq (.eq (.eq (.eq (.eq (.eq (.eq (.eq (.eq (.eq (.eq .nil)))))))))))))))))) (bx_end l1131 fun _ => (.eq (.eq (.eq (.eq (.eq (.eq (.eq (.eq (.eq (.eq (.eq (.eq (.eq (.eq (.eq .nil)))))))))))))))) (fun n1167 => (bx_end n1167 fun _ => (.eq (.eq (.eq (.un (.eq (.un (.eq (.eq (.eq (.eq (.un (.un (.eq (.eq (.eq .nil))))))))))))))))) inferInstance))) inferInstance (fun _ => rfl)))) (fun l1131 => (bx_nf (fun s => [.is (rPair rInt (sh (rList (rPair rInt rInt)))) u.1, .is (sh (rList rInt)) u.2.1, .is (sh (rList rInt)) u.2.2, .un, .is rInt n1124.1, .un, .un, .is (rList (rOpt (rPair rInt rInt))) l1131, .is rInt x1029, .is rBool n1124.2.1, .un, .un, .is rInt l1028.2.2.2.1, .is rInt l1028.2.2.2.2.1, .is rInt n1124.2.2]) (fun _ => rfl) (bx_par 13 12 sc__law_waits.nd rfl (by decide) (ex_bin op_add (vo_I0 fun i j => i + j) (fun _ _ => stl_ret _) (ex_var 13 cp_int fun _ => rfl) (ex_abs (ex_bin op_sub (vo_I0 fun i j => i - j) (fun _ _ => stl_ret _) (ex_var 8 cp_int fun _ => rfl) (ex_var 12 cp_int fun _ => rfl)) rfl f_abs)) (ex_var 8 cp_int fun _ => rfl) (fun v_law_steps1186 v_law_spot_here1187 => (bx_end (n1124.1, l1131, n1124.2.1, v_law_spot_here1187, v_law_steps1186, n1124.2.2) fun _ => (.eq (.eq (.eq (.eq (.eq (.eq (.eq (.eq (.eq (.eq (.eq (.eq (.eq (.eq (.eq .nil))))))))))))))))) inferInstance inferInstance (fun _ => rfl) (fun _ => rfl)))) inferInstance inferInstance))) inferInstance)) (bx_end (l1028.1, l1028.2.1, l1028.2.2.1, l1028.2.2.2.1, l1028.2.2.2.2.1, l1028.2.2.2.2.2) fun _ => (.eq (.eq (.eq (.eq (.eq (.eq (.eq (.eq (.eq (.eq (.eq (.eq (.eq (.eq (.eq .nil)))))))))))))))) (fun n1110 => (bx_end (n1110.1, n1110.2.1, n1110.2.2.1, n1110.2.2.2.1, n1110.2.2.2.2.1, n1110.2.2.2.2.2) fun _ => (.eq (.eq (.eq (.eq (.eq (.eq (.eq (.eq (.un (.eq (.eq (.eq (.eq (.eq (.eq .nil))))))))))))))))) inferInstance))) (fun l1028 => (bx_nf (fun s => [.is (rPair rInt (sh (rList (rPair rInt rInt)))) u.1, .is (sh (rList rInt)) u.2.1, .is (sh (rList rInt)) u.2.2, .un, .is rInt l1028.1, .un, .un, .is (rList (rOpt (rPair rInt rInt))) l1028.2.1, .un, .is rBool l1028.2.2.1, .un, .un, .is rInt l1028.2.2.2.1, .is rInt l1028.2.2.2.2.1, .is rInt l1028.2.2.2.2.2]) (fun _ => rfl) (bx_ret (ex_mv 7 fun _ => rfl) (wio hio fun _ => (.un (.un (.un (.eq (.un (.eq (.eq (.eq (.eq (.un (.eq (.eq (.un (.un (.un .nil))))))))))))))))))) inferInstance inferInstance))) (fun _ => rfl)))) inferInstance inferInstance inferInstance inferInstance inferInstance (fun _ => rfl) (fun _ => rfl) (fun _ => rfl) (fun _ => rfl) (fun _ => rfl)))⟩
theorem sc__law_made : FnScope ["_law_shape"] ["_law_shape"] (defScope (Hd.tp 43)) := ⟨rfl, rfl, rfl, by decide +kernel, rfl, by decide +kernel, by decide +kernel⟩
theorem ok__law_made (f_list : mg "list" = none) (t_mk : Mk K (tapeC K) (He.ma K (tapeC K) "__init__")) (g_Tape : mg "Tape" = some (.ref (tapeC K))) {d_Tape_DinitD : FuncData} (c_Tape_DinitD : FnOk P w K mg base (L2.CX P w) 1 (He.ma K (tapeC K) "__init__") d_Tape_DinitD ["self", "length", "files"] (SpI K 3 rSelf (fun u : (Int × (List (Int × Int))) => [.is rInt u.1, .is (sh (rList (rPair rInt rInt))) u.2]) rNon m_Tape_DinitD)) (b_Tape_DinitD : Binds K d_Tape_DinitD ["self", "length", "files"] []) (FD : FunD K "_law_made" "_law_made" (defArgs (Hd.tp 43)) (defBody (Hd.tp 43)) (defScope (Hd.tp 43)) [] [] (ga K "_law_made") fd) : FnOk P w K mg base (L2.CX P w) 3 (ga K "_law_made") fd ["_law_shape"] (SpP K 1 (fun u : (Int × (List (Int × Int))) => [.is (rPair rInt (sh (rList (rPair rInt rInt)))) u]) (sh rTape) m__law_made) :=
  fn_pure (k := 2) FD sc__law_made o__law_made (fun _ => rfl) fun u cdv A outer s H E hr F hio hW => ⟨_, (bx_nf (fun s => [.is (rPair rInt (sh (rList (rPair rInt rInt)))) u]) (fun _ => rfl) (bx_ret (ex_make (E := E) (fun q1198 => (q1198.1, q1198.2.1)) t_mk c_Tape_DinitD (hr.mono (by decide)) rfl g_Tape b_Tape_DinitD (by exact passes_call (takes_of rfl rfl rfl rfl) fun _ _ _ _ h => h) (ea_cons (eo_t (ex_plc (xs := fun a1191 => a1191) (eo_t (ex_var 0 (cp_pair cp_int cp_sh) fun _ => rfl)) plc2_0 cp_int fun _ _ => .t)) (ea_cons (eo_t (ex_freeze (ex_list (eo_t (ex_plc (xs := fun a1192 => a1192) (eo_t (ex_var 0 (cp_pair cp_int cp_sh) fun _ => rfl)) plc2_1 cp_sh fun _ _ => .t)) (cp_pair cp_int cp_int) (fun _ _ => .ts) rfl f_list))) ea_nil)) (fun _ => rfl) (fun _ _ => (.cp cp_int (.tc cp_int) (.cp cp_sh (.tc cp_sh) .nil))) (hWE hW) (wio hio fun _ => (.un .nil))) (wio hio fun _ => (.un .nil))))⟩
theorem sc__law_tape_text : FnScope ["_law_shape", "_law_begin", "_law_end", "_law_found"] ["_law_shape"] (defScope (Hd.tp 44)) := ⟨rfl, rfl, rfl, by decide +kernel, rfl, by decide +kernel, by decide +kernel⟩
theorem ok__law_tape_text (f_str : mg "str" = none) (FD : FunD K "_law_tape_text" "_law_tape_text" (defArgs (Hd.tp 44)) (defBody (Hd.tp 44)) (defScope (Hd.tp 44)) [] [] (ga K "_law_tape_text") fd) : FnOk P w K mg base (L2.CX P w) 1 (ga K "_law_tape_text") fd ["_law_shape"] (SpP K 1 (fun u : (Int × (List (Int × Int))) => [.is (rPair rInt (sh (rList (rPair rInt rInt)))) u]) rStr m__law_tape_text) :=
  fn_pure (k := 0) FD sc__law_tape_text o__law_tape_text (fun _ => rfl) fun u cdv A outer s H E hr F hio hW => ⟨_, (bx_nf (fun s => [.is (rPair rInt (sh (rList (rPair rInt rInt)))) u, .un, .un, .un]) (fun _ => rfl) (bx_asg 3 sc__law_tape_text.nd (ex_lst (r := rStr) (el_cons (ex_bin op_add_str vo_catS stl_catS (ex_strI (ex_plc (xs := fun a1207 => a1207) (eo_t (ex_var 0 (cp_pair cp_int cp_sh) fun _ => rfl)) plc2_0 cp_int fun _ _ => .t) rfl f_str) ex_str) el_nil)) (fun v_law_found1201 => (bx_nf (fun s => [.is (rPair rInt (sh (rList (rPair rInt rInt)))) u, .un, .un, .is (rList rStr) v_law_found1201]) (fun _ => rfl) (bx_for (Gt := fun (l1213 : (List Str)) s (x1215 : (Int × Int)) => [.is (rPair rInt (sh (rList (rPair rInt rInt)))) u, .is rInt x1215.1, .is rInt x1215.2, .is (rList rStr) l1213]) (passes_of rfl) rfl (fun (l1213 : (List Str)) s => [.is (rPair rInt (sh (rList (rPair rInt rInt)))) u, .un, .un, .is (rList rStr) l1213]) v_law_found1201 (ei_sh (ex_plc (xs := fun a1214 => a1214) (eo_t (ex_var 0 (cp_pair cp_int cp_sh) fun _ => rfl)) plc2_1 cp_sh fun _ _ => .t) (cp_pair cp_int cp_int)) (fun _ => (.eq (.eq (.eq (.eq .nil))))) (fun _ _ => trivial) (fun l1213 _ => (eg_pair rfl (eg_name (i := 1) rfl sc__law_tape_text.nd) (fun _ => (eg_name (i := 2) rfl sc__law_tape_text.nd)) inferInstance)) (fun l1213 x1215 => (bx_nf (fun s => [.is (rPair rInt (sh (rList (rPair rInt rInt)))) u, .is rInt x1215.1, .is rInt x1215.2, .is (rList rStr) l1213]) (fun _ => rfl) (bx_app 3 (ex_bin op_add_str vo_catS stl_catS (ex_bin op_add_str vo_catS stl_catS (ex_strI (ex_var 1 cp_int fun _ => rfl) rfl f_str) ex_str) (ex_strI (ex_var 2 cp_int fun _ => rfl) rfl f_str)) (fun _ => rfl) (fun _ => rfl) fun v_law_found1233 => (bx_end v_law_found1233 fun _ => (.eq (.un (.un (.eq .nil)))))))) (fun l1213 => (bx_nf (fun s => [.is (rPair rInt (sh (rList (rPair rInt rInt)))) u, .un, .un, .is (rList rStr) l1213]) (fun _ => rfl) (bx_ret (ex_join (xs := fun a1235 => l1213) ex_str (eo_own (U := Unit) (a := ()) 3 fun _ => rfl) fun _ _ => (.v rfl)) (wio hio fun _ => (.un (.eq (.eq (.un .nil)))))))) inferInstance inferInstance))) inferInstance (fun _ => rfl)))⟩
theorem sc_show_row : FnScope ["row", "first", "last"] ["row"] (defScope (Hd.tp 3)) := ⟨rfl, rfl, rfl, by decide +kernel, rfl, by decide +kernel, by decide +kernel⟩
theorem bk_show_row_0 : BlkOk ["row", "first", "last"] (defScope (Hd.tp 3)) { kind := .function, names := [(".0", .local), ("first", .local), ("last", .local)], isGenerator := false, isCoroutine := false, more := [] } [("first", 1), ("last", 2)] := blkOk_by (by decide +kernel)
theorem ok_show_row  (FD : FunD K "show_row" "show_row" (defArgs (Hd.tp 3)) (defBody (Hd.tp 3)) (defScope (Hd.tp 3)) [] [] (ga K "show_row") fd) : FnOk P w K mg base (L2.CX P w) 1 (ga K "show_row") fd ["row"] (SpP K 1 (fun u : (List (Int × Int)) => [.is (sh (rList (rPair rInt rInt))) u]) rStr m_show_row) :=
  fn_pure (k := 0) FD sc_show_row o_show_row (fun _ => rfl) fun u cdv A outer s H E hr F hio hW => ⟨_, (bx_nf (fun s => [.is (sh (rList (rPair rInt rInt))) u, .un, .un]) (fun _ => rfl) (bx_ret (ex_if (et_neD hr.units (eo_t (ex_var 0 cp_sh fun _ => rfl)) (eo_t (ex_lst (r := (rPair rInt rInt)) el_nil)) (fun _ _ => .mk (en_L (en_P enc_int enc_int)) .ts) (fun _ _ => .mk (en_L (en_P enc_int enc_int)) .t)) (ex_join (xs := fun a1241 => a1241) ex_str (eo_t (ex_lcU (Gt := fun s (x1242 : (Int × Int)) => [.is (sh (rList (rPair rInt rInt))) u, .is rInt x1242.1, .is rInt x1242.2]) s rfl sc_show_row.nd (ei_sh (ex_var 0 cp_sh fun _ => rfl) (cp_pair cp_int cp_int)) (fun _ => trivial) bk_show_row_0 (fun _ => (.cons rfl (.cons rfl .nil))) (by exact fun _ h => h) (fun _ _ => (.eq (.un (.un .nil)))) (fun _ _ _ _ _ _ => (eg_pair rfl (eg_name (i := 1) rfl sc_show_row.nd) (fun _ => (eg_name (i := 2) rfl sc_show_row.nd)) inferInstance)) (fun _ _ _ _ _ x1242 => ets_nil) (fun _ _ _ _ _ x1242 => (ex_js (m := (fun (z1250 : Str) => bnd (bnd (ret x1242.1) fun a1243 => bnd (grd (a1243.natAbs.log2 < 1920)) fun _ => ret (istr a1243)) fun a1251 => bnd (grd ((z1250 ++ a1251).length ≤ sizeLine)) fun _ => (fun (z1248 : Str) => bnd (ret ("|" : Str)) fun a1249 => bnd (grd ((z1248 ++ a1249).length ≤ sizeLine)) fun _ => (fun (z1246 : Str) => bnd (bnd (ret x1242.2) fun a1244 => bnd (grd (a1244.natAbs.log2 < 1920)) fun _ => ret (istr a1244)) fun a1247 => bnd (grd ((z1246 ++ a1247).length ≤ sizeLine)) fun _ => (fun (z1245 : Str) => ret z1245) (z1246 ++ a1247)) (z1248 ++ a1249)) (z1250 ++ a1251))) (ej_cons (mr := (fun (z1248 : Str) => bnd (ret ("|" : Str)) fun a1249 => bnd (grd ((z1248 ++ a1249).length ≤ sizeLine)) fun _ => (fun (z1246 : Str) => bnd (bnd (ret x1242.2) fun a1244 => bnd (grd (a1244.natAbs.log2 < 1920)) fun _ => ret (istr a1244)) fun a1247 => bnd (grd ((z1246 ++ a1247).length ≤ sizeLine)) fun _ => (fun (z1245 : Str) => ret z1245) (z1246 ++ a1247)) (z1248 ++ a1249))) (ex_fmtI (ex_var 1 cp_int fun _ => rfl)) (ej_cons (mr := (fun (z1246 : Str) => bnd (bnd (ret x1242.2) fun a1244 => bnd (grd (a1244.natAbs.log2 < 1920)) fun _ => ret (istr a1244)) fun a1247 => bnd (grd ((z1246 ++ a1247).length ≤ sizeLine)) fun _ => (fun (z1245 : Str) => ret z1245) (z1246 ++ a1247))) ex_str (ej_cons (mr := (fun (z1245 : Str) => ret z1245)) (ex_fmtI (ex_var 2 cp_int fun _ => rfl)) ej_nil))))) inferInstance inferInstance)) fun _ _ => .t) ex_str) (wio hio fun _ => (.un (.eq (.eq .nil))))))⟩
theorem sc_show_asks : FnScope ["asks", "count"] ["asks"] (defScope (Hd.tp 4)) := ⟨rfl, rfl, rfl, by decide +kernel, rfl, by decide +kernel, by decide +kernel⟩
theorem bk_show_asks_0 : BlkOk ["asks", "count"] (defScope (Hd.tp 4)) { kind := .function, names := [(".0", .local), ("count", .local), ("str", .globalImplicit)], isGenerator := false, isCoroutine := false, more := [] } [("count", 1)] := blkOk_by (by decide +kernel)
theorem ok_show_asks (f_str : mg "str" = none) (FD : FunD K "show_asks" "show_asks" (defArgs (Hd.tp 4)) (defBody (Hd.tp 4)) (defScope (Hd.tp 4)) [] [] (ga K "show_asks") fd) : FnOk P w K mg base (L2.CX P w) 1 (ga K "show_asks") fd ["asks"] (SpP K 1 (fun u : (List Int) => [.is (sh (rList rInt)) u]) rStr m_show_asks) :=
  fn_pure (k := 0) FD sc_show_asks o_show_asks (fun _ => rfl) fun u cdv A outer s H E hr F hio hW => ⟨_, (bx_nf (fun s => [.is (sh (rList rInt)) u, .un]) (fun _ => rfl) (bx_ret (ex_if (et_neD hr.units (eo_t (ex_var 0 cp_sh fun _ => rfl)) (eo_t (ex_lst (r := rInt) el_nil)) (fun _ _ => .mk (en_L enc_int) .ts) (fun _ _ => .mk (en_L enc_int) .t)) (ex_join (xs := fun a1258 => a1258) ex_str (eo_t (ex_lcU (Gt := fun s (x1259 : Int) => [.is (sh (rList rInt)) u, .is rInt x1259]) s rfl sc_show_asks.nd (ei_sh (ex_var 0 cp_sh fun _ => rfl) cp_int) (fun _ => trivial) bk_show_asks_0 (fun _ => (.cons rfl .nil)) (by exact fun _ h => h) (fun _ _ => (.eq (.un .nil))) (fun _ _ _ _ _ _ => (eg_name (i := 1) rfl sc_show_asks.nd)) (fun _ _ _ _ _ x1259 => ets_nil) (fun _ _ _ _ _ x1259 => (ex_strI (ex_var 1 cp_int fun _ => rfl) rfl f_str)) inferInstance inferInstance)) fun _ _ => .t) ex_str) (wio hio fun _ => (.un (.eq .nil)))))⟩
theorem sc_read_row : FnScope ["text", "first", "found", "last", "one", "other", "piece"] ["text"] (defScope (Hd.tp 21)) := ⟨rfl, rfl, rfl, by decide +kernel, rfl, by decide +kernel, by decide +kernel⟩
theorem bk_read_row_0 : BlkOk ["text", "first", "found", "last", "one", "other", "piece"] (defScope (Hd.tp 21)) { kind := .function, names := [(".0", .local), ("piece", .local), ("pair_in", .globalImplicit)], isGenerator := false, isCoroutine := false, more := [] } [("piece", 6)] := blkOk_by (by decide +kernel)
theorem bk_read_row_1 : BlkOk ["text", "first", "found", "last", "one", "other", "piece"] (defScope (Hd.tp 21)) { kind := .function, names := [(".0", .local), ("first", .local), ("last", .local)], isGenerator := false, isCoroutine := false, more := [] } [("first", 1), ("last", 3)] := blkOk_by (by decide +kernel)
theorem bk_read_row_2 : BlkOk ["text", "first", "found", "last", "one", "other", "piece"] (defScope (Hd.tp 21)) { kind := .function, names := [(".0", .local), ("first", .local), ("last", .local)], isGenerator := false, isCoroutine := false, more := [] } [("first", 1), ("last", 3)] := blkOk_by (by decide +kernel)
theorem bk_read_row_3 : BlkOk ["text", "first", "found", "last", "one", "other", "piece"] (defScope (Hd.tp 21)) { kind := .function, names := [(".0", .local), ("one", .local), ("other", .local)], isGenerator := false, isCoroutine := false, more := [] } [("one", 4), ("other", 5)] := blkOk_by (by decide +kernel)
theorem bk_read_row_4 : BlkOk ["text", "first", "found", "last", "one", "other", "piece"] (defScope (Hd.tp 21)) { kind := .function, names := [(".0", .local), ("one", .local), ("other", .local)], isGenerator := false, isCoroutine := false, more := [] } [("one", 4), ("other", 5)] := blkOk_by (by decide +kernel)
theorem ok_read_row (f_all : mg "all" = none) (f_zip : mg "zip" = none) {d_pair_in : FuncData} (c_pair_in : FnOk P w K mg base (L2.CX P w) 2 (ga K "pair_in") d_pair_in ["text", "mark"] (SpP K 2 (fun u : (Str × Str) => [.is rStr u.1, .is rStr u.2]) (rOpt (rPair rInt rInt)) m_pair_in)) (g_pair_in : mg "pair_in" = some (.ref (ga K "pair_in"))) (k_pair_in : PySem.W.keepIn K (.ref (ga K "pair_in")) = true) (b_pair_in : Binds K d_pair_in ["text", "mark"] []) {d_show_row : FuncData} (c_show_row : FnOk P w K mg base (L2.CX P w) 1 (ga K "show_row") d_show_row ["row"] (SpP K 1 (fun u : (List (Int × Int)) => [.is (sh (rList (rPair rInt rInt))) u]) rStr m_show_row)) (g_show_row : mg "show_row" = some (.ref (ga K "show_row"))) (k_show_row : PySem.W.keepIn K (.ref (ga K "show_row")) = true) (b_show_row : Binds K d_show_row ["row"] []) (FD : FunD K "read_row" "read_row" (defArgs (Hd.tp 21)) (defBody (Hd.tp 21)) (defScope (Hd.tp 21)) [] [] (ga K "read_row") fd) : FnOk P w K mg base (L2.CX P w) 3 (ga K "read_row") fd ["text"] (SpP K 1 (fun u : Str => [.is rStr u]) (sh (rList (rPair rInt rInt))) m_read_row) :=
  fn_pure (k := 2) FD sc_read_row o_read_row (fun _ => rfl) fun u cdv A outer s H E hr F hio hW => ⟨_, (bx_nf (fun s => [.is rStr u, .un, .un, .un, .un, .un, .un]) (fun _ => rfl) (bx_asg 2 sc_read_row.nd (ex_freeze (ex_if (et_cmp op_ne vo_neS (fun _ _ => stl_ret _) (ex_var 0 cp_str fun _ => rfl) ex_str rfl) (ex_lcU (Gt := fun s (x1269 : Str) => [.is rStr u, .un, .un, .un, .un, .un, .is rStr x1269]) s rfl sc_read_row.nd (ei_sh (ex_freeze (ex_split (ex_var 0 cp_str fun _ => rfl) ex_str)) cp_str) (fun _ => trivial) bk_read_row_0 (fun _ => (.cons rfl .nil)) (by exact fun _ h => h) (fun _ _ => (.eq (.eq (.eq (.eq (.eq (.eq (.un .nil)))))))) (fun _ _ _ _ _ _ => (eg_name (i := 6) rfl sc_read_row.nd)) (fun _ _ _ _ _ x1269 => ets_nil) (fun _ _ _ _ _ x1269 => (ex_call (E := fun _ _ _ => False) (fun q1274 => (q1274.1, q1274.2.1)) c_pair_in (hr.mono (by decide)) rfl g_pair_in k_pair_in b_pair_in (by exact passes_nx rfl) (ea_cons (eo_t (ex_var 6 cp_str fun _ => rfl)) (ea_cons (eo_t ex_str) ea_nil)) (fun _ => rfl) (.inl ⟨(clo_opt (clo_pair clo_int clo_int)), fun _ _ => (.cp cp_str .t (.cp cp_str .t .nil))⟩) (fun _ _ _ _ h => h.elim) (wio hio fun _ => (.un (.eq (.eq (.eq (.eq (.eq (.un .nil)))))))))) inferInstance inferInstance) (ex_lst (r := (rOpt (rPair rInt rInt))) el_nil))) (fun v_found1264 => (bx_nf (fun s => [.is rStr u, .un, .is (sh (rList (rOpt (rPair rInt rInt)))) v_found1264, .un, .un, .un, .un]) (fun _ => rfl) (bx_ifr (GE_ := fun e _ => e.elim) (et_w (ew_or (et_inN (xs := fun a1277 => a1277) hr.units nni_pair (eo_t (ex_var 2 cp_sh fun _ => rfl)) fun _ _ => .ts) (ew_or1 (et_not (et_nrwS 2 (fun _ => rfl) (fun _ => rfl) fun y1278 => (et_val (ex_all (eo_t (ex_lcU (Gt := fun s (x1284 : (Int × Int)) => [.is rStr u, .is rInt x1284.1, .is (sh (rList (rPair rInt rInt))) y1278, .is rInt x1284.2, .un, .un, .un]) s rfl sc_read_row.nd (ei_sh (ex_var 2 cp_sh fun _ => rfl) (cp_pair cp_int cp_int)) (fun _ => trivial) bk_read_row_2 (fun _ => (.cons rfl (.cons rfl .nil))) (by exact fun _ h => h) (fun _ _ => (.eq (.un (.eq (.un (.eq (.eq (.eq .nil)))))))) (fun _ _ _ _ _ _ => (eg_pair rfl (eg_name (i := 1) rfl sc_read_row.nd) (fun _ => (eg_name (i := 3) rfl sc_read_row.nd)) inferInstance)) (fun _ _ _ _ _ x1284 => ets_nil) (fun _ _ _ _ _ x1284 => (ex_cmp op_le (vo_B0 fun i j => decide (i ≤ j)) (fun _ _ => stl_ret _) (ex_var 1 cp_int fun _ => rfl) (ex_var 3 cp_int fun _ => rfl) rfl)) inferInstance inferInstance)) (fun _ _ => .t) rfl rfl f_all))))))) (bx_nf (fun s => [.is rStr u, .un, .is (sh (rList (rOpt (rPair rInt rInt)))) v_found1264, .un, .un, .un, .un]) (fun _ => rfl) bx_no) (bx_nf (fun s => [.is rStr u, .un, .is (sh (rList (rOpt (rPair rInt rInt)))) v_found1264, .un, .un, .un, .un]) (fun _ => rfl) (bx_ifr (GE_ := fun e _ => e.elim) (et_w (ew_or (et_not (et_nrwS 2 (fun _ => rfl) (fun _ => rfl) fun y1291 => (et_val (ex_all (eo_t (ex_lcU (Gt := fun s (x1311 : ((Int × Int) × (Int × Int))) => [.is rStr u, .un, .is (sh (rList (rPair rInt rInt))) y1291, .un, .is (rPair rInt rInt) x1311.1, .is (rPair rInt rInt) x1311.2, .un]) s rfl sc_read_row.nd (ei_zipC (ex_var 2 cp_sh fun _ => rfl) (ex_freeze (ex_slice (eo_t (ex_var 2 cp_sh fun _ => rfl)) (ep_some ex_int) ep_none (cp_pair cp_int cp_int) fun _ _ => .ts)) (cp_pair cp_int cp_int) (cp_pair cp_int cp_int) rfl f_zip) (fun _ => trivial) bk_read_row_4 (fun _ => (.cons rfl (.cons rfl .nil))) (by exact fun _ h => h) (fun _ _ => (.eq (.eq (.eq (.eq (.un (.un (.eq .nil)))))))) (fun _ _ _ _ _ _ => (eg_pair rfl (eg_name (i := 4) rfl sc_read_row.nd) (fun _ => (eg_name (i := 5) rfl sc_read_row.nd)) inferInstance)) (fun _ _ _ _ _ x1311 => ets_nil) (fun _ _ _ _ _ x1311 => (ex_cmp op_gt (vo_B0 fun i j => decide (j < i)) (fun _ _ => stl_ret _) (ex_plc (xs := fun a1312 => a1312) (eo_t (ex_var 4 (cp_pair cp_int cp_int) fun _ => rfl)) plc2_0 cp_int fun _ _ => .t) (ex_plc (xs := fun a1313 => a1313) (eo_t (ex_var 5 (cp_pair cp_int cp_int) fun _ => rfl)) plc2_0 cp_int fun _ _ => .t) rfl)) inferInstance inferInstance)) (fun _ _ => .t) rfl rfl f_all)))) (ew_or1 (et_nrwS 2 (fun _ => rfl) (fun _ => rfl) fun y1318 => (et_cmp op_ne vo_neS (fun _ _ => stl_ret _) (ex_call (E := E) (fun q1326 => q1326.1) c_show_row (hr.mono (by decide)) rfl g_show_row k_show_row b_show_row (by exact passes_call (takes_of rfl rfl rfl rfl) fun _ _ _ _ h => h) (ea_cons (eo_t (ex_var 2 cp_sh fun _ => rfl)) ea_nil) (fun _ => rfl) (.inl ⟨clo_str, fun _ _ => (.cp cp_sh .t .nil)⟩) (hWE hW) (wio hio fun _ => (.un (.eq (.un (.eq (.eq (.eq (.eq .nil))))))))) (ex_var 0 cp_str fun _ => rfl) rfl))))) (bx_nf (fun s => [.is rStr u, .un, .is (sh (rList (rOpt (rPair rInt rInt)))) v_found1264, .un, .un, .un, .un]) (fun _ => rfl) bx_no) (bx_nf (fun s => [.is rStr u, .un, .is (sh (rList (rOpt (rPair rInt rInt)))) v_found1264, .un, .un, .un, .un]) (fun _ => rfl) (bx_ret (ex_allSh (ex_var 2 cp_sh fun _ => rfl)) (wio hio fun _ => (.un (.eq (.un (.eq (.eq (.eq (.eq .nil))))))))))))))) inferInstance (fun _ => rfl)))⟩
theorem sc_read_asks : FnScope ["text", "found", "piece"] ["text"] (defScope (Hd.tp 22)) := ⟨rfl, rfl, rfl, by decide +kernel, rfl, by decide +kernel, by decide +kernel⟩
theorem bk_read_asks_0 : BlkOk ["text", "found", "piece"] (defScope (Hd.tp 22)) { kind := .function, names := [(".0", .local), ("piece", .local), ("number_in", .globalImplicit)], isGenerator := false, isCoroutine := false, more := [] } [("piece", 2)] := blkOk_by (by decide +kernel)
theorem ok_read_asks  {d_number_in : FuncData} (c_number_in : FnOk P w K mg base (L2.CX P w) 1 (ga K "number_in") d_number_in ["text"] (SpP K 1 (fun u : Str => [.is rStr u]) (rOpt rInt) m_number_in)) (g_number_in : mg "number_in" = some (.ref (ga K "number_in"))) (k_number_in : PySem.W.keepIn K (.ref (ga K "number_in")) = true) (b_number_in : Binds K d_number_in ["text"] []) {d_show_asks : FuncData} (c_show_asks : FnOk P w K mg base (L2.CX P w) 1 (ga K "show_asks") d_show_asks ["asks"] (SpP K 1 (fun u : (List Int) => [.is (sh (rList rInt)) u]) rStr m_show_asks)) (g_show_asks : mg "show_asks" = some (.ref (ga K "show_asks"))) (k_show_asks : PySem.W.keepIn K (.ref (ga K "show_asks")) = true) (b_show_asks : Binds K d_show_asks ["asks"] []) (FD : FunD K "read_asks" "read_asks" (defArgs (Hd.tp 22)) (defBody (Hd.tp 22)) (defScope (Hd.tp 22)) [] [] (ga K "read_asks") fd) : FnOk P w K mg base (L2.CX P w) 2 (ga K "read_asks") fd ["text"] (SpP K 1 (fun u : Str => [.is rStr u]) (rList rInt) m_read_asks) :=
  fn_pure (k := 1) FD sc_read_asks o_read_asks (fun _ => rfl) fun u cdv A outer s H E hr F hio hW => ⟨_, (bx_nf (fun s => [.is rStr u, .un, .un]) (fun _ => rfl) (bx_asg 1 sc_read_asks.nd (ex_if (et_cmp op_ne vo_neS (fun _ _ => stl_ret _) (ex_var 0 cp_str fun _ => rfl) ex_str rfl) (ex_lcU (Gt := fun s (x1336 : Str) => [.is rStr u, .un, .is rStr x1336]) s rfl sc_read_asks.nd (ei_sh (ex_freeze (ex_split (ex_var 0 cp_str fun _ => rfl) ex_str)) cp_str) (fun _ => trivial) bk_read_asks_0 (fun _ => (.cons rfl .nil)) (by exact fun _ h => h) (fun _ _ => (.eq (.eq (.un .nil)))) (fun _ _ _ _ _ _ => (eg_name (i := 2) rfl sc_read_asks.nd)) (fun _ _ _ _ _ x1336 => ets_nil) (fun _ _ _ _ _ x1336 => (ex_call (E := fun _ _ _ => False) (fun q1339 => q1339.1) c_number_in (hr.mono (by decide)) rfl g_number_in k_number_in b_number_in (by exact passes_nx rfl) (ea_cons (eo_t (ex_var 2 cp_str fun _ => rfl)) ea_nil) (fun _ => rfl) (.inl ⟨(clo_opt clo_int), fun _ _ => (.cp cp_str .t .nil)⟩) (fun _ _ _ _ h => h.elim) (wio hio fun _ => (.un (.eq (.un .nil)))))) inferInstance inferInstance) (ex_lst (r := (rOpt rInt)) el_nil)) (fun v_found1331 => (bx_nf (fun s => [.is rStr u, .is (rList (rOpt rInt)) v_found1331, .un]) (fun _ => rfl) (bx_ifr (GE_ := fun e _ => e.elim) (et_w (ew_or (et_inN (xs := fun a1342 => v_found1331) hr.units nni_int (eo_own (U := Unit) (a := ()) 1 fun _ => rfl) fun _ _ => (.v rfl)) (ew_or1 (et_nrw 1 (fun _ => rfl) (fun _ => rfl) fun y1343 => (et_cmp op_ne vo_neS (fun _ _ => stl_ret _) (ex_call (E := E) (fun q1351 => y1343) c_show_asks (hr.mono (by decide)) rfl g_show_asks k_show_asks b_show_asks (by exact passes_call (takes_of rfl rfl rfl rfl) fun _ _ _ _ h => h) (ea_cons (eo_own (U := Unit) (a := ()) 1 fun _ => rfl) ea_nil) (fun _ => rfl) (.inl ⟨clo_str, fun _ _ => (.sh (.v rfl) .nil)⟩) (hWE hW) (wio hio fun _ => (.un (.un (.eq .nil))))) (ex_var 0 cp_str fun _ => rfl) rfl))))) (bx_nf (fun s => [.is rStr u, .is (rList (rOpt rInt)) v_found1331, .un]) (fun _ => rfl) bx_no) (bx_nf (fun s => [.is rStr u, .is (rList (rOpt rInt)) v_found1331, .un]) (fun _ => rfl) (bx_ret (ex_allS (ex_mv 1 fun _ => rfl)) (wio hio fun _ => (.un (.eq (.eq .nil))))))))) inferInstance (fun _ => rfl)))⟩
theorem sc__law_lists_right : FnScope ["_law_purse_here", "_law_asks_here", "_law_again", "_law_count", "_law_pair", "_law_row_here", "_law_wording"] ["_law_purse_here", "_law_asks_here"] (defScope (Hd.tp 45)) := ⟨rfl, rfl, rfl, by decide +kernel, rfl, by decide +kernel, by decide +kernel⟩
theorem bk__law_lists_right_0 : BlkOk ["_law_purse_here", "_law_asks_here", "_law_again", "_law_count", "_law_pair", "_law_row_here", "_law_wording"] (defScope (Hd.tp 45)) { kind := .function, names := [(".0", .local), ("_law_pair", .local), ("str", .globalImplicit)], isGenerator := false, isCoroutine := false, more := [] } [("_law_pair", 4)] := blkOk_by (by decide +kernel)
theorem bk__law_lists_right_1 : BlkOk ["_law_purse_here", "_law_asks_here", "_law_again", "_law_count", "_law_pair", "_law_row_here", "_law_wording"] (defScope (Hd.tp 45)) { kind := .function, names := [(".0", .local), ("_law_count", .local), ("str", .globalImplicit)], isGenerator := false, isCoroutine := false, more := [] } [("_law_count", 3)] := blkOk_by (by decide +kernel)
theorem ok__law_lists_right (f_str : mg "str" = none) {d__law_drawn_row : FuncData} (c__law_drawn_row : FnOk P w K mg base (L2.CX P w) 2 (ga K "_law_drawn_row") d__law_drawn_row ["_law_purse_here", "_law_asks_here"] (SpI K 2 (rList rInt) (fun u : (List Int) => [.is (sh (rList rInt)) u]) (rList (rPair rInt rInt)) m__law_drawn_row)) (g__law_drawn_row : mg "_law_drawn_row" = some (.ref (ga K "_law_drawn_row"))) (k__law_drawn_row : PySem.W.keepIn K (.ref (ga K "_law_drawn_row")) = true) (b__law_drawn_row : Binds K d__law_drawn_row ["_law_purse_here", "_law_asks_here"] []) {d_read_asks : FuncData} (c_read_asks : FnOk P w K mg base (L2.CX P w) 2 (ga K "read_asks") d_read_asks ["text"] (SpP K 1 (fun u : Str => [.is rStr u]) (rList rInt) m_read_asks)) (g_read_asks : mg "read_asks" = some (.ref (ga K "read_asks"))) (k_read_asks : PySem.W.keepIn K (.ref (ga K "read_asks")) = true) (b_read_asks : Binds K d_read_asks ["text"] []) {d_read_row : FuncData} (c_read_row : FnOk P w K mg base (L2.CX P w) 3 (ga K "read_row") d_read_row ["text"] (SpP K 1 (fun u : Str => [.is rStr u]) (sh (rList (rPair rInt rInt))) m_read_row)) (g_read_row : mg "read_row" = some (.ref (ga K "read_row"))) (k_read_row : PySem.W.keepIn K (.ref (ga K "read_row")) = true) (b_read_row : Binds K d_read_row ["text"] []) {d_show_asks : FuncData} (c_show_asks : FnOk P w K mg base (L2.CX P w) 1 (ga K "show_asks") d_show_asks ["asks"] (SpP K 1 (fun u : (List Int) => [.is (sh (rList rInt)) u]) rStr m_show_asks)) (g_show_asks : mg "show_asks" = some (.ref (ga K "show_asks"))) (k_show_asks : PySem.W.keepIn K (.ref (ga K "show_asks")) = true) (b_show_asks : Binds K d_show_asks ["asks"] []) {d_show_row : FuncData} (c_show_row : FnOk P w K mg base (L2.CX P w) 1 (ga K "show_row") d_show_row ["row"] (SpP K 1 (fun u : (List (Int × Int)) => [.is (sh (rList (rPair rInt rInt))) u]) rStr m_show_row)) (g_show_row : mg "show_row" = some (.ref (ga K "show_row"))) (k_show_row : PySem.W.keepIn K (.ref (ga K "show_row")) = true) (b_show_row : Binds K d_show_row ["row"] []) (kb_read_asks_0_text : KBn K d_read_asks ["text"] 0 ["text"] (fun us ws => permL [0] (us ++ ws)) (fun vs zs => permL [0] (vs ++ zs))) (kb_read_row_0_text : KBn K d_read_row ["text"] 0 ["text"] (fun us ws => permL [0] (us ++ ws)) (fun vs zs => permL [0] (vs ++ zs))) (kb_show_asks_0_asks : KBn K d_show_asks ["asks"] 0 ["asks"] (fun us ws => permL [0] (us ++ ws)) (fun vs zs => permL [0] (vs ++ zs))) (kb_show_row_0_row : KBn K d_show_row ["row"] 0 ["row"] (fun us ws => permL [0] (us ++ ws)) (fun vs zs => permL [0] (vs ++ zs))) (FD : FunD K "_law_lists_right" "_law_lists_right" (defArgs (Hd.tp 45)) (defBody (Hd.tp 45)) (defScope (Hd.tp 45)) [] [] (ga K "_law_lists_right") fd) : FnG P w K mg base 4 (ga K "_law_lists_right") fd ["_law_purse_here", "_law_asks_here"] (SpI K 2 (rList rInt) (fun u : (List Int) => [.is (sh (rList rInt)) u]) rBool m__law_lists_right) :=
  fnG_io (k := 3) FD sc__law_lists_right o__law_lists_right (fun _ => rfl) fun u v0 cdv A outer s H E hr hgd F hio hW => ⟨_, (bx_nf (fun s => [.pn v0 (rList rInt) s, .is (sh (rList rInt)) u, .un, .un, .un, .un, .un]) (fun _ => rfl) (bx_asg 5 sc__law_lists_right.nd (ex_freeze (ex_callIo (E := E) 0 (fun q1359 => q1359.2.1) c__law_drawn_row (hr.mono (by decide)) rfl g__law_drawn_row k__law_drawn_row b__law_drawn_row (by exact passes_call (takes_of rfl rfl rfl rfl) fun _ _ _ _ h => h) (clo_list clo_int) (ea_cons (eo_pn (U := Unit) (a := ()) 0 fun _ => rfl) (ea_cons (eo_t (ex_var 1 cp_sh fun _ => rfl)) ea_nil)) (fun _ => rfl) (fun _ => rfl) (fun _ _ => rfl) (fun _ _ => (.cp cp_sh (.tc cp_sh) .nil)) (hWE hW) (wios hio fun _ => (.eq (.un (.eq (.eq (.eq (.eq (.eq .nil)))))))))) (fun v_law_row_here1356 => (bx_nf (fun s => [.pn v0 (rList rInt) s, .is (sh (rList rInt)) u, .un, .un, .un, .is (sh (rList (rPair rInt rInt))) v_law_row_here1356, .un]) (fun _ => rfl) (bx_asg 6 sc__law_lists_right.nd ex_str (fun v_law_wording1361 => (bx_nf (fun s => [.pn v0 (rList rInt) s, .is (sh (rList rInt)) u, .un, .un, .un, .is (sh (rList (rPair rInt rInt))) v_law_row_here1356, .is rStr v_law_wording1361]) (fun _ => rfl) (bx_if (GJ := fun (n1391 : Str) s => [.pn v0 (rList rInt) s, .is (sh (rList rInt)) u, .un, .un, .un, .is (sh (rList (rPair rInt rInt))) v_law_row_here1356, .is rStr n1391]) (et_neD hr.units (eo_t (ex_var 5 cp_sh fun _ => rfl)) (eo_t (ex_lst (r := (rPair rInt rInt)) el_nil)) (fun _ _ => .mk (en_L (en_P enc_int enc_int)) .ts) (fun _ _ => .mk (en_L (en_P enc_int enc_int)) .t)) (bx_nf (fun s => [.pn v0 (rList rInt) s, .is (sh (rList rInt)) u, .un, .un, .un, .is (sh (rList (rPair rInt rInt))) v_law_row_here1356, .is rStr v_law_wording1361]) (fun _ => rfl) (bx_asg 6 sc__law_lists_right.nd (ex_join (xs := fun a1394 => a1394) ex_str (eo_t (ex_lcU (Gt := fun s (x1395 : (Int × Int)) => [.pn v0 (rList rInt) s, .is (sh (rList rInt)) u, .un, .un, .is (rPair rInt rInt) x1395, .is (sh (rList (rPair rInt rInt))) v_law_row_here1356, .is rStr v_law_wording1361]) s rfl sc__law_lists_right.nd (ei_sh (ex_var 5 cp_sh fun _ => rfl) (cp_pair cp_int cp_int)) (fun _ => trivial) bk__law_lists_right_0 (fun _ => (.cons rfl .nil)) (by exact fun _ h => h) (fun _ _ => (.eq (.eq (.eq (.eq (.un (.eq (.eq .nil)))))))) (fun _ _ _ _ _ _ => (eg_name (i := 4) rfl sc__law_lists_right.nd)) (fun _ _ _ _ _ x1395 => ets_nil) (fun _ _ _ _ _ x1395 => (ex_bin op_add_str vo_catS stl_catS (ex_bin op_add_str vo_catS stl_catS (ex_strI (ex_plc (xs := fun a1407 => a1407) (eo_t (ex_var 4 (cp_pair cp_int cp_int) fun _ => rfl)) plc2_0 cp_int fun _ _ => .t) rfl f_str) ex_str) (ex_strI (ex_plc (xs := fun a1412 => a1412) (eo_t (ex_var 4 (cp_pair cp_int cp_int) fun _ => rfl)) plc2_1 cp_int fun _ _ => .t) rfl f_str))) inferInstance inferInstance)) fun _ _ => .t) (fun v_law_wording1392 => (bx_end v_law_wording1392 fun _ => (.eq (.eq (.eq (.eq (.eq (.eq (.eq .nil))))))))) inferInstance (fun _ => rfl))) (bx_end v_law_wording1361 fun _ => (.eq (.eq (.eq (.eq (.eq (.eq (.eq .nil)))))))) (fun n1391 => (bx_nf (fun s => [.pn v0 (rList rInt) s, .is (sh (rList rInt)) u, .un, .un, .un, .is (sh (rList (rPair rInt rInt))) v_law_row_here1356, .is rStr n1391]) (fun _ => rfl) (bx_ifr (GE_ := fun e _ => e.elim) (et_w (ew_or (et_cmp op_ne vo_neS (fun _ _ => stl_ret _) (ex_call (E := E) (fun q1424 => q1424.1) c_show_row (hr.mono (by decide)) rfl g_show_row k_show_row b_show_row (by exact passes_call (takes_of rfl rfl rfl rfl) fun _ _ _ _ h => h) (ea_cons (eo_t (ex_var 5 cp_sh fun _ => rfl)) ea_nil) (fun _ => rfl) (.inl ⟨clo_str, fun _ _ => (.cp cp_sh .t .nil)⟩) (hWE hW) (wios hio fun _ => (.eq (.un (.eq (.eq (.eq (.un (.un .nil))))))))) (ex_var 6 cp_str fun _ => rfl) rfl) (ew_or1 (et_cmp op_ne vo_neS (fun _ _ => stl_ret _) (ex_callK0 (E := E) (is := [0]) (Pe := (fun u => [.is (sh (rList (rPair rInt rInt))) u])) (fun q1434 => q1434.1) c_show_row (hr.mono (by decide)) rfl g_show_row k_show_row kb_show_row_0_row (by exact passes_call (takes_of rfl rfl rfl rfl) fun _ _ _ _ h => h) (ek_cons (eo_t (ex_var 5 cp_sh fun _ => rfl)) ek_nil) (fun _ => rfl) (fun _ => rfl) (fun _ => rfl) (.inl ⟨clo_str, fun _ _ => (.cp cp_sh .t .nil)⟩) (hWE hW) (wios hio fun _ => (.eq (.un (.eq (.eq (.eq (.un (.un .nil))))))))) (ex_var 6 cp_str fun _ => rfl) rfl)))) (bx_nf (fun s => [.pn v0 (rList rInt) s, .is (sh (rList rInt)) u, .un, .un, .un, .is (sh (rList (rPair rInt rInt))) v_law_row_here1356, .is rStr n1391]) (fun _ => rfl) (bx_ret ex_bool (wios hio fun _ => (.eq (.un (.eq (.eq (.eq (.un (.un .nil)))))))))) (bx_nf (fun s => [.pn v0 (rList rInt) s, .is (sh (rList rInt)) u, .un, .un, .un, .is (sh (rList (rPair rInt rInt))) v_law_row_here1356, .is rStr n1391]) (fun _ => rfl) (bx_ifr (GE_ := fun e _ => e.elim) (et_w (ew_or (et_neD hr.units (eo_t (ex_call (E := E) (fun q1440 => q1440.1) c_read_row (hr.mono (by decide)) rfl g_read_row k_read_row b_read_row (by exact passes_call (takes_of rfl rfl rfl rfl) fun _ _ _ _ h => h) (ea_cons (eo_t (ex_var 6 cp_str fun _ => rfl)) ea_nil) (fun _ => rfl) (.inr fun _ _ => (.cp cp_str (.tc cp_str) .nil)) (hWE hW) (wios hio fun _ => (.eq (.un (.eq (.eq (.eq (.un (.un .nil)))))))))) (eo_t (ex_var 5 cp_sh fun _ => rfl)) (fun _ _ => .mk (en_L (en_P enc_int enc_int)) .ts) (fun _ _ => .mk (en_L (en_P enc_int enc_int)) .ts)) (ew_or1 (et_neD hr.units (eo_t (ex_callK0 (E := E) (is := [0]) (Pe := (fun u => [.is rStr u])) (fun q1446 => q1446.1) c_read_row (hr.mono (by decide)) rfl g_read_row k_read_row kb_read_row_0_text (by exact passes_call (takes_of rfl rfl rfl rfl) fun _ _ _ _ h => h) (ek_cons (eo_t (ex_var 6 cp_str fun _ => rfl)) ek_nil) (fun _ => rfl) (fun _ => rfl) (fun _ => rfl) (.inr fun _ _ => (.cp cp_str (.tc cp_str) .nil)) (hWE hW) (wios hio fun _ => (.eq (.un (.eq (.eq (.eq (.un (.un .nil)))))))))) (eo_t (ex_var 5 cp_sh fun _ => rfl)) (fun _ _ => .mk (en_L (en_P enc_int enc_int)) .ts) (fun _ _ => .mk (en_L (en_P enc_int enc_int)) .ts))))) (bx_nf (fun s => [.pn v0 (rList rInt) s, .is (sh (rList rInt)) u, .un, .un, .un, .is (sh (rList (rPair rInt rInt))) v_law_row_here1356, .is rStr n1391]) (fun _ => rfl) (bx_ret ex_bool (wios hio fun _ => (.eq (.un (.eq (.eq (.eq (.un (.un .nil)))))))))) (bx_nf (fun s => [.pn v0 (rList rInt) s, .is (sh (rList rInt)) u, .un, .un, .un, .is (sh (rList (rPair rInt rInt))) v_law_row_here1356, .is rStr n1391]) (fun _ => rfl) (bx_asg 6 sc__law_lists_right.nd (ex_join (xs := fun a1454 => a1454) ex_str (eo_t (ex_lcU (Gt := fun s (x1455 : Int) => [.pn v0 (rList rInt) s, .is (sh (rList rInt)) u, .un, .is rInt x1455, .un, .is (sh (rList (rPair rInt rInt))) v_law_row_here1356, .is rStr n1391]) s rfl sc__law_lists_right.nd (ei_sh (ex_var 1 cp_sh fun _ => rfl) cp_int) (fun _ => trivial) bk__law_lists_right_1 (fun _ => (.cons rfl .nil)) (by exact fun _ h => h) (fun _ _ => (.eq (.eq (.eq (.un (.eq (.eq (.eq .nil)))))))) (fun _ _ _ _ _ _ => (eg_name (i := 3) rfl sc__law_lists_right.nd)) (fun _ _ _ _ _ x1455 => ets_nil) (fun _ _ _ _ _ x1455 => (ex_strI (ex_var 3 cp_int fun _ => rfl) rfl f_str)) inferInstance inferInstance)) fun _ _ => .t) (fun v_law_wording1452 => (bx_nf (fun s => [.pn v0 (rList rInt) s, .is (sh (rList rInt)) u, .un, .un, .un, .is (sh (rList (rPair rInt rInt))) v_law_row_here1356, .is rStr v_law_wording1452]) (fun _ => rfl) (bx_if (GJ := fun (n1463 : Str) s => [.pn v0 (rList rInt) s, .is (sh (rList rInt)) u, .un, .un, .un, .is (sh (rList (rPair rInt rInt))) v_law_row_here1356, .is rStr n1463]) (et_eqD hr.units (eo_t (ex_var 1 cp_sh fun _ => rfl)) (eo_t (ex_lst (r := rInt) el_nil)) (fun _ _ => .mk (en_L enc_int) .ts) (fun _ _ => .mk (en_L enc_int) .t)) (bx_nf (fun s => [.pn v0 (rList rInt) s, .is (sh (rList rInt)) u, .un, .un, .un, .is (sh (rList (rPair rInt rInt))) v_law_row_here1356, .is rStr v_law_wording1452]) (fun _ => rfl) (bx_asg 6 sc__law_lists_right.nd ex_str (fun v_law_wording1464 => (bx_end v_law_wording1464 fun _ => (.eq (.eq (.eq (.eq (.eq (.eq (.eq .nil))))))))) inferInstance (fun _ => rfl))) (bx_end v_law_wording1452 fun _ => (.eq (.eq (.eq (.eq (.eq (.eq (.eq .nil)))))))) (fun n1463 => (bx_nf (fun s => [.pn v0 (rList rInt) s, .is (sh (rList rInt)) u, .un, .un, .un, .is (sh (rList (rPair rInt rInt))) v_law_row_here1356, .is rStr n1463]) (fun _ => rfl) (bx_ifr (GE_ := fun e _ => e.elim) (et_w (ew_or (et_cmp op_ne vo_neS (fun _ _ => stl_ret _) (ex_call (E := E) (fun q1472 => q1472.1) c_show_asks (hr.mono (by decide)) rfl g_show_asks k_show_asks b_show_asks (by exact passes_call (takes_of rfl rfl rfl rfl) fun _ _ _ _ h => h) (ea_cons (eo_t (ex_var 1 cp_sh fun _ => rfl)) ea_nil) (fun _ => rfl) (.inl ⟨clo_str, fun _ _ => (.cp cp_sh .t .nil)⟩) (hWE hW) (wios hio fun _ => (.eq (.un (.eq (.eq (.eq (.un (.un .nil))))))))) (ex_var 6 cp_str fun _ => rfl) rfl) (ew_or1 (et_cmp op_ne vo_neS (fun _ _ => stl_ret _) (ex_callK0 (E := E) (is := [0]) (Pe := (fun u => [.is (sh (rList rInt)) u])) (fun q1482 => q1482.1) c_show_asks (hr.mono (by decide)) rfl g_show_asks k_show_asks kb_show_asks_0_asks (by exact passes_call (takes_of rfl rfl rfl rfl) fun _ _ _ _ h => h) (ek_cons (eo_t (ex_var 1 cp_sh fun _ => rfl)) ek_nil) (fun _ => rfl) (fun _ => rfl) (fun _ => rfl) (.inl ⟨clo_str, fun _ _ => (.cp cp_sh .t .nil)⟩) (hWE hW) (wios hio fun _ => (.eq (.un (.eq (.eq (.eq (.un (.un .nil))))))))) (ex_var 6 cp_str fun _ => rfl) rfl)))) (bx_nf (fun s => [.pn v0 (rList rInt) s, .is (sh (rList rInt)) u, .un, .un, .un, .is (sh (rList (rPair rInt rInt))) v_law_row_here1356, .is rStr n1463]) (fun _ => rfl) (bx_ret ex_bool (wios hio fun _ => (.eq (.un (.eq (.eq (.eq (.un (.un .nil)))))))))) (bx_nf (fun s => [.pn v0 (rList rInt) s, .is (sh (rList rInt)) u, .un, .un, .un, .is (sh (rList (rPair rInt rInt))) v_law_row_here1356, .is rStr n1463]) (fun _ => rfl) (bx_asg 2 sc__law_lists_right.nd (ex_call (E := E) (fun q1489 => q1489.1) c_read_asks (hr.mono (by decide)) rfl g_read_asks k_read_asks b_read_asks (by exact passes_call (takes_of rfl rfl rfl rfl) fun _ _ _ _ h => h) (ea_cons (eo_t (ex_var 6 cp_str fun _ => rfl)) ea_nil) (fun _ => rfl) (.inl ⟨(clo_list clo_int), fun _ _ => (.cp cp_str .t .nil)⟩) (hWE hW) (wios hio fun _ => (.eq (.un (.eq (.eq (.eq (.un (.un .nil))))))))) (fun v_law_again1486 => (bx_nf (fun s => [.pn v0 (rList rInt) s, .is (sh (rList rInt)) u, .is (rList rInt) v_law_again1486, .un, .un, .is (sh (rList (rPair rInt rInt))) v_law_row_here1356, .is rStr n1463]) (fun _ => rfl) (bx_app 2 ex_int (fun _ => rfl) (fun _ => rfl) fun v_law_again1491 => (bx_nf (fun s => [.pn v0 (rList rInt) s, .is (sh (rList rInt)) u, .is (rList rInt) v_law_again1491, .un, .un, .is (sh (rList (rPair rInt rInt))) v_law_row_here1356, .is rStr n1463]) (fun _ => rfl) (bx_ret (ex_and (ex_eqD hr.units (eo_t (ex_call (E := E) (fun q1494 => q1494.1) c_read_asks (hr.mono (by decide)) rfl g_read_asks k_read_asks b_read_asks (by exact passes_call (takes_of rfl rfl rfl rfl) fun _ _ _ _ h => h) (ea_cons (eo_t (ex_var 6 cp_str fun _ => rfl)) ea_nil) (fun _ => rfl) (.inl ⟨(clo_list clo_int), fun _ _ => (.cp cp_str .t .nil)⟩) (hWE hW) (wios hio fun _ => (.eq (.un (.un (.eq (.eq (.un (.un .nil)))))))))) (eo_t (ex_var 1 cp_sh fun _ => rfl)) (fun _ _ => .mk (en_L enc_int) .t) (fun _ _ => .mk (en_L enc_int) .ts)) (ex_one (ex_eqD hr.units (eo_t (ex_callK0 (E := E) (is := [0]) (Pe := (fun u => [.is rStr u])) (fun q1500 => q1500.1) c_read_asks (hr.mono (by decide)) rfl g_read_asks k_read_asks kb_read_asks_0_text (by exact passes_call (takes_of rfl rfl rfl rfl) fun _ _ _ _ h => h) (ek_cons (eo_t (ex_var 6 cp_str fun _ => rfl)) ek_nil) (fun _ => rfl) (fun _ => rfl) (fun _ => rfl) (.inl ⟨(clo_list clo_int), fun _ _ => (.cp cp_str .t .nil)⟩) (hWE hW) (wios hio fun _ => (.eq (.un (.un (.eq (.eq (.un (.un .nil)))))))))) (eo_t (ex_var 1 cp_sh fun _ => rfl)) (fun _ _ => .mk (en_L enc_int) .t) (fun _ _ => .mk (en_L enc_int) .ts)))) (wios hio fun _ => (.eq (.un (.un (.eq (.eq (.un (.un .nil))))))))))))) inferInstance (fun _ => rfl)))))) inferInstance))) inferInstance (fun _ => rfl)))))))) inferInstance))) inferInstance (fun _ => rfl)))) inferInstance (fun _ => rfl)))⟩
theorem sc__law_right : FnScope ["_law_purse_here", "_law_asks_here", "_law_back", "_law_index", "_law_is_great", "_law_lesser", "_law_made_here", "_law_owed", "_law_row_here", "_law_shape", "_law_wording"] ["_law_purse_here"] (defScope (Hd.tp 46)) := ⟨rfl, rfl, rfl, by decide +kernel, rfl, by decide +kernel, by decide +kernel⟩
theorem ok__law_right (f_len : mg "len" = none) (f_list : mg "list" = none) (f_min : mg "min" = none) (f_range : mg "range" = none) (t_cls : TapeCls K) (t_length : Prp K (tapeC K) "length") (t_files : Prp K (tapeC K) "files") (t_ix : Mth K "__getitem__") (h_ix : PySem.W.fnIn K (He.ma K (tapeC K) "__getitem__") = true) (t_len : Mth K "__len__") (t_eq : L2.Meth K (tapeC K) "__eq__" (He.ma K (tapeC K) "__eq__")) (t_without : L2.Meth K (tapeC K) "without" (He.ma K (tapeC K) "without")) (t_nec : NeCls K (tapeC K)) {d_Tape_DeqD : FuncData} (c_Tape_DeqD : FnOk P w K mg base (L2.CX P w) 1 (He.ma K (tapeC K) "__eq__") d_Tape_DeqD ["self", "other"] (SpP K 2 (fun u : ((Int × List (Int × Int)) × (Int × List (Int × Int))) => [.is (sh rTape) u.1, .is (sh rTape) u.2]) rBool m_Tape_DeqD)) (b_Tape_DeqD : Binds K d_Tape_DeqD ["self", "other"] []) {d_Tape_DgetitemD : FuncData} (c_Tape_DgetitemD : FnOk P w K mg base (L2.CX P w) 1 (He.ma K (tapeC K) "__getitem__") d_Tape_DgetitemD ["self", "index"] (SpP K 2 (fun u : ((Int × List (Int × Int)) × Int) => [.is (sh rTape) u.1, .is rInt u.2]) (rPair rInt rInt) m_Tape_DgetitemD)) (b_Tape_DgetitemD : Binds K d_Tape_DgetitemD ["self", "index"] []) {d_Tape_DlenD : FuncData} (c_Tape_DlenD : FnOk P w K mg base (L2.CX P w) 1 (He.ma K (tapeC K) "__len__") d_Tape_DlenD ["self"] (SpP K 1 (fun u : (Int × List (Int × Int)) => [.is (sh rTape) u]) rInt m_Tape_DlenD)) (b_Tape_DlenD : Binds K d_Tape_DlenD ["self"] []) {d_Tape_files : FuncData} (c_Tape_files : FnOk P w K mg base (L2.CX P w) 1 (pgA K (tapeC K) "files") d_Tape_files ["self"] (SpP K 1 (fun u : (Int × List (Int × Int)) => [.is (sh rTape) u]) (rList (rPair rInt rInt)) m_Tape_files)) (b_Tape_files : Binds K d_Tape_files ["self"] []) {d_Tape_length : FuncData} (c_Tape_length : FnOk P w K mg base (L2.CX P w) 1 (pgA K (tapeC K) "length") d_Tape_length ["self"] (SpP K 1 (fun u : (Int × List (Int × Int)) => [.is (sh rTape) u]) rInt m_Tape_length)) (b_Tape_length : Binds K d_Tape_length ["self"] []) {d_Tape_without : FuncData} (c_Tape_without : FnOk P w K mg base (L2.CX P w) 3 (He.ma K (tapeC K) "without") d_Tape_without ["self", "index"] (SpP K 2 (fun u : ((Int × List (Int × Int)) × Int) => [.is (sh rTape) u.1, .is rInt u.2]) (sh rTape) m_Tape_without)) (b_Tape_without : Binds K d_Tape_without ["self", "index"] []) {d__law_coin : FuncData} (c__law_coin : FnOk P w K mg base (L2.CX P w) 1 (ga K "_law_coin") d__law_coin ["_law_purse_here", "_law_many"] (SpI K 2 (rList rInt) (fun u : Int => [.is rInt u]) rInt m__law_coin)) (g__law_coin : mg "_law_coin" = some (.ref (ga K "_law_coin"))) (k__law_coin : PySem.W.keepIn K (.ref (ga K "_law_coin")) = true) (b__law_coin : Binds K d__law_coin ["_law_purse_here", "_law_many"] []) {d__law_drawn_asks : FuncData} (c__law_drawn_asks : FnOk P w K mg base (L2.CX P w) 2 (ga K "_law_drawn_asks") d__law_drawn_asks ["_law_purse_here", "_law_shape", "_law_most"] (SpI K 3 (rList rInt) (fun u : ((Int × (List (Int × Int))) × Int) => [.is (rPair rInt (sh (rList (rPair rInt rInt)))) u.1, .is rInt u.2]) (rList rInt) m__law_drawn_asks)) (g__law_drawn_asks : mg "_law_drawn_asks" = some (.ref (ga K "_law_drawn_asks"))) (k__law_drawn_asks : PySem.W.keepIn K (.ref (ga K "_law_drawn_asks")) = true) (b__law_drawn_asks : Binds K d__law_drawn_asks ["_law_purse_here", "_law_shape", "_law_most"] []) {d__law_drawn_row : FuncData} (c__law_drawn_row : FnOk P w K mg base (L2.CX P w) 2 (ga K "_law_drawn_row") d__law_drawn_row ["_law_purse_here", "_law_asks_here"] (SpI K 2 (rList rInt) (fun u : (List Int) => [.is (sh (rList rInt)) u]) (rList (rPair rInt rInt)) m__law_drawn_row)) (g__law_drawn_row : mg "_law_drawn_row" = some (.ref (ga K "_law_drawn_row"))) (k__law_drawn_row : PySem.W.keepIn K (.ref (ga K "_law_drawn_row")) = true) (b__law_drawn_row : Binds K d__law_drawn_row ["_law_purse_here", "_law_asks_here"] []) {d__law_drawn_tape : FuncData} (c__law_drawn_tape : FnOk P w K mg base (L2.CX P w) 2 (ga K "_law_drawn_tape") d__law_drawn_tape ["_law_purse_here", "_law_most", "_law_top"] (SpI K 3 (rList rInt) (fun u : (Int × Int) => [.is rInt u.1, .is rInt u.2]) (rPair rInt (sh (rList (rPair rInt rInt)))) m__law_drawn_tape)) (g__law_drawn_tape : mg "_law_drawn_tape" = some (.ref (ga K "_law_drawn_tape"))) (k__law_drawn_tape : PySem.W.keepIn K (.ref (ga K "_law_drawn_tape")) = true) (b__law_drawn_tape : Binds K d__law_drawn_tape ["_law_purse_here", "_law_most", "_law_top"] []) {d__law_great_tape : FuncData} (c__law_great_tape : FnOk P w K mg base (L2.CX P w) 2 (ga K "_law_great_tape") d__law_great_tape ["_law_purse_here"] (SpI K 1 (rList rInt) (fun u : Unit => []) (rPair rInt (sh (rList (rPair rInt rInt)))) m__law_great_tape)) (g__law_great_tape : mg "_law_great_tape" = some (.ref (ga K "_law_great_tape"))) (k__law_great_tape : PySem.W.keepIn K (.ref (ga K "_law_great_tape")) = true) (b__law_great_tape : Binds K d__law_great_tape ["_law_purse_here"] []) {d__law_led : FuncData} (c__law_led : FnOk P w K mg base (L2.CX P w) 2 (ga K "_law_led") d__law_led ["_law_shape", "_law_asks_here", "_law_row_here"] (SpP K 3 (fun u : ((Int × (List (Int × Int))) × (List Int) × (List (Int × Int))) => [.is (rPair rInt (sh (rList (rPair rInt rInt)))) u.1, .is (sh (rList rInt)) u.2.1, .is (sh (rList (rPair rInt rInt))) u.2.2]) (rList rInt) m__law_led)) (g__law_led : mg "_law_led" = some (.ref (ga K "_law_led"))) (k__law_led : PySem.W.keepIn K (.ref (ga K "_law_led")) = true) (b__law_led : Binds K d__law_led ["_law_shape", "_law_asks_here", "_law_row_here"] []) {d__law_lists_right : FuncData} (c__law_lists_right : FnG P w K mg base 4 (ga K "_law_lists_right") d__law_lists_right ["_law_purse_here", "_law_asks_here"] (SpI K 2 (rList rInt) (fun u : (List Int) => [.is (sh (rList rInt)) u]) rBool m__law_lists_right)) (g__law_lists_right : mg "_law_lists_right" = some (.ref (ga K "_law_lists_right"))) (k__law_lists_right : PySem.W.keepIn K (.ref (ga K "_law_lists_right")) = true) (b__law_lists_right : Binds K d__law_lists_right ["_law_purse_here", "_law_asks_here"] []) {d__law_made : FuncData} (c__law_made : FnOk P w K mg base (L2.CX P w) 3 (ga K "_law_made") d__law_made ["_law_shape"] (SpP K 1 (fun u : (Int × (List (Int × Int))) => [.is (rPair rInt (sh (rList (rPair rInt rInt)))) u]) (sh rTape) m__law_made)) (g__law_made : mg "_law_made" = some (.ref (ga K "_law_made"))) (k__law_made : PySem.W.keepIn K (.ref (ga K "_law_made")) = true) (b__law_made : Binds K d__law_made ["_law_shape"] []) {d__law_tape_text : FuncData} (c__law_tape_text : FnOk P w K mg base (L2.CX P w) 1 (ga K "_law_tape_text") d__law_tape_text ["_law_shape"] (SpP K 1 (fun u : (Int × (List (Int × Int))) => [.is (rPair rInt (sh (rList (rPair rInt rInt)))) u]) rStr m__law_tape_text)) (g__law_tape_text : mg "_law_tape_text" = some (.ref (ga K "_law_tape_text"))) (k__law_tape_text : PySem.W.keepIn K (.ref (ga K "_law_tape_text")) = true) (b__law_tape_text : Binds K d__law_tape_text ["_law_shape"] []) {d__law_waits : FuncData} (c__law_waits : FnOk P w K mg base (L2.CX P w) 1 (ga K "_law_waits") d__law_waits ["_law_shape", "_law_asks_here", "_law_goals"] (SpP K 3 (fun u : ((Int × (List (Int × Int))) × (List Int) × (List Int)) => [.is (rPair rInt (sh (rList (rPair rInt rInt)))) u.1, .is (sh (rList rInt)) u.2.1, .is (sh (rList rInt)) u.2.2]) (rList (rOpt (rPair rInt rInt))) m__law_waits)) (g__law_waits : mg "_law_waits" = some (.ref (ga K "_law_waits"))) (k__law_waits : PySem.W.keepIn K (.ref (ga K "_law_waits")) = true) (b__law_waits : Binds K d__law_waits ["_law_shape", "_law_asks_here", "_law_goals"] []) {d_read_tape : FuncData} (c_read_tape : FnOk P w K mg base (L2.CX P w) 4 (ga K "read_tape") d_read_tape ["text"] (SpP K 1 (fun u : Str => [.is rStr u]) (sh rTape) m_read_tape)) (g_read_tape : mg "read_tape" = some (.ref (ga K "read_tape"))) (k_read_tape : PySem.W.keepIn K (.ref (ga K "read_tape")) = true) (b_read_tape : Binds K d_read_tape ["text"] []) {d_show_tape : FuncData} (c_show_tape : FnOk P w K mg base (L2.CX P w) 3 (ga K "show_tape") d_show_tape ["tape"] (SpP K 1 (fun u : (Int × List (Int × Int)) => [.is (sh rTape) u]) rStr m_show_tape)) (g_show_tape : mg "show_tape" = some (.ref (ga K "show_tape"))) (k_show_tape : PySem.W.keepIn K (.ref (ga K "show_tape")) = true) (b_show_tape : Binds K d_show_tape ["tape"] []) {d_waits : FuncData} (c_waits : FnOk P w K mg base (L2.CX P w) 5 (ga K "waits") d_waits ["tape", "asks", "row"] (SpP K 3 (fun u : ((Int × List (Int × Int)) × (List Int) × (List (Int × Int))) => [.is (sh rTape) u.1, .is (sh (rList rInt)) u.2.1, .is (sh (rList (rPair rInt rInt))) u.2.2]) (rList (rOpt (rPair rInt rInt))) m_waits)) (g_waits : mg "waits" = some (.ref (ga K "waits"))) (k_waits : PySem.W.keepIn K (.ref (ga K "waits")) = true) (b_waits : Binds K d_waits ["tape", "asks", "row"] []) (kb_read_tape_0_text : KBn K d_read_tape ["text"] 0 ["text"] (fun us ws => permL [0] (us ++ ws)) (fun vs zs => permL [0] (vs ++ zs))) (kb_show_tape_0_tape : KBn K d_show_tape ["tape"] 0 ["tape"] (fun us ws => permL [0] (us ++ ws)) (fun vs zs => permL [0] (vs ++ zs))) (FD : FunD K "_law_right" "_law_right" (defArgs (Hd.tp 46)) (defBody (Hd.tp 46)) (defScope (Hd.tp 46)) [] [] (ga K "_law_right") fd) : FnG P w K mg base 6 (ga K "_law_right") fd ["_law_purse_here"] (SpI K 1 (rList rInt) (fun u : Unit => []) rBool m__law_right) :=
  fnG_io (k := 5) FD sc__law_right o__law_right (fun _ => rfl) fun u v0 cdv A outer s H E hr hgd F hio hW => ⟨_, (bx_nf (fun s => [.pn v0 (rList rInt) s, .un, .un, .un, .un, .un, .un, .un, .un, .un, .un]) (fun _ => rfl) (bx_asg 4 sc__law_right.nd (ex_cmp op_eq vo_eqI (fun _ _ => stl_ret _) (ex_callIo (E := E) 0 (fun q1514 => q1514.2.1) c__law_coin (hr.mono (by decide)) rfl g__law_coin k__law_coin b__law_coin (by exact passes_call (takes_of rfl rfl rfl rfl) fun _ _ _ _ h => h) (clo_list clo_int) (ea_cons (eo_pn (U := Unit) (a := ()) 0 fun _ => rfl) (ea_cons (eo_t ex_int) ea_nil)) (fun _ => rfl) (fun _ => rfl) (fun _ _ => rfl) (fun _ _ => (.cp cp_int (.tc cp_int) .nil)) (hWE hW) (wios hio fun _ => (.eq (.eq (.eq (.eq (.eq (.eq (.eq (.eq (.eq (.eq (.eq .nil))))))))))))) ex_int rfl) (fun v_law_is_great1505 => (bx_nf (fun s => [.pn v0 (rList rInt) s, .un, .un, .un, .is rBool v_law_is_great1505, .un, .un, .un, .un, .un, .un]) (fun _ => rfl) (bx_asg 9 sc__law_right.nd (ex_if (et_val (ex_var 4 cp_bool fun _ => rfl)) (ex_callIo (E := E) 0 (fun q1518 => ()) c__law_great_tape (hr.mono (by decide)) rfl g__law_great_tape k__law_great_tape b__law_great_tape (by exact passes_call (takes_of rfl rfl rfl rfl) fun _ _ _ _ h => h) (clo_list clo_int) (ea_cons (eo_pn (U := Unit) (a := ()) 0 fun _ => rfl) ea_nil) (fun _ => rfl) (fun _ => rfl) (fun _ _ => rfl) (fun _ _ => .nil) (hWE hW) (wios hio fun _ => (.eq (.eq (.eq (.eq (.un (.eq (.eq (.eq (.eq (.eq (.eq .nil))))))))))))) (ex_callIo (E := E) 0 (fun q1524 => (q1524.2.1, q1524.2.2.1)) c__law_drawn_tape (hr.mono (by decide)) rfl g__law_drawn_tape k__law_drawn_tape b__law_drawn_tape (by exact passes_call (takes_of rfl rfl rfl rfl) fun _ _ _ _ h => h) (clo_list clo_int) (ea_cons (eo_pn (U := Unit) (a := ()) 0 fun _ => rfl) (ea_cons (eo_t ex_int) (ea_cons (eo_t ex_int) ea_nil))) (fun _ => rfl) (fun _ => rfl) (fun _ _ => rfl) (fun _ _ => (.cp cp_int (.tc cp_int) (.cp cp_int (.tc cp_int) .nil))) (hWE hW) (wios hio fun _ => (.eq (.eq (.eq (.eq (.un (.eq (.eq (.eq (.eq (.eq (.eq .nil)))))))))))))) (fun v_law_shape1516 => (bx_nf (fun s => [.pn v0 (rList rInt) s, .un, .un, .un, .is rBool v_law_is_great1505, .un, .un, .un, .un, .is (rPair rInt (sh (rList (rPair rInt rInt)))) v_law_shape1516, .un]) (fun _ => rfl) (bx_par 6 10 sc__law_right.nd rfl (by decide) (ex_call (E := E) (fun q1529 => q1529.1) c__law_made (hr.mono (by decide)) rfl g__law_made k__law_made b__law_made (by exact passes_call (takes_of rfl rfl rfl rfl) fun _ _ _ _ h => h) (ea_cons (eo_t (ex_var 9 (cp_pair cp_int cp_sh) fun _ => rfl)) ea_nil) (fun _ => rfl) (.inr fun _ _ => (.cp (cp_pair cp_int cp_sh) (.tc (cp_pair cp_int cp_sh)) .nil)) (hWE hW) (wios hio fun _ => (.eq (.eq (.eq (.eq (.un (.eq (.eq (.eq (.eq (.un (.eq .nil))))))))))))) (ex_call (E := E) (fun q1532 => q1532.1) c__law_tape_text (hr.mono (by decide)) rfl g__law_tape_text k__law_tape_text b__law_tape_text (by exact passes_call (takes_of rfl rfl rfl rfl) fun _ _ _ _ h => h) (ea_cons (eo_t (ex_var 9 (cp_pair cp_int cp_sh) fun _ => rfl)) ea_nil) (fun _ => rfl) (.inl ⟨clo_str, fun _ _ => (.cp (cp_pair cp_int cp_sh) .t .nil)⟩) (hWE hW) (wios hio fun _ => (.eq (.eq (.eq (.eq (.un (.eq (.eq (.eq (.eq (.un (.eq .nil))))))))))))) (fun v_law_made_here1533 v_law_wording1534 => (bx_nf (fun s => [.pn v0 (rList rInt) s, .un, .un, .un, .is rBool v_law_is_great1505, .un, .is (sh rTape) v_law_made_here1533, .un, .un, .is (rPair rInt (sh (rList (rPair rInt rInt)))) v_law_shape1516, .is rStr v_law_wording1534]) (fun _ => rfl) (bx_ifr (GE_ := fun e _ => e.elim) (et_w (ew_or (et_cmp op_ne vo_neS (fun _ _ => stl_ret _) (ex_call (E := E) (fun q1542 => q1542.1) c_show_tape (hr.mono (by decide)) rfl g_show_tape k_show_tape b_show_tape (by exact passes_call (takes_of rfl rfl rfl rfl) fun _ _ _ _ h => h) (ea_cons (eo_t (ex_var 6 cp_sh fun _ => rfl)) ea_nil) (fun _ => rfl) (.inl ⟨clo_str, fun _ _ => (.cp cp_sh .t .nil)⟩) (hWE hW) (wios hio fun _ => (.eq (.eq (.eq (.eq (.un (.eq (.un (.eq (.eq (.un (.un .nil))))))))))))) (ex_var 10 cp_str fun _ => rfl) rfl) (ew_or1 (et_cmp op_ne vo_neS (fun _ _ => stl_ret _) (ex_callK0 (E := E) (is := [0]) (Pe := (fun u => [.is (sh rTape) u])) (fun q1552 => q1552.1) c_show_tape (hr.mono (by decide)) rfl g_show_tape k_show_tape kb_show_tape_0_tape (by exact passes_call (takes_of rfl rfl rfl rfl) fun _ _ _ _ h => h) (ek_cons (eo_t (ex_var 6 cp_sh fun _ => rfl)) ek_nil) (fun _ => rfl) (fun _ => rfl) (fun _ => rfl) (.inl ⟨clo_str, fun _ _ => (.cp cp_sh .t .nil)⟩) (hWE hW) (wios hio fun _ => (.eq (.eq (.eq (.eq (.un (.eq (.un (.eq (.eq (.un (.un .nil))))))))))))) (ex_var 10 cp_str fun _ => rfl) rfl)))) (bx_nf (fun s => [.pn v0 (rList rInt) s, .un, .un, .un, .is rBool v_law_is_great1505, .un, .is (sh rTape) v_law_made_here1533, .un, .un, .is (rPair rInt (sh (rList (rPair rInt rInt)))) v_law_shape1516, .is rStr v_law_wording1534]) (fun _ => rfl) (bx_ret ex_bool (wios hio fun _ => (.eq (.eq (.eq (.eq (.un (.eq (.un (.eq (.eq (.un (.un .nil)))))))))))))) (bx_nf (fun s => [.pn v0 (rList rInt) s, .un, .un, .un, .is rBool v_law_is_great1505, .un, .is (sh rTape) v_law_made_here1533, .un, .un, .is (rPair rInt (sh (rList (rPair rInt rInt)))) v_law_shape1516, .is rStr v_law_wording1534]) (fun _ => rfl) (bx_asg 2 sc__law_right.nd (ex_call (E := E) (fun q1559 => q1559.1) c_read_tape (hr.mono (by decide)) rfl g_read_tape k_read_tape b_read_tape (by exact passes_call (takes_of rfl rfl rfl rfl) fun _ _ _ _ h => h) (ea_cons (eo_t (ex_var 10 cp_str fun _ => rfl)) ea_nil) (fun _ => rfl) (.inr fun _ _ => (.cp cp_str (.tc cp_str) .nil)) (hWE hW) (wios hio fun _ => (.eq (.eq (.eq (.eq (.un (.eq (.un (.eq (.eq (.un (.un .nil))))))))))))) (fun v_law_back1556 => (bx_nf (fun s => [.pn v0 (rList rInt) s, .un, .is (sh rTape) v_law_back1556, .un, .is rBool v_law_is_great1505, .un, .is (sh rTape) v_law_made_here1533, .un, .un, .is (rPair rInt (sh (rList (rPair rInt rInt)))) v_law_shape1516, .is rStr v_law_wording1534]) (fun _ => rfl) (bx_ifr (GE_ := fun e _ => e.elim) (et_w (ew_or (et_not (et_eqTape t_eq c_Tape_DeqD b_Tape_DeqD (hr.mono (by decide)) (eo_t (ex_var 2 cp_sh fun _ => rfl)) (eo_t (ex_var 6 cp_sh fun _ => rfl)) (fun _ _ => .t) (fun _ _ => .t) (wios hio fun _ => (.eq (.eq (.un (.eq (.un (.eq (.un (.eq (.eq (.un (.un .nil)))))))))))))) (ew_or (et_neTape t_nec t_eq c_Tape_DeqD b_Tape_DeqD (hr.mono (by decide)) (eo_t (ex_callK0 (E := E) (is := [0]) (Pe := (fun u => [.is rStr u])) (fun q1572 => q1572.1) c_read_tape (hr.mono (by decide)) rfl g_read_tape k_read_tape kb_read_tape_0_text (by exact passes_call (takes_of rfl rfl rfl rfl) fun _ _ _ _ h => h) (ek_cons (eo_t (ex_var 10 cp_str fun _ => rfl)) ek_nil) (fun _ => rfl) (fun _ => rfl) (fun _ => rfl) (.inr fun _ _ => (.cp cp_str (.tc cp_str) .nil)) (hWE hW) (wios hio fun _ => (.eq (.eq (.un (.eq (.un (.eq (.un (.eq (.eq (.un (.un .nil)))))))))))))) (eo_t (ex_var 6 cp_sh fun _ => rfl)) (fun _ _ => .t) (fun _ _ => .t)) (ew_or1 (et_cmp op_ne vo_neS (fun _ _ => stl_ret _) (ex_call (E := E) (fun q1581 => q1581.1) c_show_tape (hr.mono (by decide)) rfl g_show_tape k_show_tape b_show_tape (by exact passes_call (takes_of rfl rfl rfl rfl) fun _ _ _ _ h => h) (ea_cons (eo_t (ex_var 2 cp_sh fun _ => rfl)) ea_nil) (fun _ => rfl) (.inl ⟨clo_str, fun _ _ => (.cp cp_sh .t .nil)⟩) (hWE hW) (wios hio fun _ => (.eq (.eq (.un (.eq (.un (.eq (.un (.eq (.eq (.un (.un .nil))))))))))))) (ex_var 10 cp_str fun _ => rfl) rfl))))) (bx_nf (fun s => [.pn v0 (rList rInt) s, .un, .is (sh rTape) v_law_back1556, .un, .is rBool v_law_is_great1505, .un, .is (sh rTape) v_law_made_here1533, .un, .un, .is (rPair rInt (sh (rList (rPair rInt rInt)))) v_law_shape1516, .is rStr v_law_wording1534]) (fun _ => rfl) (bx_ret ex_bool (wios hio fun _ => (.eq (.eq (.un (.eq (.un (.eq (.un (.eq (.eq (.un (.un .nil)))))))))))))) (bx_nf (fun s => [.pn v0 (rList rInt) s, .un, .is (sh rTape) v_law_back1556, .un, .is rBool v_law_is_great1505, .un, .is (sh rTape) v_law_made_here1533, .un, .un, .is (rPair rInt (sh (rList (rPair rInt rInt)))) v_law_shape1516, .is rStr v_law_wording1534]) (fun _ => rfl) (bx_ifr (GE_ := fun e _ => e.elim) (et_w (ew_or (et_neD hr.units (eo_t (ex_tup2 (ex_prop t_cls t_length c_Tape_length b_Tape_length (hr.mono (by decide)) (eo_t (ex_var 2 cp_sh fun _ => rfl)) fun _ _ => .t) (ex_freeze (ex_prop t_cls t_files c_Tape_files b_Tape_files (hr.mono (by decide)) (eo_t (ex_var 2 cp_sh fun _ => rfl)) fun _ _ => .t)))) (eo_t (ex_var 9 (cp_pair cp_int cp_sh) fun _ => rfl)) (fun _ _ => .mk (en_P enc_int (en_sh (en_L (en_P enc_int enc_int)))) .t) (fun _ _ => .mk (en_P enc_int (en_sh (en_L (en_P enc_int enc_int)))) .t)) (ew_or1 (et_cmp op_ne vo_neI (fun _ _ => stl_ret _) (ex_tlen t_len c_Tape_DlenD b_Tape_DlenD (hr.mono (by decide)) (eo_t (ex_var 2 cp_sh fun _ => rfl)) (fun _ _ => .t) rfl f_len) (ex_len (eo_t (ex_plc (xs := fun a1602 => a1602) (eo_t (ex_var 9 (cp_pair cp_int cp_sh) fun _ => rfl)) plc2_1 cp_sh fun _ _ => .t)) (fun _ _ => .ts) rfl f_len) rfl)))) (bx_nf (fun s => [.pn v0 (rList rInt) s, .un, .is (sh rTape) v_law_back1556, .un, .is rBool v_law_is_great1505, .un, .is (sh rTape) v_law_made_here1533, .un, .un, .is (rPair rInt (sh (rList (rPair rInt rInt)))) v_law_shape1516, .is rStr v_law_wording1534]) (fun _ => rfl) (bx_ret ex_bool (wios hio fun _ => (.eq (.eq (.un (.eq (.un (.eq (.un (.eq (.eq (.un (.un .nil)))))))))))))) (bx_nf (fun s => [.pn v0 (rList rInt) s, .un, .is (sh rTape) v_law_back1556, .un, .is rBool v_law_is_great1505, .un, .is (sh rTape) v_law_made_here1533, .un, .un, .is (rPair rInt (sh (rList (rPair rInt rInt)))) v_law_shape1516, .is rStr v_law_wording1534]) (fun _ => rfl) (bx_for (Gt := fun (l1607 : Unit) s (x1614 : Int) => [.pn v0 (rList rInt) s, .un, .is (sh rTape) v_law_back1556, .is rInt x1614, .is rBool v_law_is_great1505, .un, .is (sh rTape) v_law_made_here1533, .un, .un, .is (rPair rInt (sh (rList (rPair rInt rInt)))) v_law_shape1516, .is rStr v_law_wording1534]) (passes_of rfl) rfl (fun (l1607 : Unit) s => [.pn v0 (rList rInt) s, .un, .is (sh rTape) v_law_back1556, .un, .is rBool v_law_is_great1505, .un, .is (sh rTape) v_law_made_here1533, .un, .un, .is (rPair rInt (sh (rList (rPair rInt rInt)))) v_law_shape1516, .is rStr v_law_wording1534]) () (ei_rng1 (ex_min2 ex_int (ex_len (eo_t (ex_plc (xs := fun a1608 => a1608) (eo_t (ex_var 9 (cp_pair cp_int cp_sh) fun _ => rfl)) plc2_1 cp_sh fun _ _ => .t)) (fun _ _ => .ts) rfl f_len) rfl f_min) rfl f_range) (fun _ => (.eq (.eq (.eq (.eq (.eq (.eq (.eq (.eq (.eq (.eq (.eq .nil)))))))))))) (fun _ _ => trivial) (fun l1607 _ => (eg_name (i := 3) rfl sc__law_right.nd)) (fun l1607 x1614 => (bx_nf (fun s => [.pn v0 (rList rInt) s, .un, .is (sh rTape) v_law_back1556, .is rInt x1614, .is rBool v_law_is_great1505, .un, .is (sh rTape) v_law_made_here1533, .un, .un, .is (rPair rInt (sh (rList (rPair rInt rInt)))) v_law_shape1516, .is rStr v_law_wording1534]) (fun _ => rfl) (bx_asg 5 sc__law_right.nd (ex_tup2 (ex_plc (xs := fun a1616 => a1616) (eo_t (ex_var 9 (cp_pair cp_int cp_sh) fun _ => rfl)) plc2_0 cp_int fun _ _ => .t) (ex_freeze (ex_cat (eo_t (ex_slice (eo_t (ex_plc (xs := fun a1617 => a1617) (eo_t (ex_var 9 (cp_pair cp_int cp_sh) fun _ => rfl)) plc2_1 cp_sh fun _ _ => .t)) ep_none (ep_some (ex_var 3 cp_int fun _ => rfl)) (cp_pair cp_int cp_int) fun _ _ => .ts)) (eo_t (ex_slice (eo_t (ex_plc (xs := fun a1622 => a1622) (eo_t (ex_var 9 (cp_pair cp_int cp_sh) fun _ => rfl)) plc2_1 cp_sh fun _ _ => .t)) (ep_some (ex_bin op_add (vo_I0 fun i j => i + j) (fun _ _ => stl_ret _) (ex_var 3 cp_int fun _ => rfl) ex_int)) ep_none (cp_pair cp_int cp_int) fun _ _ => .ts)) (cp_pair cp_int cp_int) (fun _ _ => .t) (fun _ _ => .t)))) (fun v_law_lesser1615 => (bx_nf (fun s => [.pn v0 (rList rInt) s, .un, .is (sh rTape) v_law_back1556, .is rInt x1614, .is rBool v_law_is_great1505, .is (rPair rInt (sh (rList (rPair rInt rInt)))) v_law_lesser1615, .is (sh rTape) v_law_made_here1533, .un, .un, .is (rPair rInt (sh (rList (rPair rInt rInt)))) v_law_shape1516, .is rStr v_law_wording1534]) (fun _ => rfl) (bx_ifr (GE_ := fun e _ => e.elim) (et_neD hr.units (eo_t (ex_tix t_ix h_ix c_Tape_DgetitemD b_Tape_DgetitemD (hr.mono (by decide)) (eo_t (ex_var 2 cp_sh fun _ => rfl)) (ex_var 3 cp_int fun _ => rfl) fun _ _ => .t)) (eo_t (ex_ix (eo_t (ex_plc (xs := fun a1637 => a1637) (eo_t (ex_var 9 (cp_pair cp_int cp_sh) fun _ => rfl)) plc2_1 cp_sh fun _ _ => .t)) (ex_var 3 cp_int fun _ => rfl) (cp_pair cp_int cp_int) fun _ _ => .ts)) (fun _ _ => .mk (en_P enc_int enc_int) .t) (fun _ _ => .mk (en_P enc_int enc_int) .t)) (bx_nf (fun s => [.pn v0 (rList rInt) s, .un, .is (sh rTape) v_law_back1556, .is rInt x1614, .is rBool v_law_is_great1505, .is (rPair rInt (sh (rList (rPair rInt rInt)))) v_law_lesser1615, .is (sh rTape) v_law_made_here1533, .un, .un, .is (rPair rInt (sh (rList (rPair rInt rInt)))) v_law_shape1516, .is rStr v_law_wording1534]) (fun _ => rfl) (bx_ret ex_bool (wios hio fun _ => (.eq (.eq (.un (.un (.un (.un (.un (.eq (.eq (.un (.un .nil)))))))))))))) (bx_nf (fun s => [.pn v0 (rList rInt) s, .un, .is (sh rTape) v_law_back1556, .is rInt x1614, .is rBool v_law_is_great1505, .is (rPair rInt (sh (rList (rPair rInt rInt)))) v_law_lesser1615, .is (sh rTape) v_law_made_here1533, .un, .un, .is (rPair rInt (sh (rList (rPair rInt rInt)))) v_law_shape1516, .is rStr v_law_wording1534]) (fun _ => rfl) (bx_ifr (GE_ := fun e _ => e.elim) (et_cmp op_ne vo_neS (fun _ _ => stl_ret _) (ex_call (E := E) (fun q1658 => q1658.1) c_show_tape (hr.mono (by decide)) rfl g_show_tape k_show_tape b_show_tape (by exact passes_call (takes_of rfl rfl rfl rfl) fun _ _ _ _ h => h) (ea_cons (eo_t (ex_methI (E := E) t_cls t_without c_Tape_without b_Tape_without (hr.mono (by decide)) (by exact passes_call (takes_of rfl rfl rfl rfl) fun _ _ _ _ h => h) (eo_t (ex_var 2 cp_sh fun _ => rfl)) (ex_var 3 cp_int fun _ => rfl) (fun _ _ => .t) (fun _ _ => .t) (hWE hW) (wios hio fun _ => (.eq (.eq (.un (.un (.un (.un (.un (.eq (.eq (.un (.un .nil)))))))))))))) ea_nil) (fun _ => rfl) (.inl ⟨clo_str, fun _ _ => (.cp cp_sh .t .nil)⟩) (hWE hW) (wios hio fun _ => (.eq (.eq (.un (.un (.un (.un (.un (.eq (.eq (.un (.un .nil))))))))))))) (ex_call (E := E) (fun q1661 => q1661.1) c__law_tape_text (hr.mono (by decide)) rfl g__law_tape_text k__law_tape_text b__law_tape_text (by exact passes_call (takes_of rfl rfl rfl rfl) fun _ _ _ _ h => h) (ea_cons (eo_t (ex_var 5 (cp_pair cp_int cp_sh) fun _ => rfl)) ea_nil) (fun _ => rfl) (.inl ⟨clo_str, fun _ _ => (.cp (cp_pair cp_int cp_sh) .t .nil)⟩) (hWE hW) (wios hio fun _ => (.eq (.eq (.un (.un (.un (.un (.un (.eq (.eq (.un (.un .nil))))))))))))) rfl) (bx_nf (fun s => [.pn v0 (rList rInt) s, .un, .is (sh rTape) v_law_back1556, .is rInt x1614, .is rBool v_law_is_great1505, .is (rPair rInt (sh (rList (rPair rInt rInt)))) v_law_lesser1615, .is (sh rTape) v_law_made_here1533, .un, .un, .is (rPair rInt (sh (rList (rPair rInt rInt)))) v_law_shape1516, .is rStr v_law_wording1534]) (fun _ => rfl) (bx_ret ex_bool (wios hio fun _ => (.eq (.eq (.un (.un (.un (.un (.un (.eq (.eq (.un (.un .nil)))))))))))))) (bx_end () fun _ => (.eq (.eq (.eq (.un (.eq (.un (.eq (.eq (.eq (.eq (.eq .nil))))))))))))))))) inferInstance (fun _ => rfl)))) (fun l1607 => (bx_nf (fun s => [.pn v0 (rList rInt) s, .un, .is (sh rTape) v_law_back1556, .un, .is rBool v_law_is_great1505, .un, .is (sh rTape) v_law_made_here1533, .un, .un, .is (rPair rInt (sh (rList (rPair rInt rInt)))) v_law_shape1516, .is rStr v_law_wording1534]) (fun _ => rfl) (bx_asg 1 sc__law_right.nd (ex_freeze (ex_callIo (E := E) 0 (fun q1669 => (q1669.2.1, q1669.2.2.1)) c__law_drawn_asks (hr.mono (by decide)) rfl g__law_drawn_asks k__law_drawn_asks b__law_drawn_asks (by exact passes_call (takes_of rfl rfl rfl rfl) fun _ _ _ _ h => h) (clo_list clo_int) (ea_cons (eo_pn (U := Unit) (a := ()) 0 fun _ => rfl) (ea_cons (eo_t (ex_var 9 (cp_pair cp_int cp_sh) fun _ => rfl)) (ea_cons (eo_t ex_int) ea_nil))) (fun _ => rfl) (fun _ => rfl) (fun _ _ => rfl) (fun _ _ => (.cp (cp_pair cp_int cp_sh) (.tc (cp_pair cp_int cp_sh)) (.cp cp_int (.tc cp_int) .nil))) (hWE hW) (wios hio fun _ => (.eq (.eq (.un (.eq (.un (.eq (.un (.eq (.eq (.un (.un .nil)))))))))))))) (fun v_law_asks_here1664 => (bx_nf (fun s => [.pn v0 (rList rInt) s, .is (sh (rList rInt)) v_law_asks_here1664, .is (sh rTape) v_law_back1556, .un, .is rBool v_law_is_great1505, .un, .is (sh rTape) v_law_made_here1533, .un, .un, .is (rPair rInt (sh (rList (rPair rInt rInt)))) v_law_shape1516, .is rStr v_law_wording1534]) (fun _ => rfl) (bx_asg 8 sc__law_right.nd (ex_freeze (ex_callIo (E := E) 0 (fun q1674 => q1674.2.1) c__law_drawn_row (hr.mono (by decide)) rfl g__law_drawn_row k__law_drawn_row b__law_drawn_row (by exact passes_call (takes_of rfl rfl rfl rfl) fun _ _ _ _ h => h) (clo_list clo_int) (ea_cons (eo_pn (U := Unit) (a := ()) 0 fun _ => rfl) (ea_cons (eo_t (ex_var 1 cp_sh fun _ => rfl)) ea_nil)) (fun _ => rfl) (fun _ => rfl) (fun _ _ => rfl) (fun _ _ => (.cp cp_sh (.tc cp_sh) .nil)) (hWE hW) (wios hio fun _ => (.eq (.un (.un (.eq (.un (.eq (.un (.eq (.eq (.un (.un .nil)))))))))))))) (fun v_law_row_here1671 => (bx_nf (fun s => [.pn v0 (rList rInt) s, .is (sh (rList rInt)) v_law_asks_here1664, .is (sh rTape) v_law_back1556, .un, .is rBool v_law_is_great1505, .un, .is (sh rTape) v_law_made_here1533, .un, .is (sh (rList (rPair rInt rInt))) v_law_row_here1671, .is (rPair rInt (sh (rList (rPair rInt rInt)))) v_law_shape1516, .is rStr v_law_wording1534]) (fun _ => rfl) (bx_asg 7 sc__law_right.nd (ex_freeze (ex_call (E := E) (fun q1690 => (q1690.1, q1690.2.1, q1690.2.2.1)) c__law_waits (hr.mono (by decide)) rfl g__law_waits k__law_waits b__law_waits (by exact passes_call (takes_of rfl rfl rfl rfl) fun _ _ _ _ h => h) (ea_cons (eo_t (ex_var 9 (cp_pair cp_int cp_sh) fun _ => rfl)) (ea_cons (eo_t (ex_var 1 cp_sh fun _ => rfl)) (ea_cons (eo_t (ex_call (E := E) (fun q1683 => (q1683.1, q1683.2.1, q1683.2.2.1)) c__law_led (hr.mono (by decide)) rfl g__law_led k__law_led b__law_led (by exact passes_call (takes_of rfl rfl rfl rfl) fun _ _ _ _ h => h) (ea_cons (eo_t (ex_var 9 (cp_pair cp_int cp_sh) fun _ => rfl)) (ea_cons (eo_t (ex_var 1 cp_sh fun _ => rfl)) (ea_cons (eo_t (ex_var 8 cp_sh fun _ => rfl)) ea_nil))) (fun _ => rfl) (.inl ⟨(clo_list clo_int), fun _ _ => (.cp (cp_pair cp_int cp_sh) .t (.cp cp_sh .t (.cp cp_sh .t .nil)))⟩) (hWE hW) (wios hio fun _ => (.eq (.un (.un (.eq (.un (.eq (.un (.eq (.un (.un (.un .nil)))))))))))))) ea_nil))) (fun _ => rfl) (.inl ⟨(clo_list (clo_opt (clo_pair clo_int clo_int))), fun _ _ => (.cp (cp_pair cp_int cp_sh) .t (.cp cp_sh .t (.sh .t .nil)))⟩) (hWE hW) (wios hio fun _ => (.eq (.un (.un (.eq (.un (.eq (.un (.eq (.un (.un (.un .nil)))))))))))))) (fun v_law_owed1676 => (bx_nf (fun s => [.pn v0 (rList rInt) s, .is (sh (rList rInt)) v_law_asks_here1664, .is (sh rTape) v_law_back1556, .un, .is rBool v_law_is_great1505, .un, .is (sh rTape) v_law_made_here1533, .is (sh (rList (rOpt (rPair rInt rInt)))) v_law_owed1676, .is (sh (rList (rPair rInt rInt))) v_law_row_here1671, .is (rPair rInt (sh (rList (rPair rInt rInt)))) v_law_shape1516, .is rStr v_law_wording1534]) (fun _ => rfl) (bx_ifr (GE_ := fun e _ => e.elim) (et_neD hr.units (eo_t (ex_call (E := E) (fun q1699 => (q1699.1, q1699.2.1, q1699.2.2.1)) c_waits (hr.mono (by decide)) rfl g_waits k_waits b_waits (by exact passes_call (takes_of rfl rfl rfl rfl) fun _ _ _ _ h => h) (ea_cons (eo_t (ex_var 2 cp_sh fun _ => rfl)) (ea_cons (eo_t (ex_list (eo_t (ex_var 1 cp_sh fun _ => rfl)) cp_int (fun _ _ => .ts) rfl f_list)) (ea_cons (eo_t (ex_list (eo_t (ex_var 8 cp_sh fun _ => rfl)) (cp_pair cp_int cp_int) (fun _ _ => .ts) rfl f_list)) ea_nil))) (fun _ => rfl) (.inl ⟨(clo_list (clo_opt (clo_pair clo_int clo_int))), fun _ _ => (.cp cp_sh .t (.sh .t (.sh .t .nil)))⟩) (hWE hW) (wios hio fun _ => (.eq (.un (.un (.eq (.un (.eq (.un (.un (.un (.un (.un .nil)))))))))))))) (eo_t (ex_var 7 cp_sh fun _ => rfl)) (fun _ _ => .mk (en_L (en_O (en_P enc_int enc_int))) .t) (fun _ _ => .mk (en_L (en_O (en_P enc_int enc_int))) .ts)) (bx_nf (fun s => [.pn v0 (rList rInt) s, .is (sh (rList rInt)) v_law_asks_here1664, .is (sh rTape) v_law_back1556, .un, .is rBool v_law_is_great1505, .un, .is (sh rTape) v_law_made_here1533, .is (sh (rList (rOpt (rPair rInt rInt)))) v_law_owed1676, .is (sh (rList (rPair rInt rInt))) v_law_row_here1671, .is (rPair rInt (sh (rList (rPair rInt rInt)))) v_law_shape1516, .is rStr v_law_wording1534]) (fun _ => rfl) (bx_ret ex_bool (wios hio fun _ => (.eq (.un (.un (.eq (.un (.eq (.un (.un (.un (.un (.un .nil)))))))))))))) (bx_nf (fun s => [.pn v0 (rList rInt) s, .is (sh (rList rInt)) v_law_asks_here1664, .is (sh rTape) v_law_back1556, .un, .is rBool v_law_is_great1505, .un, .is (sh rTape) v_law_made_here1533, .is (sh (rList (rOpt (rPair rInt rInt)))) v_law_owed1676, .is (sh (rList (rPair rInt rInt))) v_law_row_here1671, .is (rPair rInt (sh (rList (rPair rInt rInt)))) v_law_shape1516, .is rStr v_law_wording1534]) (fun _ => rfl) (bx_ret (ex_callIoG (E := E) hgd 0 (fun q1706 => q1706.2.1) c__law_lists_right (hr.mono (by decide)) rfl g__law_lists_right k__law_lists_right b__law_lists_right (by exact passes_call (takes_of rfl rfl rfl rfl) fun _ _ _ _ h => h) (clo_list clo_int) (ea_cons (eo_pn (U := Unit) (a := ()) 0 fun _ => rfl) (ea_cons (eo_t (ex_var 1 cp_sh fun _ => rfl)) ea_nil)) (fun _ => rfl) (fun _ => rfl) (fun _ _ => rfl) (fun _ _ => (.cp cp_sh (.tc cp_sh) .nil)) (hWE hW) (wios hio fun _ => (.eq (.un (.un (.eq (.un (.eq (.un (.un (.un (.un (.un .nil))))))))))))) (wios hio fun _ => (.eq (.un (.un (.eq (.un (.eq (.un (.un (.un (.un (.un .nil))))))))))))))))) inferInstance (fun _ => rfl)))) inferInstance (fun _ => rfl)))) inferInstance (fun _ => rfl)))) inferInstance inferInstance))))))) inferInstance (fun _ => rfl)))))) inferInstance inferInstance (fun _ => rfl) (fun _ => rfl)))) inferInstance (fun _ => rfl)))) inferInstance (fun _ => rfl)))⟩
theorem sc_law : FnScope ["_law_script", "_law_purse_here", "_law_spot", "_law_turn"] ["_law_script"] (defScope (Hd.tp 47)) := ⟨rfl, rfl, rfl, by decide +kernel, rfl, by decide +kernel, by decide +kernel⟩
theorem ok_law (f_len : mg "len" = none) (f_max : mg "max" = none) (f_min : mg "min" = none) (f_range : mg "range" = none) {d__law_purse : FuncData} (c__law_purse : FnOk P w K mg base (L2.CX P w) 1 (ga K "_law_purse") d__law_purse ["_law_script", "_law_place"] (SpP K 2 (fun u : ((List Int) × Int) => [.is rScr u.1, .is rInt u.2]) (rList rInt) m__law_purse)) (g__law_purse : mg "_law_purse" = some (.ref (ga K "_law_purse"))) (k__law_purse : PySem.W.keepIn K (.ref (ga K "_law_purse")) = true) (b__law_purse : Binds K d__law_purse ["_law_script", "_law_place"] []) {d__law_right : FuncData} (c__law_right : FnG P w K mg base 6 (ga K "_law_right") d__law_right ["_law_purse_here"] (SpI K 1 (rList rInt) (fun u : Unit => []) rBool m__law_right)) (g__law_right : mg "_law_right" = some (.ref (ga K "_law_right"))) (k__law_right : PySem.W.keepIn K (.ref (ga K "_law_right")) = true) (b__law_right : Binds K d__law_right ["_law_purse_here"] []) (FD : FunD K "law" "law" (defArgs (Hd.tp 47)) (defBody (Hd.tp 47)) (defScope (Hd.tp 47)) [] [] (ga K "law") fd) : FnG P w K mg base 7 (ga K "law") fd ["_law_script"] (SpP K 1 (fun u : (List Int) => [.is rScr u]) rBool m_law) :=
  fnG_pure (k := 6) FD sc_law o_law (fun _ => rfl) fun u cdv A outer s H E hr hgd F hio hW => ⟨_, (bx_nf (fun s => [.is rScr u, .un, .un, .un]) (fun _ => rfl) (bx_for (Gt := fun (l1709 : Unit) s (x1717 : Int) => [.is rScr u, .un, .is rInt x1717, .un]) (passes_of rfl) rfl (fun (l1709 : Unit) s => [.is rScr u, .un, .un, .un]) () (ei_rng1 (ex_max2 ex_int (ex_min2 ex_int (ex_lenScr (eo_t (ex_var 0 cp_scr fun _ => rfl)) (fun _ _ => .t) rfl f_len) rfl f_min) rfl f_max) rfl f_range) (fun _ => (.eq (.eq (.eq (.eq .nil))))) (fun _ _ => trivial) (fun l1709 _ => (eg_name (i := 2) rfl sc_law.nd)) (fun l1709 x1717 => (bx_nf (fun s => [.is rScr u, .un, .is rInt x1717, .un]) (fun _ => rfl) (bx_asg 1 sc_law.nd (ex_call (E := E) (fun q1723 => (q1723.1, q1723.2.1)) c__law_purse (hr.mono (by decide)) rfl g__law_purse k__law_purse b__law_purse (by exact passes_call (takes_of rfl rfl rfl rfl) fun _ _ _ _ h => h) (ea_cons (eo_t (ex_var 0 cp_scr fun _ => rfl)) (ea_cons (eo_t (ex_var 2 cp_int fun _ => rfl)) ea_nil)) (fun _ => rfl) (.inl ⟨(clo_list clo_int), fun _ _ => (.cp cp_scr .t (.cp cp_int .t .nil))⟩) (hWE hW) (wio hio fun _ => (.un (.eq (.un (.eq .nil)))))) (fun v_law_purse_here1718 => (bx_nf (fun s => [.is rScr u, .is (rList rInt) v_law_purse_here1718, .is rInt x1717, .un]) (fun _ => rfl) (bx_st 1 (fun _ => rfl) (fun _ _ => Weak.refl _) (fun _ _ => Weak.refl _) (fun w1724 F1724 hio1724 hW1724 => (bx_nf (fun s => [.is rScr u, .pn w1724 (rList rInt) s, .is rInt x1717, .un]) (fun _ => rfl) (bx_for (Gt := fun (l1725 : Unit) s (x1728 : Int) => [.is rScr u, .pn w1724 (rList rInt) s, .is rInt x1717, .is rInt x1728]) (passes_of rfl) rfl (fun (l1725 : Unit) s => [.is rScr u, .pn w1724 (rList rInt) s, .is rInt x1717, .un]) () (ei_rng1 ex_int rfl f_range) (fun _ => (.eq (.eq (.eq (.eq .nil))))) (fun _ _ => trivial) (fun l1725 _ => (eg_name (i := 3) rfl sc_law.nd)) (fun l1725 x1728 => (bx_nf (fun s => [.is rScr u, .pn w1724 (rList rInt) s, .is rInt x1717, .is rInt x1728]) (fun _ => rfl) (bx_ifr (GE_ := fun e _ => e.elim) (et_not (et_val (ex_callIoG (E := E) hgd 1 (fun q1732 => ()) c__law_right (hr.mono (by decide)) rfl g__law_right k__law_right b__law_right (by exact passes_call (takes_of rfl rfl rfl rfl) fun _ _ _ _ h => h) (clo_list clo_int) (ea_cons (eo_pn (U := Unit) (a := ()) 1 fun _ => rfl) ea_nil) (fun _ => rfl) (fun _ => rfl) (fun _ _ => rfl) (fun _ _ => .nil) (hWE (hW1724.trans hW)) (wio (hio1724.trans (by rw [hio])) fun _ => (.un (.un (.un (.un .nil)))))))) (bx_nf (fun s => [.is rScr u, .pn w1724 (rList rInt) s, .is rInt x1717, .is rInt x1728]) (fun _ => rfl) (bx_ret ex_bool (wio (hio1724.trans (by rw [hio])) fun _ => (.un (.un (.un (.un .nil))))))) (bx_end () fun _ => (.eq (.eq (.eq (.un .nil)))))))) (fun l1725 => (bx_end () fun _ => (.eq (.un (.un (.eq .nil)))))) inferInstance inferInstance)))))) inferInstance (fun _ => rfl)))) (fun l1709 => (bx_nf (fun s => [.is rScr u, .un, .un, .un]) (fun _ => rfl) (bx_ret ex_bool (wio hio fun _ => (.un (.eq (.eq (.eq .nil)))))))) inferInstance inferInstance))⟩
end
end Tk

set_option Elab.async false
set_option linter.all false
set_option maxRecDepth 100000
set_option maxHeartbeats 4000000
namespace Td
section
variable {S T U : Type}
theorem bnd_ret (a : T) (f : T → SM S U) : bnd (ret a) f = f a := (rfl)
theorem bnd_assoc {V : Type} (m : SM S T) (f : T → SM S U) (g : U → SM S V) : bnd (bnd m f) g = bnd m fun a => bnd (f a) g := by
  funext s
  unfold bnd
  cases m s <;> rfl
theorem grd_t {c : Prop} [Decidable c] (h : c) : (grd c : SM S Unit) = ret () := by
  funext s
  unfold grd
  rw [if_pos h]; rfl
theorem lft_ret (a : T) : (lft (ret a) : SM S T) = ret a := (rfl)
theorem nxc_ret (a : T) : (nxc (ret a) : SM S T) = ret a := (rfl)
theorem esc_ret {N L R : Type} (b : R) : (esc (ret (.rt b)) : SM S (Fl N L R)) = ret (.rt b) := (rfl)
theorem runB_rt {R : Type} (b : R) : runB (ret (.rt b) : SM S (Fl Empty Empty R)) = ret b := (rfl)
theorem runB_bnd {R : Type} (m : SM S T) (k : T → SM S (Fl Empty Empty R)) : runB (bnd m k) = bnd m fun a => runB (k a) := by unfold runB; rw [bnd_assoc]
theorem bnd_ite {c : Prop} [Decidable c] (a b : SM S T) (f : T → SM S U) : bnd (if c then a else b) f = if c then bnd a f else bnd b f := by split <;> rfl
theorem esc_bnd {N L R : Type} (m : SM S T) (k : T → SM S (Fl Empty L R)) : (esc (bnd m k) : SM S (Fl N L R)) = bnd m fun a => esc (k a) := by unfold esc; rw [bnd_assoc]
theorem thn_nx {N N' L R : Type} (n : N) (f : N → SM S (Fl N' L R)) : thn_ (ret (.nx n)) f = f n := (rfl)
theorem lpM_dn {N L L' R : Type} (l : L) (k : L → SM S (Fl N L' R)) : lpM (ret (.dn l)) k = k l := (rfl)
theorem lpM_rt {N L L' R : Type} (b : R) (k : L → SM S (Fl N L' R)) : lpM (ret (.rt b) : SM S (Lp L R)) k = ret (.rt b) := (rfl)
/-- what holds behind a computation that raises nothing -/
@[irreducible] def Hw (m : SM S T) (s : S) (P : T → S → Prop) : Prop := (m s).wp P fun _ _ => False
theorem hw_ret {a : T} {s : S} {P : T → S → Prop} (h : P a s) : Hw (ret a) s P := by unfold Hw; exact h
theorem hw_bnd {m : SM S T} {k : T → SM S U} {s : S} {P : U → S → Prop} (h : Hw m s fun a s' => Hw (k a) s' P) : Hw (bnd m k) s P := by
  unfold Hw at h ⊢
  refine bnd_wp (wp_mono h (fun a s' z => ?_) fun _ _ z => z)
  exact z
theorem hw_mono {m : SM S T} {s : S} {P P' : T → S → Prop} (h : Hw m s P) (k : ∀ a s, P a s → P' a s) : Hw m s P' := by unfold Hw at h ⊢; exact wp_mono h k fun _ _ z => z
theorem hw_ok {m : SM S T} {s : S} {P : T → S → Prop} (h : Hw m s P) : ∃ a s', m s = .ok a s' ∧ P a s' := by
  unfold Hw at h
  cases e : m s with
  | ok a s' => rw [e] at h; exact ⟨a, s', rfl, h⟩
  | exc e' s' => rw [e] at h; exact h.elim
  | stuck => rw [e] at h; exact h.elim
theorem hw_sub {S' : Type} {m : SM S' T} {s0 : S'} {s : S} {P : T × S' → S → Prop} (h : Hw m s0 fun a s' => P (a, s') s) : Hw (subM m s0) s P := by
  obtain ⟨a, s', e, hp⟩ := hw_ok h
  unfold Hw subM
  rw [e]; exact hp
/-- a for with an invariant -/
theorem hw_for {A L R : Type} {f : L → A → SM S (Fl L L R)} (J : Nat → L → S → Prop) (Rt : R → S → Prop) : ∀ (xs : List A) (i : Nat) (l : L) (s : S), J i l s →
    (∀ j a l s, xs[j]? = some a → J (i + j) l s → Hw (f l a) s fun fl s' => match fl with | .nx l' => J (i + j + 1) l' s' | .ct l' => J (i + j + 1) l' s' | .bk _ => False | .rt b => Rt b s') →
    Hw (forM_ xs f l) s fun e s' => match e with | .dn l' => J (i + xs.length) l' s' | .rt b => Rt b s'
  | [], i, l, s, h, _ => hw_ret h
  | x :: xs, i, l, s, h, k => by
    refine hw_bnd (hw_mono (k 0 x l s rfl h) fun fl s' hf => ?_)
    have next : ∀ l', J (i + 1) l' s' → Hw (forM_ xs f l') s' fun e s' => match e with | .dn l' => J (i + (xs.length + 1)) l' s' | .rt b => Rt b s' := fun l' hl => by
      have z := hw_for J Rt xs (i + 1) l' s' hl fun j a l s e hj => by
        have y := k (j + 1) a l s (by simpa using e) (by rw [show i + (j + 1) = i + 1 + j by omega]; exact hj)
        rw [show i + (j + 1) + 1 = i + 1 + j + 1 by omega] at y
        exact y
      rw [show i + 1 + xs.length = i + (xs.length + 1) by omega] at z
      exact z
    cases fl with
    | nx l' => exact next l' hf
    | ct l' => exact next l' hf
    | bk l' => exact hf.elim
    | rt b => exact hw_ret hf
end
theorem log2_lt {x : Int} {k : Nat} (h0 : 0 ≤ x) (h : x < 2 ^ k) (hk : 0 < k) : x.natAbs.log2 < k := by
  refine PySem.Flt.log2_lt_of hk ?_
  have e : ((x.natAbs : Nat) : Int) = x := Int.natAbs_of_nonneg h0
  have : ((x.natAbs : Nat) : Int) < ((2 ^ k : Nat) : Int) := by rw [e]; push_cast; exact h
  exact_mod_cast this
/-- a sack of draws, at most n drawn -/
def Gd (n : Nat) (s : List Int) : Prop := ∃ a b c : Int, s = [a, b, c] ∧ 0 ≤ a ∧ (0 ≤ b ∧ b < 10 ^ 37) ∧ 0 ≤ c ∧ c ≤ n
end Td
set_option Elab.async false
set_option linter.all false
set_option maxRecDepth 100000
set_option maxHeartbeats 4000000
namespace Td
theorem runP_nx {S : Type} : runP (ret (.nx ()) : SM S (Fl Unit Empty Unit)) = ret () := (rfl)
section
variable {S A B C L R : Type}
/-- a comprehension whose items are plain -/
theorem lcM_ret {f : A → SM S (Option B)} (g : A → Option B) : ∀ (xs : List A) (acc : List B), (∀ x, x ∈ xs → f x = ret (g x)) → acc.length + xs.length ≤ PySem.sizeLine → lcM f acc xs = ret (acc ++ xs.filterMap g)
  | [], acc, _, _ => by unfold lcM; simp
  | x :: xs, acc, h, hz => by
    unfold lcM
    rw [h x (List.mem_cons_self ..), nxc_ret, bnd_ret]
    rw [List.length_cons] at hz
    cases e : g x with
    | none =>
      rw [List.filterMap_cons_none e]
      exact lcM_ret g xs acc (fun y hy => h y (List.mem_cons_of_mem _ hy)) (by omega)
    | some b =>
      simp only
      rw [grd_t (by omega), bnd_ret, lcM_ret g xs (acc ++ [b]) (fun y hy => h y (List.mem_cons_of_mem _ hy)) (by simp; omega), List.filterMap_cons_some e, List.append_assoc]
      rfl
theorem lcIt_ret (k : Bool) (b : B) : lcIt (ret k : SM S Bool) (ret b) = ret (if k then some b else none) := by
  unfold lcIt
  rw [bnd_ret]
  cases k <;> rfl
theorem lcIt_t (b : B) : lcIt (ret true : SM S Bool) (ret b) = ret (some b) := (rfl)
/-- a for that goes on at each item -/
theorem forM_nx {f : L → A → SM S (Fl L L R)} (h : L → A → L) : ∀ (xs : List A) (l : L), (∀ ys x zs, xs = ys ++ x :: zs → f (ys.foldl h l) x = ret (.nx (h (ys.foldl h l) x))) → forM_ xs f l = ret (.dn (xs.foldl h l))
  | [], l, _ => rfl
  | x :: xs, l, k => by
    unfold forM_
    have z := k [] x xs rfl
    rw [List.foldl_nil] at z
    rw [z, bnd_ret]
    exact forM_nx h xs (h l x) fun ys y zs e => k (x :: ys) y zs (by rw [e]; rfl)
end
end Td
set_option Elab.async false
set_option linter.all false
set_option maxRecDepth 100000
set_option maxHeartbeats 4000000
namespace Td
section
variable {S T U N N' L L' R : Type}
theorem hw_step {m : SM S T} {k : T → SM S U} {s s' : S} {a : T} {P : U → S → Prop} (e : m s = .ok a s') (h : Hw (k a) s' P) : Hw (bnd m k) s P := by
  unfold Hw at h ⊢
  unfold bnd
  rw [e]
  exact h
/-- a first part, then the rest -/
theorem hw_seq {m : SM S T} {k : T → SM S U} {s : S} {Q : T → S → Prop} {P : U → S → Prop} (h : Hw m s Q) (hk : ∀ a s', Q a s' → Hw (k a) s' P) : Hw (bnd m k) s P := by
  obtain ⟨a, s', e, q⟩ := hw_ok h
  exact hw_step e (hk a s' q)
theorem hw_runB {m : SM S (Fl Empty Empty R)} {s : S} {P : R → S → Prop} (h : Hw m s fun fl s' => match fl with | .rt b => P b s' | _ => False) : Hw (runB m) s P := by
  obtain ⟨a, s', e, q⟩ := hw_ok h
  unfold runB
  refine hw_step e ?_
  cases a with
  | nx n => exact n.elim
  | bk n => exact n.elim
  | ct n => exact n.elim
  | rt b => exact hw_ret q
theorem hw_lp {m : SM S (Lp L R)} {k : L → SM S (Fl N L' R)} {s : S} {P : Fl N L' R → S → Prop} (h : Hw m s fun e s' => match e with | .dn l => Hw (k l) s' P | .rt b => P (.rt b) s') : Hw (lpM m k) s P := by
  obtain ⟨a, s', e, q⟩ := hw_ok h
  unfold lpM
  refine hw_step e ?_
  cases a with
  | dn l => exact q
  | rt b => exact hw_ret q
theorem hw_thn {m : SM S (Fl N L R)} {k : N → SM S (Fl N' L R)} {s : S} {P : Fl N' L R → S → Prop} (h : Hw m s fun fl s' => match fl with | .nx n => Hw (k n) s' P | .rt b => P (.rt b) s' | .bk l => P (.bk l) s' | .ct l => P (.ct l) s') : Hw (thn_ m k) s P := by
  obtain ⟨a, s', e, q⟩ := hw_ok h
  unfold thn_
  refine hw_step e ?_
  cases a with
  | nx n => exact q
  | rt b => exact hw_ret q
  | bk b => exact hw_ret q
  | ct b => exact hw_ret q
theorem hw_ite {c : Prop} [Decidable c] {a b : SM S T} {s : S} {P : T → S → Prop} (h1 : c → Hw a s P) (h2 : ¬ c → Hw b s P) : Hw (if c then a else b) s P := by
  by_cases h : c
  · rw [if_pos h]; exact h1 h
  · rw [if_neg h]; exact h2 h
/-- a for whose turns all go on -/
theorem hw_forN {A : Type} {f : L → A → SM S (Fl L L R)} (J : Nat → L → S → Prop) (xs : List A) {l : L} {s : S} (h : J 0 l s) (k : ∀ j a l s, xs[j]? = some a → J j l s → Hw (f l a) s fun fl s' => match fl with | .nx l' => J (j + 1) l' s' | .ct l' => J (j + 1) l' s' | _ => False) :
    Hw (forM_ xs f l) s fun e s' => match e with | .dn l' => J xs.length l' s' | .rt b => False := by
  have z := hw_for (f := f) J (fun _ _ => False) xs 0 l s h fun j a l s e hj => by
    rw [Nat.zero_add] at hj ⊢
    exact hw_mono (k j a l s e hj) fun fl s' q => by cases fl <;> exact q
  rw [Nat.zero_add] at z
  exact hw_mono z fun e s' q => by cases e <;> exact q
end
theorem Gd.le {n m : Nat} {s : List Int} (h : Gd n s) (hm : n ≤ m) : Gd m s := by
  obtain ⟨a, b, c, e, h1, h2, h3, h4⟩ := h
  exact ⟨a, b, c, e, h1, h2, h3, by omega⟩
end Td
set_option Elab.async false
set_option linter.all false
namespace Tp
abbrev Tape := Int × List (Int × Int)
def bg (t : Tape) (i : Int) : Int := (t.2.getD i.toNat (0, 0)).1
def en (t : Tape) (i : Int) : Int := (t.2.getD i.toNat (0, 0)).2
def inD (f l x : Int) : Bool := if decide (f ≤ x) = true then decide (x ≤ l) else false
theorem inD_iff {f l x : Int} : inD f l x = true ↔ f ≤ x ∧ x ≤ l := by
  unfold inD
  by_cases h : f ≤ x <;> simp [h]
def fr : List Int → List (Int × Int) → List (List Int)
  | u, [] => [u]
  | u, d :: r => u.filter (inD d.1 d.2) :: fr (u.filter fun x => !inD d.1 d.2 x) r
theorem fr_ne (u : List Int) (row : List (Int × Int)) : fr u row ≠ [] := by
  cases row <;> simp [fr]
theorem fr_len : ∀ (u : List Int) (row : List (Int × Int)), (fr u row).length = row.length + 1
  | _, [] => rfl
  | u, d :: r => by simp [fr, fr_len]
theorem fr_mem : ∀ {u : List Int} {row : List (Int × Int)} {run : List Int}, run ∈ fr u row → ∀ {x}, x ∈ run → x ∈ u
  | u, [], run, h, x, hx => by simp [fr] at h; subst h; exact hx
  | u, d :: r, run, h, x, hx => by
    rw [fr, List.mem_cons] at h
    rcases h with h | h
    · subst h; exact (List.mem_filter.mp hx).1
    · exact (List.mem_filter.mp (fr_mem h hx)).1
theorem fr_foldl (row : List (Int × Int)) : ∀ (runs : List (List Int)) (u : List Int),
    (row.foldl (fun (l : List (List Int) × List Int) d => (l.1 ++ [l.2.filter (inD d.1 d.2)], l.2.filter fun x => !inD d.1 d.2 x)) (runs, u)).1 ++ [(row.foldl (fun (l : List (List Int) × List Int) d => (l.1 ++ [l.2.filter (inD d.1 d.2)], l.2.filter fun x => !inD d.1 d.2 x)) (runs, u)).2] = runs ++ fr u row := by
  induction row with
  | nil => intro runs u; rfl
  | cons d r ih =>
    intro runs u
    rw [List.foldl_cons]
    show (List.foldl _ (runs ++ [u.filter (inD d.1 d.2)], u.filter fun x => !inD d.1 d.2 x) r).1 ++ _ = _
    rw [ih]
    simp [fr]
/-- the leftmost file stays unread to the end -/
theorem fr_last : ∀ {row : List (Int × Int)} {u : List Int} {a : Int}, a ∈ u → (∀ d, d ∈ row → a < d.1) → a ∈ (fr u row).getLast (fr_ne _ _)
  | [], u, a, h, _ => by simpa [fr] using h
  | d :: r, u, a, h, k => by
    have h1 : a ∈ u.filter fun x => !inD d.1 d.2 x := by
      rw [List.mem_filter]
      refine ⟨h, ?_⟩
      have : ¬ inD d.1 d.2 a = true := by
        rw [inD_iff]; have := k d (List.mem_cons_self ..); omega
      simpa using this
    have h2 := fr_last (row := r) h1 fun e he => k e (List.mem_cons_of_mem _ he)
    simp only [fr]
    rw [List.getLast_cons (fr_ne _ _)]
    exact h2
def aI (x : Int) : Int := if x < 0 then -x else x
abbrev Fd := List (Option (Int × Int))
def put (t : Tape) (steps place turns : Int) (run : List Int) (fd : Fd) : Fd := run.foldl (fun fd i => fd.set i.toNat (some (steps + en t i - place, turns))) fd
theorem put_len (t : Tape) (a b c : Int) (run : List Int) : ∀ fd, (put t a b c run fd).length = fd.length := by
  unfold put
  induction run with
  | nil => intro fd; rfl
  | cons x r ih => intro fd; rw [List.foldl_cons, ih, List.length_set]
theorem put_get (t : Tape) (a b c : Int) (run : List Int) (h0 : ∀ x, x ∈ run → 0 ≤ x) : ∀ (fd : Fd) {i : Nat}, i < fd.length → (put t a b c run fd)[i]? = if (i : Int) ∈ run then some (some (a + en t i - b, c)) else fd[i]? := by
  unfold put
  induction run with
  | nil => intro fd i h; simp
  | cons x r ih =>
    intro fd i h
    have hx := h0 x (List.mem_cons_self ..)
    rw [List.foldl_cons, ih (fun y hy => h0 y (List.mem_cons_of_mem _ hy)) _ (by simpa using h)]
    by_cases e : (i : Int) ∈ r
    · rw [if_pos e, if_pos (List.mem_cons_of_mem _ e)]
    · rw [if_neg e]
      by_cases e2 : (i : Int) = x
      · subst e2
        rw [if_pos (List.mem_cons_self ..)]
        simp [h]
      · have : (i : Int) ∉ x :: r := by simp [e, e2]
        rw [if_neg this, List.getElem?_set_ne (by omega)]
def wStep (t : Tape) (runs : List (List Int)) (l : Fd × Int × Int) (x : Int × Int) : Fd × Int × Int :=
  (if x.1 % 2 = 1 then put t l.2.2 l.2.1 x.1 (runs.getD (x.1 / 2).toNat []) l.1 else l.1, x.2, l.2.2 + aI (x.2 - l.2.1))
def enumF : Nat → List Int → List (Int × Int)
  | _, [] => []
  | k, x :: xs => ((k : Int), x) :: enumF (k + 1) xs
theorem enumF_eq : ∀ (k : Nat) (xs : List Int), xs.mapIdx (fun i x => (((k + i : Nat) : Int), x)) = enumF k xs
  | _, [] => rfl
  | k, x :: xs => by
    rw [List.mapIdx_cons, enumF, ← enumF_eq (k + 1) xs]
    congr 2
    funext i y
    congr 2
    omega
abbrev Trs := List ((Int × Int) × List Int)
def wTr (t : Tape) : Trs → Fd → Int → Int → Nat → Fd
  | [], fd, _, _, _ => fd
  | x :: r, fd, place, steps, k => wTr t r (put t (steps + aI (x.1.1 - place)) x.1.1 (2 * k + 1 : Int) x.2 fd) x.1.2 (steps + aI (x.1.1 - place) + aI (x.1.2 - x.1.1)) (k + 1)
theorem wStep_trs (t : Tape) (runs : List (List Int)) : ∀ (trs : Trs) (k : Nat) (fd : Fd) (place steps : Int), (∀ (j : Nat) (x : (Int × Int) × List Int), trs[j]? = some x → runs[k + j]? = some x.2) →
    ((enumF (2 * k) (trs.flatMap fun x => [x.1.1, x.1.2])).foldl (wStep t runs) (fd, place, steps)).1 = wTr t trs fd place steps k
  | [], _, _, _, _, _ => rfl
  | x :: r, k, fd, place, steps, h => by
    have hx := h 0 x rfl
    rw [List.flatMap_cons]
    rw [List.cons_append, List.cons_append, List.nil_append, enumF, enumF, List.foldl_cons, List.foldl_cons, wTr]
    have e1 : wStep t runs (fd, place, steps) (((2 * k : Nat) : Int), x.1.1) = (fd, x.1.1, steps + aI (x.1.1 - place)) := by
      unfold wStep
      rw [if_neg (by show ¬ ((2 * k : Nat) : Int) % 2 = 1; omega)]
    have e2 : ∀ s, wStep t runs (fd, x.1.1, s) (((2 * k + 1 : Nat) : Int), x.1.2) = (put t s x.1.1 (2 * k + 1 : Int) x.2 fd, x.1.2, s + aI (x.1.2 - x.1.1)) := by
      intro s
      unfold wStep
      rw [if_pos (by show ((2 * k + 1 : Nat) : Int) % 2 = 1; omega)]
      have : (((2 * k + 1 : Nat) : Int) / 2).toNat = k := by omega
      simp only [this]
      rw [List.getD_eq_getElem?_getD, show runs[k]? = some x.2 from hx]
      rfl
    rw [e1, e2]
    exact wStep_trs t runs r (k + 1) _ _ _ fun j y hy => by
      have := h (j + 1) y (by simpa using hy)
      rw [show k + 1 + j = k + (j + 1) by omega]; exact this
/-- the wait of a file -/
def lk (t : Tape) : Trs → Int → Int → Nat → Int → Option (Int × Int)
  | [], _, _, _, _ => none
  | x :: r, place, steps, k, i => if i ∈ x.2 then some (steps + aI (x.1.1 - place) + en t i - x.1.1, 2 * k + 1) else lk t r x.1.2 (steps + aI (x.1.1 - place) + aI (x.1.2 - x.1.1)) (k + 1) i
theorem wTr_get (t : Tape) : ∀ (trs : Trs) (fd : Fd) (place steps : Int) (k : Nat), (∀ x, x ∈ trs → ∀ y, y ∈ x.2 → 0 ≤ y) → trs.Pairwise (fun a b => ∀ y, y ∈ a.2 → y ∉ b.2) → ∀ {i : Nat}, i < fd.length →
    (wTr t trs fd place steps k)[i]? = match lk t trs place steps k i with | some w => some (some w) | none => fd[i]?
  | [], _, _, _, _, _, _, _, _ => rfl
  | x :: r, fd, place, steps, k, h0, hp, i, hi => by
    rw [List.pairwise_cons] at hp
    rw [wTr, lk, wTr_get t r _ _ _ _ (fun y hy => h0 y (List.mem_cons_of_mem _ hy)) hp.2 (by rw [put_len]; exact hi), put_get _ _ _ _ _ (h0 x (List.mem_cons_self ..)) _ hi]
    by_cases e : (i : Int) ∈ x.2
    · have none_ : ∀ (r : Trs) (p s : Int) (k : Nat), (∀ y, y ∈ r → (i : Int) ∉ y.2) → lk t r p s k i = none := by
        intro r
        induction r with
        | nil => intros; rfl
        | cons y r ih => intro p s k h; rw [lk, if_neg (h y (List.mem_cons_self ..)), ih _ _ _ fun z hz => h z (List.mem_cons_of_mem _ hz)]
      rw [if_pos e, if_pos e, none_ _ _ _ _ fun y hy => hp.1 y hy _ e]
    · rw [if_neg e, if_neg e]
/-- the runs are apart -/
theorem fr_apart : ∀ {u : List Int} {row : List (Int × Int)}, (fr u row).Pairwise (fun a b => ∀ y, y ∈ a → y ∉ b)
  | _, [] => by simp [fr]
  | u, d :: r => by
    rw [fr, List.pairwise_cons]
    refine ⟨fun b hb y hy hyb => ?_, fr_apart⟩
    have h1 := (List.mem_filter.mp hy).2
    have h2 := (List.mem_filter.mp (fr_mem hb hyb)).2
    rw [h1] at h2
    cases h2
end Tp
set_option Elab.async false
set_option linter.all false
namespace Tp
def upI : Nat → List Int
  | 0 => []
  | n + 1 => upI n ++ [(n : Int)]
theorem mem_upI {n : Nat} {x : Int} : x ∈ upI n ↔ 0 ≤ x ∧ x < n := by
  induction n with
  | zero => simp [upI]; try omega
  | succ n ih => rw [upI, List.mem_append, ih]; simp; omega
theorem upI_len (n : Nat) : (upI n).length = n := by
  induction n with
  | zero => rfl
  | succ n ih => rw [upI, List.length_append, ih]; rfl
theorem upI_range (n : Nat) : (List.range n).map (fun (i : Nat) => (i : Int)) = upI n := by
  induction n with
  | zero => rfl
  | succ n ih => rw [List.range_succ, List.map_append, ih]; rfl
theorem aI_neg {x : Int} (h : x ≤ 0) : aI x = -x := by unfold aI; split <;> omega
theorem aI_pos {x : Int} (h : 0 ≤ x) : aI x = x := by unfold aI; split <;> omega
end Tp
set_option Elab.async false
set_option linter.all false
namespace Tp
/-- detours and runs -/
def trsG (t : Tape) (row : List (Int × Int)) (a z : Int) (runs : List (List Int)) : Trs := (row.map (fun d => (bg t d.1, en t d.2)) ++ [(bg t a, en t z)]).zip runs
end Tp
set_option Elab.async false
set_option linter.all false
namespace Tp
/-- the last file of a list -/
def lastI (xs : List Int) : Int := xs.getLast?.getD 0
def lastR (runs : List (List Int)) : List Int := runs.getLast?.getD []
end Tp
set_option Elab.async false
set_option linter.all false
namespace Tp
def FOk (L : Int) : Int → List (Int × Int) → Prop
  | _, [] => True
  | e, d :: r => e ≤ d.1 ∧ d.1 < d.2 ∧ d.2 ≤ L ∧ FOk L d.2 r
theorem fok_iff {L : Int} : ∀ {fs : List (Int × Int)} {e : Int}, FOk L e fs ↔ (∀ d, d ∈ fs → e ≤ d.1 ∧ d.1 < d.2 ∧ d.2 ≤ L) ∧ fs.Pairwise (fun a b => a.2 ≤ b.1)
  | [], e => by simp [FOk]
  | d :: r, e => by
    rw [FOk, fok_iff, List.pairwise_cons]
    constructor
    · rintro ⟨a, b, c, h, p⟩
      refine ⟨fun x hx => ?_, fun x hx => (h x hx).1, p⟩
      rcases List.mem_cons.mp hx with hx | hx
      · subst hx; exact ⟨a, b, c⟩
      · have := h x hx; omega
    · rintro ⟨h, q, p⟩
      obtain ⟨a, b, c⟩ := h d (List.mem_cons_self ..)
      exact ⟨a, b, c, fun x hx => ⟨q x hx, (h x (List.mem_cons_of_mem _ hx)).2⟩, p⟩
theorem fok_mono {L L' : Int} (h : L ≤ L') {fs : List (Int × Int)} {e : Int} (k : FOk L e fs) : FOk L' e fs := by
  rw [fok_iff] at k ⊢
  exact ⟨fun d hd => by have := k.1 d hd; omega, k.2⟩
theorem fok_snoc {M L : Int} {d : Int × Int} {fs : List (Int × Int)} {e : Int} (h1 : M ≤ d.1) (h2 : d.1 < d.2) (h3 : d.2 ≤ L) (he : e ≤ d.1) (k : FOk M e fs) : FOk L e (fs ++ [d]) := by
  rw [fok_iff] at k ⊢
  refine ⟨fun x hx => ?_, ?_⟩
  · rcases List.mem_append.mp hx with hx | hx
    · have := k.1 x hx; omega
    · rw [List.mem_singleton] at hx; subst hx; exact ⟨he, h2, h3⟩
  · rw [List.pairwise_append]
    refine ⟨k.2, by simp, fun a ha b hb => ?_⟩
    rw [List.mem_singleton] at hb
    subst hb
    have := k.1 a ha
    omega
/-- places of files -/
structure Lies (t : Tape) : Prop where
  ok : FOk t.1 0 t.2
theorem Lies.at_ {t : Tape} (h : Lies t) {i : Int} (h0 : 0 ≤ i) (h1 : i < t.2.length) : 0 ≤ bg t i ∧ bg t i < en t i ∧ en t i ≤ t.1 := by
  have hi : i.toNat < t.2.length := by omega
  unfold bg en
  rw [List.getD_eq_getElem?_getD, List.getElem?_eq_getElem hi]
  exact (fok_iff.mp h.ok).1 _ (List.getElem_mem hi)
theorem Lies.lt {t : Tape} (h : Lies t) {i j : Int} (h0 : 0 ≤ i) (hij : i < j) (h1 : j < t.2.length) : en t i ≤ bg t j := by
  have hi : i.toNat < t.2.length := by omega
  have hj : j.toNat < t.2.length := by omega
  unfold bg en
  rw [List.getD_eq_getElem?_getD, List.getElem?_eq_getElem hi, List.getD_eq_getElem?_getD, List.getElem?_eq_getElem hj]
  exact List.pairwise_iff_getElem.mp (fok_iff.mp h.ok).2 i.toNat j.toNat hi hj (by omega)
theorem Lies.le {t : Tape} (h : Lies t) {i j : Int} (h0 : 0 ≤ i) (hij : i ≤ j) (h1 : j < t.2.length) : bg t i ≤ en t j := by
  by_cases e : i = j
  · subst e
    have := h.at_ h0 h1
    omega
  · have a := h.lt h0 (show i < j by omega) h1
    have b := h.at_ h0 (show i < t.2.length by omega)
    have c := h.at_ (show 0 ≤ j by omega) h1
    omega
end Tp
set_option Elab.async false
set_option linter.all false
namespace Tp
def ledLk (t : Tape) : List (Int × Int) → Int → Int → Nat → Int → Option (Int × Int)
  | [], _, _, _, _ => none
  | d :: r, place, steps, k, i => if inD d.1 d.2 i = true then some (steps + place - bg t d.1 + en t i - bg t d.1, 2 * k + 1) else ledLk t r (en t d.2) (steps + place - bg t d.1 + en t d.2 - bg t d.1) (k + 1) i
theorem lk_none (t : Tape) : ∀ (trs : Trs) (place steps : Int) (k : Nat) (i : Int), (∀ x, x ∈ trs → i ∉ x.2) → lk t trs place steps k i = none
  | [], _, _, _, _, _ => rfl
  | x :: r, p, s, k, i, h => by rw [lk, if_neg (h x (List.mem_cons_self ..)), lk_none t r _ _ _ _ fun z hz => h z (List.mem_cons_of_mem _ hz)]
/-- detours that go over files of the tape -/
structure Dts (t : Tape) (a : Int) (row : List (Int × Int)) : Prop where
  m : ∀ d, d ∈ row → a < d.1 ∧ d.1 ≤ d.2 ∧ d.2 < t.2.length
  d : row.Pairwise (fun x y => y.1 < x.1)
theorem lk_led {t : Tape} (ht : Lies t) {a l : Int} (ha : 0 ≤ a) (ha2 : a < t.2.length) (z : Int) : ∀ {row : List (Int × Int)} {u : List Int} {place steps : Int} {k : Nat} {i : Int}, Dts t a row → (∀ d, d ∈ row → bg t d.1 ≤ place) → bg t a ≤ place → i ∈ u → (a ≤ i ∧ i ≤ l) →
    lk t (trsG t row a z (fr u row)) place steps k i = ledLk t (row ++ [(a, l)]) place steps k i
  | [], u, place, steps, k, i, _, _, hp, hi, hl => by
    show lk t [((bg t a, en t z), u)] place steps k i = _
    rw [lk, if_pos hi, List.nil_append, ledLk, if_pos (inD_iff.mpr hl)]
    dsimp only
    rw [aI_neg (by omega)]
    congr 2
    omega
  | d :: r, u, place, steps, k, i, hd, hp, hpa, hi, hl => by
    obtain ⟨d0, d1, d2⟩ := hd.m d (List.mem_cons_self ..)
    have hdp := List.pairwise_cons.mp hd.d
    have e : trsG t (d :: r) a z (fr u (d :: r)) = ((bg t d.1, en t d.2), u.filter (inD d.1 d.2)) :: trsG t r a z (fr (u.filter fun x => !inD d.1 d.2 x) r) := rfl
    have hb := hp d (List.mem_cons_self ..)
    have hbe := ht.le (show 0 ≤ d.1 by omega) d1 d2
    rw [e, lk, List.cons_append, ledLk]
    dsimp only
    by_cases h : inD d.1 d.2 i = true
    · rw [if_pos (List.mem_filter.mpr ⟨hi, h⟩), if_pos h, aI_neg (by omega)]
      congr 2
      omega
    · have hn : i ∉ u.filter (inD d.1 d.2) := fun q => h (List.mem_filter.mp q).2
      rw [if_neg hn, if_neg h, aI_neg (by omega), aI_pos (by omega)]
      have e2 : steps + -(bg t d.1 - place) + (en t d.2 - bg t d.1) = steps + place - bg t d.1 + en t d.2 - bg t d.1 := by omega
      rw [e2]
      refine lk_led ht ha ha2 z ⟨fun x hx => hd.m x (List.mem_cons_of_mem _ hx), hdp.2⟩ (fun x hx => ?_) (ht.le ha (by omega) d2) (List.mem_filter.mpr ⟨hi, by simpa using h⟩) hl
      have h1 := hd.m x (List.mem_cons_of_mem _ hx)
      have h2 := hdp.1 x hx
      exact ht.le (by omega) (by omega) d2
end Tp
set_option Elab.async false
set_option linter.all false
set_option maxRecDepth 100000
set_option maxHeartbeats 4000000
namespace Td
open PySem
/-- data of one form: may be laid, of a depth, == says when two are one -/
structure Ed {A : Type} (f : A → PyData) (k : Nat) : Prop where
  c : ∀ x, (f x).canLay0 = true
  d : ∀ x, (f x).depth ≤ k
  e : ∀ x y, PyData.eqv (f x) (f y) = true ↔ x = y
  d0 : ∀ x, (f x).hasDict = false
theorem ed_int : Ed PyData.int 0 := ⟨fun _ => rfl, fun _ => (by simp [PyData.depth]), fun x y => by simp [PyData.eqv], fun _ => rfl⟩
section
variable {A B C : Type} {f : A → PyData} {g : B → PyData} {h : C → PyData} {k l m : Nat}
theorem Ed.P (hf : Ed f k) (hg : Ed g l) : Ed (dP f g) (max k l + 1) :=
  ⟨fun x => by show ((f x.1).canLay0 && ((g x.2).canLay0 && true)) = true; rw [hf.c, hg.c]; rfl,
   fun x => by
    show (PyData.tuple [f x.1, g x.2]).depth ≤ _
    have := hf.d x.1; have := hg.d x.2
    simp only [PyData.depth, PyData.depthAll]
    omega,
   fun x y => by
    show (PyData.eqv (f x.1) (f y.1) && (PyData.eqv (g x.2) (g y.2) && true)) = true ↔ x = y
    rw [Bool.and_true, Bool.and_eq_true, hf.e, hg.e]
    exact ⟨fun ⟨a, b⟩ => Prod.ext a b, fun e => by subst e; exact ⟨rfl, rfl⟩⟩,
   fun x => by show ((f x.1).hasDict || ((g x.2).hasDict || false)) = false; rw [hf.d0, hg.d0]; rfl⟩
theorem ed_all (hf : Ed f k) : ∀ xs : List A, PyData.canLayAll0 (xs.map f) = true ∧ PyData.depthAll (xs.map f) ≤ k ∧ PyData.hasDictAll (xs.map f) = false
  | [] => ⟨rfl, by simp [PyData.depthAll], rfl⟩
  | x :: xs => by
    obtain ⟨a, b, c⟩ := ed_all hf xs
    refine ⟨?_, ?_, ?_⟩
    · show ((f x).canLay0 && PyData.canLayAll0 (xs.map f)) = true; rw [hf.c, a]; rfl
    · show PyData.depthAll (f x :: xs.map f) ≤ _
      have := hf.d x
      simp only [PyData.depthAll]
      omega
    · show ((f x).hasDict || PyData.hasDictAll (xs.map f)) = false; rw [hf.d0, c]; rfl
theorem ed_eqAll (hf : Ed f k) : ∀ xs ys : List A, PyData.eqvAll (xs.map f) (ys.map f) = true ↔ xs = ys
  | [], [] => ⟨fun _ => rfl, fun _ => by simp [PyData.eqvAll]⟩
  | [], y :: ys => by simp [PyData.eqvAll]
  | x :: xs, [] => by simp [PyData.eqvAll]
  | x :: xs, y :: ys => by
    rw [List.map_cons, List.map_cons, PyData.eqvAll, Bool.and_eq_true, hf.e, ed_eqAll hf xs ys, List.cons.injEq]
theorem Ed.L (hf : Ed f k) : Ed (dL f) (k + 1) :=
  ⟨fun xs => (ed_all hf xs).1, fun xs => by
    show (PyData.list (xs.map f)).depth ≤ _
    have := (ed_all hf xs).2.1
    rw [PyData.depth]
    omega, fun xs ys => by
    show PyData.eqv (.list (xs.map f)) (.list (ys.map f)) = true ↔ _
    rw [PyData.eqv]; exact ed_eqAll hf xs ys, fun xs => (ed_all hf xs).2.2⟩
theorem Ed.TL (hf : Ed f k) : Ed (dTL f) (k + 1) :=
  ⟨fun xs => (ed_all hf xs).1, fun xs => by
    show (PyData.tuple (xs.map f)).depth ≤ _
    have := (ed_all hf xs).2.1
    rw [PyData.depth]
    omega, fun xs ys => by
    show PyData.eqv (.tuple (xs.map f)) (.tuple (ys.map f)) = true ↔ _
    rw [PyData.eqv]; exact ed_eqAll hf xs ys, fun xs => (ed_all hf xs).2.2⟩
theorem Ed.shaped (hf : Ed f k) (hk : k ≤ 64) (x : A) : SeqAt.shaped (f x) = true := by
  show ((f x).canLay0 && decide ((f x).depth ≤ 64)) = true
  rw [hf.c, decide_eq_true (Nat.le_trans (hf.d x) hk)]
  rfl
theorem Ed.eqD {S : Type} [DecidableEq A] (hf : Ed f k) (hk : k ≤ 64) (x y : A) : (eqD (f x) (f y) : SM S Bool) = ret (decide (x = y)) := by
  unfold Td.eqD
  rw [grd_t ⟨hf.shaped hk x, hf.shaped hk y⟩, bnd_ret]
  congr 1
  by_cases e : x = y
  · rw [decide_eq_true e]; exact (hf.e x y).mpr e
  · rw [decide_eq_false e]
    cases h : PyData.eqv (f x) (f y) with
    | false => rfl
    | true => exact absurd ((hf.e x y).mp h) e
theorem Ed.neD {S : Type} [DecidableEq A] (hf : Ed f k) (hk : k ≤ 64) (x y : A) : (neD (f x) (f y) : SM S Bool) = ret (!decide (x = y)) := by
  unfold Td.neD
  rw [grd_t ⟨hf.shaped hk x, hf.shaped hk y⟩, bnd_ret]
  congr 2
  by_cases e : x = y
  · rw [decide_eq_true e]; exact (hf.e x y).mpr e
  · rw [decide_eq_false e]
    cases h : PyData.eqv (f x) (f y) with
    | false => rfl
    | true => exact absurd ((hf.e x y).mp h) e
end
end Td
set_option Elab.async false
set_option linter.all false
set_option maxRecDepth 100000
set_option maxHeartbeats 4000000
namespace Td
open Tp
section
variable {S T U : Type}
theorem ite_ret {c : Prop} [Decidable c] (a b : T) : (if c then (ret a : SM S T) else ret b) = ret (if c then a else b) := by split <;> rfl
theorem and_ret {b c : Bool} : (if b = true then (ret c : SM S Bool) else ret false) = ret (b && c) := by cases b <;> rfl
theorem or_ret {b c : Bool} : (if b = true then (ret true : SM S Bool) else ret c) = ret (b || c) := by cases b <;> rfl
theorem lcM_filter {A : Type} {f : A → SM S (Option A)} (g : A → Bool) (xs : List A) (h : ∀ x, x ∈ xs → f x = ret (if g x = true then some x else none)) (hz : xs.length ≤ PySem.sizeLine) : lcM f [] xs = ret (xs.filter g) := by
  rw [lcM_ret (fun x => if g x = true then some x else none) xs [] h (by simpa using hz), List.nil_append]
  congr 1
  clear h hz
  induction xs with
  | nil => rfl
  | cons x xs ih =>
    cases e : g x with
    | true => rw [List.filter_cons_of_pos (by rw [e]), List.filterMap_cons_some (b := x) (by simp [e]), ih]
    | false => rw [List.filter_cons_of_neg (by simp [e]), List.filterMap_cons_none (by simp [e]), ih]
theorem lcM_map {A B : Type} {f : A → SM S (Option B)} (g : A → B) (xs : List A) (h : ∀ x, x ∈ xs → f x = ret (some (g x))) (hz : xs.length ≤ PySem.sizeLine) : lcM f [] xs = ret (xs.map g) := by
  rw [lcM_ret (fun x => some (g x)) xs [] h (by simpa using hz), List.nil_append]
  congr 1
  clear h hz
  induction xs with
  | nil => rfl
  | cons x xs ih => rw [List.filterMap_cons_some (f := fun x => some (g x)) (b := g x) rfl, ih]; rfl
theorem lenG_ok {xs : List T} (h : xs.length ≤ PySem.sizeLine) : (lenG xs : SM S Unit) = ret () := by unfold lenG; exact grd_t h
theorem catM_ok {xs ys : List T} (h : xs.length + ys.length ≤ PySem.sizeLine) : (catM xs ys : SM S (List T)) = ret (xs ++ ys) := by unfold catM; rw [lenG_ok (by simpa using h)]; rfl
theorem pushM_ok {xs : List T} {y : T} (h : xs.length < PySem.sizeLine) : (pushM xs y : SM S (List T)) = ret (xs ++ [y]) := by unfold pushM; rw [grd_t h]; rfl
theorem rngG_ok {j : Int} (h : -(2 ^ 62) ≤ j ∧ j < 2 ^ 62) : (rngG j : SM S Unit) = ret () := by unfold rngG; exact grd_t h
theorem setM_ok {xs : List T} {i : Int} {v : T} (h0 : 0 ≤ i) (h1 : i < xs.length) : (setM xs i v : SM S (List T)) = ret (xs.set i.toNat v) := by
  unfold setM L2.ixN
  rw [if_pos h0, if_pos h1]
theorem hz_small {n k : Nat} (h : n ≤ k) (hk : k ≤ 16777216) : n ≤ PySem.sizeLine := by rw [PySem.sizeLine_eq]; omega
theorem upto_up (n : Nat) : upto 0 n = upI n := by
  unfold upto
  rw [← upI_range]
  congr 1
  funext i
  simp
theorem enum_enumF (xs : List Int) : enum xs = enumF 0 xs := by
  unfold enum
  rw [← enumF_eq]
  congr 1
  funext i x
  simp
/-- what an item is got by -/
theorem atI_get {xs : List T} {i : Int} {d : T} (h0 : 0 ≤ i) (h1 : i < xs.length) : L2.atI xs i = some (xs.getD i.toNat d) := by
  unfold L2.atI L2.ixN
  rw [if_pos h0, if_pos h1]
  show xs[i.toNat]? = _
  rw [List.getD_eq_getElem?_getD, List.getElem?_eq_getElem (by omega)]
  rfl
theorem ixM_get (d : T) {xs : List T} {i : Int} (h0 : 0 ≤ i) (h1 : i < xs.length) : (ixM xs i : SM S T) = ret (xs.getD i.toNat d) := by unfold ixM; rw [atI_get (d := d) h0 h1]
theorem ixM_last {xs : List T} {d : T} (h : xs ≠ []) : (ixM xs (-1) : SM S T) = ret (xs.getLast?.getD d) := by
  have hl : 0 < xs.length := List.length_pos_iff.mpr h
  unfold ixM L2.atI L2.ixN
  rw [if_neg (by decide), if_pos (by omega)]
  show (match xs[((-1 : Int) + xs.length).toNat]? with | some a => ret a | none => stk) = _
  rw [show ((-1 : Int) + xs.length).toNat = xs.length - 1 by omega, List.getLast?_eq_getElem?, List.getElem?_eq_getElem (by omega)]
  rfl
end
end Td
set_option Elab.async false
set_option linter.all false
set_option maxRecDepth 100000
set_option maxHeartbeats 4000000
namespace Tp
theorem lastI_cons {x : Int} {xs : List Int} (h : xs ≠ []) : lastI (x :: xs) = lastI xs := by
  unfold lastI
  rw [List.getLast?_cons_of_ne_nil h]
theorem asc_lst : ∀ {xs : List Int}, xs.Pairwise (· < ·) → ∀ {i}, i ∈ xs → i ≤ lastI xs
  | [x], _, i, hi => by
    have e := List.mem_singleton.mp hi
    subst e
    exact Int.le_refl _
  | x :: y :: xs, h, i, hi => by
    rw [lastI_cons (by simp)]
    rw [List.pairwise_cons] at h
    have z := fun {j} => asc_lst h.2 (i := j)
    rcases List.mem_cons.mp hi with e | hi
    · subst e
      have := h.1 y (List.mem_cons_self ..)
      have := z (List.mem_cons_self ..)
      omega
    · exact z hi
/-- detours that stand in what is unread -/
structure RowU (u : List Int) (row : List (Int × Int)) : Prop where
  m : ∀ d, d ∈ row → d.1 ∈ u ∧ d.1 ≤ d.2
  d : row.Pairwise (fun a b => b.1 < a.1)
theorem RowU.tail {u : List Int} {d : Int × Int} {r : List (Int × Int)} (h : RowU u (d :: r)) : RowU (u.filter fun x => !inD d.1 d.2 x) r := by
  have hd := List.pairwise_cons.mp h.d
  refine ⟨fun e he => ⟨List.mem_filter.mpr ⟨(h.m e (List.mem_cons_of_mem _ he)).1, ?_⟩, (h.m e (List.mem_cons_of_mem _ he)).2⟩, hd.2⟩
  have := hd.1 e he
  have e2 : inD d.1 d.2 e.1 = false := by
    cases q : inD d.1 d.2 e.1 with
    | false => rfl
    | true => have := inD_iff.mp q; omega
  rw [e2]; rfl
theorem asc_filter {u : List Int} {p : Int → Bool} (hu : u.Pairwise (· < ·)) : (u.filter p).Pairwise (· < ·) := hu.sublist (List.filter_sublist ..)
end Tp
set_option Elab.async false
set_option linter.all false
set_option maxRecDepth 100000
set_option maxHeartbeats 4000000
namespace Tp
open Td
theorem RowU.m1 {u : List Int} {row : List (Int × Int)} (h : RowU u row) {d : Int × Int} (hd : d ∈ row) : d.1 ∈ u ∧ d.1 ≤ d.2 := h.m d hd
end Tp
set_option Elab.async false
set_option linter.all false
set_option maxRecDepth 100000
set_option maxHeartbeats 4000000
namespace Tp
open Td L2 PySem
theorem cut1 {T : Type} (xs : List T) : cutL xs (some 1) none = xs.drop 1 := by
  cases xs with
  | nil =>
    unfold cutL
    simp
  | cons x xs =>
    unfold cutL
    have e : (1 : Int) = ((1 : Nat) : Int) := rfl
    rw [HT.sIx_none, e, HT.sIx_nat, Nat.min_eq_left (by simp), List.take_of_length_le (by rw [List.length_drop]; omega)]
theorem neP_L {S : Type} (a b : List (Int × Int)) : (neD (dL (dP PyData.int PyData.int) a) (dL (dP PyData.int PyData.int) b) : SM S Bool) = Td.ret (!decide (a = b)) := ((ed_int.P ed_int).L).neD (by decide) _ _
theorem eqI_L {S : Type} (a b : List Int) : (eqD (dL PyData.int a) (dL PyData.int b) : SM S Bool) = Td.ret (decide (a = b)) := (ed_int.L).eqD (by decide) _ _
theorem neI_L {S : Type} (a b : List Int) : (neD (dL PyData.int a) (dL PyData.int b) : SM S Bool) = Td.ret (!decide (a = b)) := (ed_int.L).neD (by decide) _ _
end Tp
set_option Elab.async false
set_option linter.all false
set_option maxRecDepth 100000
set_option maxHeartbeats 4000000
namespace Tp
open Td L2 PySem
section
variable {T U : Type} {f : PyData → Option T} {g : T → PyData} {f2 : PyData → Option U} {g2 : U → PyData}
end
structure Hd where
  spot : Int
  edge : Int
  steps : Int
  turns : Int
  left : Bool
  fd : Fd
def Hd.start (t : Tape) : Hd := ⟨t.1, t.1, 0, 0, true, t.2.map fun _ => none⟩
/-- turned towards a place -/
def Hd.face (h : Hd) (g : Int) : Hd := if g ≠ h.spot ∧ decide (g < h.spot) ≠ h.left then { h with turns := h.turns + 1, left := !h.left, edge := h.spot } else h
def rdAt (t : Tape) (h : Hd) (g : Int) (i : Nat) (o : Option (Int × Int)) : Option (Int × Int) := match o with
  | some w => some w
  | none => if h.edge ≤ bg t i ∧ en t i ≤ g then some (h.steps + en t i - h.spot, h.turns) else none
def Hd.rd (t : Tape) (h : Hd) (g : Int) : Fd := if h.left = true then h.fd else h.fd.mapIdx (rdAt t h g)
def Hd.lead (t : Tape) (h : Hd) (g : Int) : Hd := let h' := h.face g; ⟨g, h'.edge, h.steps + aI (g - h.spot), h'.turns, h'.left, h'.rd t g⟩
theorem Hd.rd_len (t : Tape) (h : Hd) (g : Int) : (h.rd t g).length = h.fd.length := by
  unfold Hd.rd
  split
  · rfl
  · rw [List.length_mapIdx]
theorem Hd.face_fd (h : Hd) (g : Int) : (h.face g).fd = h.fd ∧ (h.face g).spot = h.spot ∧ (h.face g).steps = h.steps := by
  unfold Hd.face
  split <;> exact ⟨rfl, rfl, rfl⟩
theorem Hd.lead_len (t : Tape) (h : Hd) (g : Int) : (h.lead t g).fd.length = h.fd.length := by
  unfold Hd.lead
  dsimp only
  rw [Hd.rd_len, (h.face_fd g).1]
/-- to the begin of a detour and then to its end -/
theorem lead_left {t : Tape} {h : Hd} {b : Int} (hb : b < h.spot) : h.lead t b = ⟨b, if h.left = true then h.edge else h.spot, h.steps + h.spot - b, if h.left = true then h.turns else h.turns + 1, true, h.fd⟩ := by
  unfold Hd.lead Hd.face Hd.rd
  cases e : h.left with
  | true =>
    rw [if_neg (by simp [hb])]
    dsimp only
    rw [e, if_pos rfl, if_pos rfl, if_pos rfl, aI_neg (by omega)]
    congr 1
    omega
  | false =>
    rw [if_pos ⟨by omega, by rw [decide_eq_true hb]; simp⟩]
    dsimp only
    simp only [Bool.not_false, if_true, Bool.false_eq_true, if_false, e]
    rw [aI_neg (by omega)]
    congr 1
    omega
theorem lead_right {t : Tape} {h : Hd} {g : Int} (hg : h.spot < g) (hl : h.left = true) : h.lead t g = ⟨g, h.spot, h.steps + g - h.spot, h.turns + 1, false, h.fd.mapIdx (rdAt t ⟨h.spot, h.spot, h.steps, h.turns + 1, false, h.fd⟩ g)⟩ := by
  unfold Hd.lead Hd.face Hd.rd
  rw [if_pos ⟨by omega, by rw [decide_eq_false (by omega), hl]; simp⟩]
  dsimp only
  rw [hl, aI_pos (by omega)]
  simp only [Bool.not_true, Bool.false_eq_true, if_false]
  congr 1
  omega
theorem in_run {t : Tape} (ht : Lies t) {f l : Int} (hf : 0 ≤ f) (hfl : f ≤ l) (hl : l < t.2.length) {i : Nat} (hi : i < t.2.length) : (bg t f ≤ bg t i ∧ en t i ≤ en t l) ↔ inD f l i = true := by
  rw [inD_iff]
  have hb := ht.at_ (i := (i : Int)) (by omega) (by omega)
  have hbf := ht.at_ (i := f) hf (by omega)
  have hbl := ht.at_ (i := l) (by omega) hl
  constructor
  · rintro ⟨h1, h2⟩
    refine ⟨?_, ?_⟩
    · by_cases c : f ≤ (i : Int)
      · exact c
      · have := ht.lt (i := (i : Int)) (j := f) (by omega) (by omega) (by omega)
        omega
    · by_cases c : (i : Int) ≤ l
      · exact c
      · have := ht.lt (i := l) (j := (i : Int)) (by omega) (by omega) (by omega)
        omega
  · rintro ⟨h1, h2⟩
    refine ⟨?_, ?_⟩
    · by_cases c : f = (i : Int)
      · rw [c]; exact Int.le_refl _
      · have := ht.lt (i := f) (j := (i : Int)) hf (by omega) (by omega)
        omega
    · by_cases c : (i : Int) = l
      · rw [c]; exact Int.le_refl _
      · have := ht.lt (i := (i : Int)) (j := l) (by omega) (by omega) hl
        omega
def orE (o x : Option (Int × Int)) : Option (Int × Int) := match o with
  | some w => some w
  | none => x
theorem rd_get {t : Tape} (ht : Lies t) {f l s p k : Int} (hf : 0 ≤ f) (hfl : f ≤ l) (hl : l < t.2.length) {fd : Fd} {e : Bool} {i : Nat} (hi : i < t.2.length) {o : Option (Int × Int)} (ho : fd[i]? = some o) :
    (fd.mapIdx (rdAt t ⟨bg t f, bg t f, s, k, e, fd⟩ (en t l)))[i]? = some (orE o (if inD f l i = true then some (s + en t i - bg t f, k) else none)) := by
  rw [List.getElem?_mapIdx, ho]
  unfold rdAt
  cases o with
  | some w => rfl
  | none =>
    dsimp only [Option.map_some]
    have := in_run ht hf hfl hl hi
    by_cases c : inD f l i = true
    · rw [if_pos c, if_pos (this.mpr c)]; rfl
    · rw [if_neg c, if_neg (fun z => c (this.mp z))]; rfl
/-- detours led -/
def stopsOf (t : Tape) (row : List (Int × Int)) : List Int := row.flatMap fun d => [bg t d.1, en t d.2]
theorem led_walk {t : Tape} (ht : Lies t) : ∀ {row : List (Int × Int)} {h : Hd} {k : Nat}, (∀ d, d ∈ row → 0 ≤ d.1 ∧ d.1 ≤ d.2 ∧ d.2 < t.2.length) → row.Pairwise (fun x y => y.1 < x.1) → (∀ d, row.head? = some d → bg t d.1 < h.spot) →
    (if h.left = true then h.turns = 2 * k else h.turns + 1 = 2 * k) → h.fd.length = t.2.length → ∀ {i : Nat} {o : Option (Int × Int)}, h.fd[i]? = some o →
    ((stopsOf t row).foldl (Hd.lead t) h).fd[i]? = some (orE o (ledLk t row h.spot h.steps k i))
  | [], h, k, _, _, _, _, _, i, o, ho => by
    show h.fd[i]? = _
    rw [ho]
    cases o <;> rfl
  | d :: r, h, k, hm, hd, hs, hk, hl, i, o, ho => by
    have hd0 := hm d (List.mem_cons_self ..)
    have hb := hs d rfl
    have hdc := List.pairwise_cons.mp hd
    have hlt : bg t d.1 < en t d.2 := by
      have h1 := ht.at_ (i := d.1) hd0.1 (by omega)
      have h2 := ht.at_ (i := d.2) (by omega) hd0.2.2
      by_cases e : d.1 = d.2
      · rw [← e]; omega
      · have := ht.lt (i := d.1) (j := d.2) hd0.1 (by omega) hd0.2.2
        omega
    have hi : i < t.2.length := by
      rw [← hl]
      exact (List.getElem?_eq_some_iff.mp ho).1
    show ((bg t d.1 :: en t d.2 :: stopsOf t r).foldl (Hd.lead t) h).fd[i]? = _
    rw [List.foldl_cons, List.foldl_cons, lead_left hb, lead_right hlt rfl]
    dsimp only
    have hk' : (if h.left = true then h.turns else h.turns + 1) + 1 = 2 * (k : Int) + 1 := by
      split at hk
      · rename_i c; rw [if_pos c]; omega
      · rename_i c; rw [if_neg c]; omega
    rw [hk']
    have hg := rd_get (s := h.steps + h.spot - bg t d.1) (p := 0) (k := 2 * (k : Int) + 1) (e := false) ht hd0.1 hd0.2.1 hd0.2.2 hi ho
    refine (led_walk ht (k := k + 1) (fun x hx => hm x (List.mem_cons_of_mem _ hx)) hdc.2 (fun x hx => ?_) ?_ (by dsimp only; rw [List.length_mapIdx]; exact hl) hg).trans ?_
    · have hx' := List.mem_of_mem_head? hx
      have := hdc.1 x hx'
      have hxm := hm x (List.mem_cons_of_mem _ hx')
      have h1 := ht.lt (i := x.1) (j := d.1) hxm.1 this (by omega)
      have h2 := ht.at_ (i := x.1) hxm.1 (by omega)
      dsimp only
      omega
    · dsimp only
      rw [if_neg (by simp)]
      push_cast
      omega
    · cases o with
      | some w => rfl
      | none =>
        refine congrArg some ?_
        show orE (if inD d.1 d.2 i = true then _ else none) _ = ledLk t (d :: r) _ _ _ _
        rw [ledLk]
        by_cases c : inD d.1 d.2 i = true
        · rw [if_pos c, if_pos c]; rfl
        · rw [if_neg c, if_neg c]
          show ledLk t r _ _ _ _ = ledLk t r _ _ _ _
          congr 1
          try omega
end Tp
set_option Elab.async false
set_option linter.all false
set_option maxRecDepth 100000
set_option maxHeartbeats 4000000
namespace Tp
open Td L2 PySem
def Hd.go (t : Tape) (h : Hd) (g : Int) : Hd := if g = h.spot then h else h.lead t g
end Tp
set_option Elab.async false
set_option linter.all false
set_option maxRecDepth 100000
set_option maxHeartbeats 4000000
namespace Td
open PySem PySem.Spec PyProof.Rows L2 He
theorem tl_nT {i : Int} (h : 0 ≤ i) : TL.tl (istr i) = TL.numL i.toNat := by
  obtain ⟨n, rfl⟩ : ∃ n : Nat, i = (n : Int) := ⟨i.toNat, by omega⟩
  rw [Int.toNat_natCast]
  exact TL.tl_num n
theorem nT_len {i : Int} (h : 0 ≤ i) (h1 : i < 10 ^ 9) : 1 ≤ (istr i).length ∧ (istr i).length ≤ 9 := by
  rw [TL.len_tl, tl_nT h]
  refine ⟨?_, TL.numL_len (by decide) (by omega)⟩
  have := List.length_pos_iff.mpr (TL.numL_ne i.toNat)
  omega
theorem nT_int {i : Int} (h : 0 ≤ i) (h1 : i < 10 ^ 9) : PySem.intText? (istr i) = some i := by
  obtain ⟨n, rfl⟩ : ∃ n : Nat, i = (n : Int) := ⟨i.toNat, by omega⟩
  have := TL.numL_len (n := n) (k := 9) (by decide) (by omega)
  exact TL.int_num (by omega)
theorem nT_free {i : Int} {c : Nat} (h : 0 ≤ i) (hc : c < 48 ∨ 57 < c) : c ∉ TL.tl (istr i) := by
  rw [tl_nT h]
  exact TL.numL_free hc
theorem nT_digit {i : Int} {c : Nat} (h : 0 ≤ i) (hc : c ∈ TL.tl (istr i)) : 48 ≤ c ∧ c ≤ 57 := by
  rw [tl_nT h] at hc
  exact TL.numL_digits _ c hc
theorem numL_head : ∀ n : Nat, ∃ c r, TL.numL n = c :: r ∧ (c = 48 → n = 0) := by
  intro n
  induction n using Nat.strongRecOn with
  | _ n ih =>
    by_cases h : n < 10
    · exact ⟨48 + n, [], TL.numL_lt h, by omega⟩
    · obtain ⟨c, r, e, k⟩ := ih (n / 10) (by omega)
      refine ⟨c, r ++ [48 + n % 10], by rw [TL.numL_step (by omega), e]; rfl, fun hc => ?_⟩
      have := k hc
      omega
theorem nT_head {i : Int} (h : 0 ≤ i) : ∃ c r, TL.tl (istr i) = c :: r ∧ (c = 48 → i = 0) := by
  obtain ⟨c, r, e, k⟩ := numL_head i.toNat
  exact ⟨c, r, by rw [tl_nT h, e], fun hc => by have := k hc; omega⟩
theorem join2 (m a b : Str) : Txt.join m [a, b] = a ++ m ++ b := by rw [TL.join_eq]; rfl
/-- two numbers with a mark between them -/
def pT (m : Str) (d : Int × Int) : Str := istr d.1 ++ m ++ istr d.2
theorem len_app (x y : Str) : (x ++ y).length = x.length + y.length := Str.length_append x y
theorem pT_len {m : Str} {d : Int × Int} (hm : m.length = 1) (h0 : 0 ≤ d.1) (h1 : d.1 < 10 ^ 9) (h2 : 0 ≤ d.2) (h3 : d.2 < 10 ^ 9) : (pT m d).length ≤ 19 := by
  unfold pT
  rw [len_app, len_app]
  have := nT_len h0 h1
  have := nT_len h2 h3
  omega
theorem pT_free {m : Str} {d : Int × Int} {c : Nat} (h0 : 0 ≤ d.1) (h2 : 0 ≤ d.2) (hc : c < 48 ∨ 57 < c) (hm : c ∉ TL.tl m) : c ∉ TL.tl (pT m d) := by
  unfold pT
  rw [TL.tl_append, TL.tl_append]
  intro h
  rcases List.mem_append.mp h with h | h
  · rcases List.mem_append.mp h with h | h
    · exact nT_free h0 hc h
    · exact hm h
  · exact nT_free h2 hc h
theorem split2 {m : Str} {s : Nat} {d : Int × Int} (em : TL.tl m = [s]) (hk : s < 256) (hs : s < 48 ∨ 57 < s) (h0 : 0 ≤ d.1) (h2 : 0 ≤ d.2) : Txt.split (pT m d) m = [istr d.1, istr d.2] := by
  unfold pT
  rw [← join2]
  refine TL.split_join em (by rw [← TL.mk_tl m, em]; simp [hk]) (by simp) fun p hp => ?_
  rcases List.mem_cons.mp hp with e | hp
  · subst e; exact nT_free h0 hs
  · rw [List.mem_singleton.mp hp]; exact nT_free h2 hs
theorem sum_len {k : Nat} : ∀ {ys : List Str}, (∀ y, y ∈ ys → y.length ≤ k) → (ys.map (·.length)).sum ≤ ys.length * k
  | [], _ => by simp
  | y :: ys, h => by
    have := sum_len fun z hz => h z (List.mem_cons_of_mem _ hz)
    have := h y (List.mem_cons_self ..)
    rw [List.map_cons, List.sum_cons, List.length_cons, Nat.succ_mul]
    omega
theorem join_le {z : Str} {k n : Nat} {ys : List Str} (h : ∀ y, y ∈ ys → y.length ≤ k) (hn : ys.length ≤ n) (hz : z.length = 1) : (Txt.join z ys).length ≤ n * k + n := by
  have := StrLaws.join_length_le z ys
  have := sum_len h
  have := Nat.mul_le_mul_right k hn
  rw [TL.join_eq]
  rw [hz] at *
  omega
theorem joinM_ok {S : Type} {z : Str} {k n : Nat} {ys : List Str} (h : ∀ y, y ∈ ys → y.length ≤ k) (hn : ys.length ≤ n) (hz : z.length = 1) (hk : n * k + n ≤ 16777216) : (joinM z ys : SM S Str) = ret (Txt.join z ys) := by
  have := sum_len h
  have := Nat.mul_le_mul_right k hn
  unfold joinM
  rw [hz, grd_t (by omega)]
  rfl
theorem splitM_ok {S : Type} {z b : Str} (hb : b.length = 1) (hz : z.length ≤ 100000) : (splitM z b : SM S (List Str)) = ret (Txt.split z b) := by
  unfold splitM
  rw [hb, grd_t ⟨rfl, by rw [PySem.sizeLine_eq]; omega⟩]
  rfl
theorem join_free {z : Str} {c : Nat} {ys : List Str} (hz : c ∉ TL.tl z) (h : ∀ y, y ∈ ys → c ∉ TL.tl y) : c ∉ TL.tl (Txt.join z ys) := by
  rw [TL.join_eq, TL.tl_join]
  have main : ∀ l : List (List Nat), (∀ y, y ∈ l → c ∉ y) → c ∉ TL.joinL (TL.tl z) l := by
    intro l
    induction l with
    | nil => intro _; simp [TL.joinL]
    | cons p r ih =>
      intro hl
      cases r with
      | nil => exact hl p (List.mem_cons_self ..)
      | cons q r =>
        intro hm
        rcases List.mem_append.mp (show c ∈ p ++ (TL.tl z ++ TL.joinL (TL.tl z) (q :: r)) from hm) with hm | hm
        · exact hl p (List.mem_cons_self ..) hm
        · rcases List.mem_append.mp hm with hm | hm
          · exact hz hm
          · exact ih (fun y hy => hl y (List.mem_cons_of_mem _ hy)) hm
  refine main _ fun y hy => ?_
  obtain ⟨x, hx, rfl⟩ := List.mem_map.mp hy
  exact h x hx
theorem emp_app (x : Str) : Str.empty ++ x = x := TL.ext_tl (by rw [TL.tl_append]; rfl)
theorem cutL_last (z m : Str) {c : Nat} (em : TL.tl m = [c]) : cutS (z ++ m) none (some (-1)) = z := by
  refine TL.ext_tl ?_
  rw [show z ++ m = (⟨(TL.tl z ++ [c]).toArray⟩ : Str) from TL.ext_tl (by rw [TL.tl_append, em])]
  unfold cutS
  rw [TL.tl_mk]
  have hl : (⟨(TL.tl z ++ [c]).toArray⟩ : Str).length = (TL.tl z).length + 1 := by rw [TL.len_tl, TL.tl_mk, List.length_append]; rfl
  rw [hl]
  show ((TL.tl z ++ [c]).drop 0).take (HT.sIx ((TL.tl z).length + 1) ((TL.tl z).length + 1) (some (-1)) - 0) = TL.tl z
  have e : HT.sIx ((TL.tl z).length + 1) ((TL.tl z).length + 1) (some (-1)) = (TL.tl z).length := by
    show (if (-1 : Int) < 0 then ((-1 : Int) + (((TL.tl z).length + 1 : Nat) : Int)).toNat else min (-1 : Int).toNat ((TL.tl z).length + 1)) = _
    rw [if_pos (by decide)]
    omega
  rw [e, Nat.sub_zero, List.drop_zero, List.take_left]
theorem istr_g {S : Type} {i : Int} (h : 0 ≤ i) (h1 : i < 10 ^ 9) : (grd (i.natAbs.log2 < 1920) : SM S Unit) = ret () := grd_t (by
  have := log2_lt h (show i < 2 ^ 40 by omega) (by decide)
  omega)
end Td
set_option Elab.async false
set_option linter.all false
set_option maxRecDepth 100000
set_option maxHeartbeats 4000000
namespace Td
open Tp
theorem enum_loop {S R X : Type} {fs : List (Int × Int)} {fd0 : List X} (hl : fd0.length = fs.length) (F : Nat → X → X) (f : List X → Int × Int × Int → SM S (Fl (List X) (List X) R))
    (hf : ∀ (fd : List X) (i : Nat) (o : X) (b e : Int), fd[i]? = some o → fs[i]? = some (b, e) → f fd ((i : Int), b, e) = ret (.nx (fd.set i (F i o)))) :
    forM_ (enum fs) f fd0 = ret (.dn (fd0.mapIdx F)) := by
  have key : ∀ (gs : List (Int × Int)) (k : Nat) (fd : List X), gs = fs.drop k → fd = fd0.mapIdx (fun i o => if i < k then F i o else o) →
      forM_ (gs.mapIdx fun i x => (((k + i : Nat) : Int), x)) f fd = ret (.dn (fd0.mapIdx F)) := by
    intro gs
    induction gs with
    | nil =>
      intro k fd e1 e2
      have hk : fs.length ≤ k := List.drop_eq_nil_iff.mp e1.symm
      rw [List.mapIdx_nil]
      unfold forM_
      rw [e2]
      congr 2
      refine List.ext_getElem? fun i => ?_
      rw [List.getElem?_mapIdx, List.getElem?_mapIdx]
      cases e : fd0[i]? with
      | none => rfl
      | some o =>
        have := (List.getElem?_eq_some_iff.mp e).1
        rw [Option.map_some, Option.map_some, if_pos (by omega)]
    | cons x gs ih =>
      intro k fd e1 e2
      have hx : fs[k]? = some x := by
        have := congrArg (fun l => l[0]?) e1
        simpa using this.symm
      have hk := (List.getElem?_eq_some_iff.mp hx).1
      have e3 : gs = fs.drop (k + 1) := by
        have := congrArg List.tail e1
        simpa using this
      obtain ⟨o, ho⟩ : ∃ o, fd0[k]? = some o := ⟨_, List.getElem?_eq_getElem (by omega)⟩
      have hfd : fd[k]? = some o := by
        rw [e2, List.getElem?_mapIdx, ho, Option.map_some, if_neg (by omega)]
      rw [List.mapIdx_cons]
      unfold forM_
      obtain ⟨b, e⟩ := x
      rw [Nat.add_zero, hf fd k o b e hfd hx, bnd_ret]
      have em : (gs.mapIdx fun i x => (((k + (i + 1) : Nat) : Int), x)) = gs.mapIdx fun i x => (((k + 1 + i : Nat) : Int), x) := by
        congr 1
        funext i x
        congr 2
        omega
      rw [em]
      refine ih (k + 1) _ e3 ?_
      refine List.ext_getElem? fun i => ?_
      rw [List.getElem?_mapIdx]
      by_cases ci : i = k
      · subst ci
        rw [ho, Option.map_some, if_pos (show i < i + 1 by omega), List.getElem?_set_self (by
          have := (List.getElem?_eq_some_iff.mp hfd).1
          exact this)]
      · rw [List.getElem?_set_ne (fun z => ci z.symm), e2, List.getElem?_mapIdx]
        congr 1
        funext o
        by_cases c : i < k
        · rw [if_pos c, if_pos (by omega)]
        · rw [if_neg c, if_neg (by omega)]
  have z := key fs 0 fd0 (by simp) (by
    refine List.ext_getElem? fun i => ?_
    rw [List.getElem?_mapIdx]
    cases fd0[i]? <;> rfl)
  have e : enum fs = fs.mapIdx fun i x => (((0 + i : Nat) : Int), x) := by
    unfold enum
    congr 1
    funext i x
    rw [Nat.zero_add]
  rw [e]
  exact z
/-- what is told of asked files alone -/
def mkA (asks : List Int) (fd : Fd) : Fd := fd.mapIdx fun i o => if 0 < asks.getD i 0 then o else none
theorem mkA_len (asks : List Int) (fd : Fd) : (mkA asks fd).length = fd.length := by unfold mkA; simp
theorem mkA_get {asks : List Int} {fd : Fd} {i : Nat} : (mkA asks fd)[i]? = (fd[i]?).map fun o => if 0 < asks.getD i 0 then o else none := by unfold mkA; rw [List.getElem?_mapIdx]
/-- each place another one than that before -/
def Nq : Int → List Int → Prop
  | _, [] => True
  | x, y :: r => y ≠ x ∧ Nq y r
theorem nq_of : ∀ {w : List Int} {p : Int}, (∀ (i : Nat) (x y : Int), (p :: w)[i]? = some x → w[i]? = some y → y ≠ x) → Nq p w
  | [], _, _ => trivial
  | y :: r, p, h => ⟨h 0 p y rfl rfl, nq_of fun i x z h1 h2 => h (i + 1) x z h1 h2⟩
theorem lead_spot {t : Tape} {h : Hd} (hl : h.left = true) : h.lead t h.spot = h := by
  unfold Hd.lead Hd.face Hd.rd
  simp only [ne_eq, not_true, false_and, if_false, hl, if_true]
  rw [Int.sub_self, show aI 0 = 0 from rfl, Int.add_zero, ← hl]
theorem Ed.O {A : Type} {f : A → PySem.PyData} {k : Nat} (hf : Ed f k) (h1 : ∀ x, PySem.PyData.eqv (f x) .none = false) (h2 : ∀ x, PySem.PyData.eqv .none (f x) = false) : Ed (dO f) k :=
  ⟨fun x => by cases x with
    | none => rfl
    | some x => exact hf.c x,
   fun x => by cases x with
    | none => show PySem.PyData.none.depth ≤ k; simp [PySem.PyData.depth]
    | some x => exact hf.d x,
   fun x y => by
    cases x with
    | none => cases y with
      | none => exact ⟨fun _ => rfl, fun _ => by show PySem.PyData.eqv .none .none = true; simp [PySem.PyData.eqv]⟩
      | some y => exact ⟨fun e => (by rw [show PySem.PyData.eqv (dO f none) (dO f (some y)) = PySem.PyData.eqv .none (f y) from rfl, h2] at e; cases e), fun e => (by cases e)⟩
    | some x => cases y with
      | none => exact ⟨fun e => (by rw [show PySem.PyData.eqv (dO f (some x)) (dO f none) = PySem.PyData.eqv (f x) .none from rfl, h1] at e; cases e), fun e => (by cases e)⟩
      | some y => exact (hf.e x y).trans ⟨fun e => by rw [e], fun e => Option.some.inj e⟩,
   fun x => by cases x with
    | none => rfl
    | some x => exact hf.d0 x⟩
theorem ed_W : Ed (dL (dO (dP PySem.PyData.int PySem.PyData.int))) 2 := (((ed_int.P ed_int).O (fun _ => by simp [dP, PySem.PyData.eqv]) fun _ => by simp [dP, PySem.PyData.eqv])).L
theorem neW {S : Type} (a b : List (Option (Int × Int))) : (neD (dL (dO (dP PySem.PyData.int PySem.PyData.int)) a) (dL (dO (dP PySem.PyData.int PySem.PyData.int)) b) : SM S Bool) = ret (!decide (a = b)) := ed_W.neD (by decide) _ _
end Td
set_option Elab.async false
set_option linter.all false
set_option maxRecDepth 100000
set_option maxHeartbeats 4000000
namespace Tk
open Td
theorem powM_ok {S : Type} {i j : Int} (h : CPowV i j) : (powM i j : SM S Int) = ret (i ^ j.toNat) := by unfold powM grdI; rw [grd_t h]; rfl
theorem mulM_ok {S : Type} {i j : Int} (h : L2.CMul i j) : (mulM i j : SM S Int) = ret (i * j) := by unfold mulM grdI; rw [grd_t h]; rfl
theorem mulWM_ok {S : Type} {i j : Int} (h : L2.CMulW i j) : (mulWM i j : SM S Int) = ret (i * j) := by unfold mulWM grdI; rw [grd_t h]; rfl
theorem divWM_ok {S : Type} {i j : Int} (h : L2.CDivW i j) : (divWM i j : SM S Int) = ret (i / j) := by unfold divWM grdI; rw [grd_t h]; rfl
theorem modM_ok {S : Type} {i j : Int} (h : 0 < j) : (modM i j : SM S Int) = ret (i % j) := by
  have h' : j ≠ 0 := by omega
  unfold modM grdI
  rw [grd_t h']
  show ret (i.fmod j) = _
  rw [Int.fmod_eq_emod_of_nonneg i (by omega)]
theorem hw_ix0 {a b c : Int} {P : Int → List Int → Prop} (h : P a [a, b, c]) : Hw (stIx 0) [a, b, c] P := by unfold Hw; exact h
theorem hw_ix1 {a b c : Int} {P : Int → List Int → Prop} (h : P b [a, b, c]) : Hw (stIx 1) [a, b, c] P := by unfold Hw; exact h
theorem hw_ix2 {a b c : Int} {P : Int → List Int → Prop} (h : P c [a, b, c]) : Hw (stIx 2) [a, b, c] P := by unfold Hw; exact h
theorem hw_set0 {a b c v : Int} {P : Unit → List Int → Prop} (h : P () [v, b, c]) : Hw (stSet 0 v) [a, b, c] P := by unfold Hw; exact h
theorem hw_set2 {a b c v : Int} {P : Unit → List Int → Prop} (h : P () [a, b, v]) : Hw (stSet 2 v) [a, b, c] P := by unfold Hw; exact h
end Tk
set_option Elab.async false
set_option linter.all false
set_option maxRecDepth 100000
set_option maxHeartbeats 4000000
namespace Tk
open Td
theorem atI_nn {T : Type} {xs : List T} {i : Int} (h0 : 0 ≤ i) (h1 : i < xs.length) : L2.atI xs i = some (xs[i.toNat]'(by omega)) := by
  unfold L2.atI L2.ixN
  rw [if_pos h0, if_pos h1]
  exact List.getElem?_eq_getElem (by omega)
theorem ixM_ok {S T : Type} {xs : List T} {i : Int} {a : T} (h : L2.atI xs i = some a) : (ixM xs i : SM S T) = ret a := by unfold ixM; rw [h]
end Tk
set_option Elab.async false
set_option linter.all false
set_option maxRecDepth 100000
set_option maxHeartbeats 4000000
namespace Tk
open Td Tp
theorem tix {t : TapeV} {i : Int} (h0 : 0 ≤ i) (h1 : i < t.2.length) : m_Tape_DgetitemD (t, i) = ret (t.2.getD i.toNat (0, 0)) := by
  unfold m_Tape_DgetitemD o_Tape_DgetitemD
  simp only [bnd_assoc, bnd_ret, bnd_ite, decide_eq_true h0, decide_eq_true h1, if_true, Bool.not_true, Bool.false_eq_true, if_false, ixM_get (0, 0) h0 h1, runB_rt]
theorem tln (t : TapeV) : m_Tape_DlenD t = ret (t.2.length : Int) := by
  unfold m_Tape_DlenD o_Tape_DlenD
  simp only [bnd_assoc, bnd_ret, runB_rt]
theorem tlen (t : TapeV) : m_Tape_length t = ret t.1 := by
  unfold m_Tape_length o_Tape_length
  simp only [bnd_assoc, bnd_ret, runB_rt]
/-- the files that are asked for -/
def askedL (asks : List Int) : List Int := (enum asks).filterMap fun x => if 0 < x.2 then some x.1 else none
theorem asked_eq {asks : List Int} (h : asks.length ≤ PySem.sizeLine) : m_asked_files asks = ret (askedL asks) := by
  unfold m_asked_files o_asked_files
  simp only [bnd_assoc, bnd_ret, lcIt_ret]
  rw [lcM_ret (fun (x : Int × Int) => if decide (0 < x.2) = true then some x.1 else none) _ _ (fun x _ => rfl) (by rw [enum_len]; simpa using h), bnd_ret, runB_rt, List.nil_append]
  unfold askedL
  simp only [decide_eq_true_eq]
def areAsks (k : Int) (asks : List Int) : Bool := decide ((asks.length : Int) = k) && (asks.map fun c => decide (0 ≤ c)).all id
theorem are_asks_eq {k : Int} {asks : List Int} (h : asks.length ≤ PySem.sizeLine) : m_are_asks (k, asks) = ret (areAsks k asks) := by
  unfold m_are_asks o_are_asks
  simp only [bnd_assoc, bnd_ret, lcIt_t]
  rw [lcM_map (fun (x : Int) => decide (0 ≤ x)) _ (fun x _ => rfl) h, bnd_ret, and_ret, bnd_ret, runB_rt]
  rfl
theorem small63 {n : Nat} (h : n ≤ PySem.sizeLine) : (0 : Int) ≤ (n : Int) ∧ (n : Int) < 2 ^ 63 := by
  have e : PySem.sizeLine = 16777216 := PySem.sizeLine_eq
  generalize PySem.sizeLine = z at *
  subst e
  omega
theorem check_asks_eq {t : TapeV} {asks : List Int} (h : asks.length ≤ PySem.sizeLine) (ht : t.2.length ≤ PySem.sizeLine) (ok : areAsks t.2.length asks = true) : m_check_asks (t, asks) = ret () := by
  unfold m_check_asks o_check_asks
  simp only [bnd_assoc, bnd_ret, tln, lft_ret, nxc_ret]
  rw [grd_t (small63 ht), bnd_ret, are_asks_eq h, lft_ret, bnd_ret, ok]
  simp only [Bool.not_true, Bool.false_eq_true, if_false]
  exact runP_nx
/-- a list of detours is a row -/
def rowGo (asks asked : List Int) : Int → List (Int × Int) → Bool
  | _, [] => true
  | edge, d :: r => if asked.isEmpty = true then false else if (decide (asked.headD 0 < d.1) && (decide (d.1 ≤ d.2) && decide (d.2 < asks.length))) = false then false else if edge ≤ d.1 then false
    else if asks.getD d.1.toNat 0 = 0 then false else if asks.getD d.2.toNat 0 = 0 then false else rowGo asks asked d.1 r
theorem asked_nn {asks : List Int} : ∀ x, x ∈ askedL asks → 0 ≤ x ∧ x < asks.length := by
  intro x hx
  unfold askedL enum at hx
  obtain ⟨y, hy, e⟩ := List.mem_filterMap.mp hx
  obtain ⟨i, hi, e2⟩ := List.mem_mapIdx.mp hy
  subst e2
  split at e
  · cases e; simp; omega
  · cases e
theorem is_row_eq {asks : List Int} {row : List (Int × Int)} (h : asks.length ≤ PySem.sizeLine) : m_is_row (asks, row) = ret (rowGo asks (askedL asks) asks.length row) := by
  unfold m_is_row o_is_row
  simp only [bnd_assoc, bnd_ret, asked_eq h, lft_ret]
  have main : ∀ (row : List (Int × Int)) (edge : Int) (f : Int → (Int × Int) → SM Unit (Fl Int Int Bool)),
      (∀ edge d, f edge d = if (askedL asks).isEmpty = true then ret (.rt false) else if (decide ((askedL asks).headD 0 < d.1) && (decide (d.1 ≤ d.2) && decide (d.2 < asks.length))) = false then ret (.rt false) else if edge ≤ d.1 then ret (.rt false)
        else if asks.getD d.1.toNat 0 = 0 then ret (.rt false) else if asks.getD d.2.toNat 0 = 0 then ret (.rt false) else ret (.nx d.1)) →
      ∃ z, forM_ row f edge = ret (if rowGo asks (askedL asks) edge row = true then .dn z else .rt false) := by
    intro row
    induction row with
    | nil => intro edge f _; exact ⟨edge, rfl⟩
    | cons d row ih =>
      intro edge f hf
      unfold forM_
      rw [hf, rowGo]
      by_cases e1 : (askedL asks).isEmpty = true
      · rw [if_pos e1, if_pos e1]; exact ⟨0, rfl⟩
      · rw [if_neg e1, if_neg e1]
        by_cases e2 : (decide ((askedL asks).headD 0 < d.1) && (decide (d.1 ≤ d.2) && decide (d.2 < asks.length))) = false
        · rw [if_pos e2, if_pos e2]; exact ⟨0, rfl⟩
        · rw [if_neg e2, if_neg e2]
          by_cases e3 : edge ≤ d.1
          · rw [if_pos e3, if_pos e3]; exact ⟨0, rfl⟩
          · rw [if_neg e3, if_neg e3]
            by_cases e4 : asks.getD d.1.toNat 0 = 0
            · rw [if_pos e4, if_pos e4]; exact ⟨0, rfl⟩
            · rw [if_neg e4, if_neg e4]
              by_cases e5 : asks.getD d.2.toNat 0 = 0
              · rw [if_pos e5, if_pos e5]; exact ⟨0, rfl⟩
              · rw [if_neg e5, if_neg e5, bnd_ret]
                exact ih d.1 f hf
  suffices hs : ∃ z, forM_ row _ (asks.length : Int) = ret (if rowGo asks (askedL asks) asks.length row = true then .dn z else .rt false) by
    obtain ⟨z, hz⟩ := hs
    rw [hz]
    cases e : rowGo asks (askedL asks) asks.length row with
    | true => rw [if_pos rfl, lpM_dn, runB_rt]
    | false => rw [if_neg (by simp), lpM_rt, runB_rt]
  refine main row _ _ ?_
  · intro edge d
    have hz := hz_small (n := 0) (k := 0) (by omega) (by omega)
    cases e1 : (askedL asks).isEmpty with
    | true => simp [e1, bnd_ret, esc_ret]
    | false =>
      have hne : askedL asks ≠ [] := by intro z; rw [z] at e1; cases e1
      have hl : 0 < (askedL asks).length := List.length_pos_iff.mpr hne
      have hh : (ixM (askedL asks) 0 : SM Unit Int) = ret ((askedL asks).headD 0) := by
        rw [ixM_get 0 (by omega) (by omega)]
        cases h : askedL asks with
        | nil => exact absurd h hne
        | cons a l => rfl
      simp only [hh, bnd_ret, Bool.not_false, Bool.not_true, Bool.false_eq_true, if_false]
      have hge : (askedL asks).headD 0 ≥ 0 := by
        cases h : askedL asks with
        | nil => exact absurd h hne
        | cons a l => exact (asked_nn a (by rw [h]; exact List.mem_cons_self ..)).1
      simp only [and_ret, bnd_ret]
      by_cases c1 : (decide ((askedL asks).headD 0 < d.1) && (decide (d.1 ≤ d.2) && decide (d.2 < asks.length))) = true
      · have c := c1
        simp only [Bool.and_eq_true, decide_eq_true_eq] at c
        have i1 : (ixM asks d.1 : SM Unit Int) = ret (asks.getD d.1.toNat 0) := ixM_get 0 (by omega) (by omega)
        have i2 : (ixM asks d.2 : SM Unit Int) = ret (asks.getD d.2.toNat 0) := ixM_get 0 (by omega) (by omega)
        simp only [c1, i1, i2, bnd_ret, Bool.not_true, Bool.false_eq_true, Bool.true_eq_false, if_false, or_ret]
        by_cases c2 : edge ≤ d.1
        · simp only [c2, decide_true, if_true, bnd_ret, esc_ret]
        · simp only [c2, decide_false, Bool.false_eq_true, if_false]
          by_cases c3 : asks.getD d.1.toNat 0 = 0
          · simp only [c3, decide_true, Bool.true_or, if_true, bnd_ret, esc_ret]
          · simp only [c3, decide_false, Bool.false_or, if_false]
            by_cases c4 : asks.getD d.2.toNat 0 = 0
            · simp only [c4, decide_true, if_true, bnd_ret, esc_ret]
            · simp only [c4, decide_false, Bool.false_eq_true, if_false]
      · have c2 : (decide ((askedL asks).headD 0 < d.1) && (decide (d.1 ≤ d.2) && decide (d.2 < asks.length))) = false := by simpa using c1
        simp only [c2, Bool.not_false, if_true, bnd_ret, esc_ret]
theorem check_row_eq {asks : List Int} {row : List (Int × Int)} (h : asks.length ≤ PySem.sizeLine) (ok : rowGo asks (askedL asks) asks.length row = true) : m_check_row (asks, row) = ret () := by
  unfold m_check_row o_check_row
  simp only [bnd_assoc, bnd_ret, is_row_eq h, lft_ret, ok]
  simp only [Bool.not_true, Bool.false_eq_true, if_false]
  exact runP_nx
end Tk
set_option Elab.async false
set_option linter.all false
set_option maxRecDepth 100000
set_option maxHeartbeats 4000000
namespace Tk
open Td Tp
theorem filter_lcM {S : Type} {u : List Int} {f : Int → SM S (Option Int)} (g : Int → Bool) (h : ∀ x, f x = ret (if g x = true then some x else none)) (hz : u.length ≤ PySem.sizeLine) : lcM f [] u = ret (u.filter g) := lcM_filter g u (fun x _ => h x) hz
theorem asked_len {asks : List Int} : (askedL asks).length ≤ asks.length := by
  unfold askedL
  exact Nat.le_trans (List.length_filterMap_le ..) (by rw [enum_len]; exact Nat.le_refl _)
theorem fresh_eq {asks : List Int} {row : List (Int × Int)} (h : asks.length ≤ PySem.sizeLine) (hr : row.length < PySem.sizeLine) : m_fresh_runs (asks, row) = ret (fr (askedL asks) row) := by
  unfold m_fresh_runs o_fresh_runs
  simp only [bnd_assoc, bnd_ret, asked_eq h, lft_ret]
  rw [lenG_ok (by simp), bnd_ret]
  rw [forM_nx (fun (l : List (List Int) × List Int) d => (l.1 ++ [l.2.filter (inD d.1 d.2)], l.2.filter fun x => !inD d.1 d.2 x)) row ([], askedL asks) ?_]
  · rw [lpM_dn, fr_foldl, List.nil_append, lenG_ok (by rw [fr_len]; exact hr), bnd_ret, runB_rt]
  · intro ys d zs e
    have inv : ∀ (ys : List (Int × Int)) (l : List (List Int) × List Int), (ys.foldl (fun (l : List (List Int) × List Int) d => (l.1 ++ [l.2.filter (inD d.1 d.2)], l.2.filter fun x => !inD d.1 d.2 x)) l).1.length = l.1.length + ys.length ∧ (ys.foldl (fun (l : List (List Int) × List Int) d => (l.1 ++ [l.2.filter (inD d.1 d.2)], l.2.filter fun x => !inD d.1 d.2 x)) l).2.length ≤ l.2.length := by
      intro ys
      induction ys with
      | nil => intro l; exact ⟨rfl, Nat.le_refl _⟩
      | cons y ys ih =>
        intro l
        obtain ⟨a, b⟩ := ih (l.1 ++ [l.2.filter (inD y.1 y.2)], l.2.filter fun x => !inD y.1 y.2 x)
        refine ⟨?_, Nat.le_trans b (List.length_filter_le ..)⟩
        rw [List.foldl_cons, a, List.length_append, List.length_cons]
        simp only [List.length_cons, List.length_nil]
        omega
    obtain ⟨i1, i2⟩ := inv ys ([], askedL asks)
    have hl : ys.length < row.length := by rw [e]; simp
    generalize ys.foldl _ ([], askedL asks) = l at *
    have hz : l.2.length ≤ PySem.sizeLine := Nat.le_trans i2 (Nat.le_trans asked_len h)
    have hz2 : l.1.length < PySem.sizeLine := by rw [i1]; simp only [List.length_nil]; omega
    rw [filter_lcM (inD d.1 d.2) (fun x => by simp only [lcIt_ret, ite_ret]; rfl) hz, bnd_ret, pushM_ok hz2, bnd_ret]
    rw [filter_lcM (fun x => !inD d.1 d.2 x) (fun x => by simp only [lcIt_ret, ite_ret, bnd_ret]; rfl) hz, bnd_ret]
/-- a row that stands on a tape -/
structure Fit (t : TapeV) (asks : List Int) (row : List (Int × Int)) : Prop where
  len : t.2.length = asks.length
  small : asks.length ≤ 60
  rsmall : row.length ≤ 1000
  ok : areAsks t.2.length asks = true
  row : rowGo asks (askedL asks) asks.length row = true
theorem Fit.z {t : TapeV} {asks : List Int} {row : List (Int × Int)} (h : Fit t asks row) : asks.length ≤ PySem.sizeLine := hz_small h.small (by omega)
theorem Fit.zr {t : TapeV} {asks : List Int} {row : List (Int × Int)} (h : Fit t asks row) : row.length < PySem.sizeLine := by
  have := hz_small (n := row.length + 1) (k := 1001) (by have := h.rsmall; omega) (by omega)
  omega
/-- what a row says -/
structure RowP (asks : List Int) (row : List (Int × Int)) : Prop where
  m : ∀ d, d ∈ row → d.1 ∈ askedL asks ∧ d.2 ∈ askedL asks ∧ d.1 ≤ d.2 ∧ (askedL asks).headD 0 < d.1
  d : row.Pairwise (fun a b => b.1 < a.1)
theorem mem_asked {asks : List Int} {i : Int} : i ∈ askedL asks ↔ 0 ≤ i ∧ i < asks.length ∧ 0 < asks.getD i.toNat 0 := by
  unfold askedL enum
  rw [List.mem_filterMap]
  constructor
  · rintro ⟨y, hy, e⟩
    obtain ⟨j, hj, e2⟩ := List.mem_mapIdx.mp hy
    subst e2
    dsimp only at e
    by_cases hc : 0 < asks[j]
    · rw [if_pos hc] at e
      cases e
      refine ⟨by omega, by omega, ?_⟩
      rw [List.getD_eq_getElem?_getD, List.getElem?_eq_getElem (by omega)]
      exact hc
    · rw [if_neg hc] at e; cases e
  · rintro ⟨h0, h1, h2⟩
    have hj : i.toNat < asks.length := by omega
    rw [List.getD_eq_getElem?_getD, List.getElem?_eq_getElem hj] at h2
    refine ⟨((i.toNat : Int), asks[i.toNat]), List.mem_mapIdx.mpr ⟨i.toNat, hj, rfl⟩, ?_⟩
    dsimp only
    rw [if_pos (by simpa using h2)]
    congr 1
    omega
theorem asked_asc (asks : List Int) : (askedL asks).Pairwise (· < ·) := by
  unfold askedL enum
  rw [List.pairwise_filterMap]
  rw [List.pairwise_iff_getElem]
  intro i j hi hj hij b hb c hc
  simp only [List.getElem_mapIdx] at hb hc
  split at hb
  · split at hc
    · cases hb; cases hc; omega
    · cases hc
  · cases hb
theorem rowGo_p {asks : List Int} (h0 : ∀ c, c ∈ asks → 0 ≤ c) : ∀ {row : List (Int × Int)} {edge : Int}, rowGo asks (askedL asks) edge row = true → RowP asks row ∧ askedL asks ≠ [] ∨ row = []
  | [], _, _ => .inr rfl
  | d :: r, edge, h => by
    left
    have main : ∀ {row : List (Int × Int)} {edge : Int}, rowGo asks (askedL asks) edge row = true → (∀ d, d ∈ row → d.1 < edge ∧ (d.1 ∈ askedL asks ∧ d.2 ∈ askedL asks ∧ d.1 ≤ d.2 ∧ (askedL asks).headD 0 < d.1) ∧ askedL asks ≠ []) ∧ row.Pairwise (fun a b => b.1 < a.1) := by
      intro row
      induction row with
      | nil => intro edge _; exact ⟨fun d hd => (by cases hd), .nil⟩
      | cons d r ih =>
        intro edge h
        rw [rowGo] at h
        split at h
        · cases h
        · rename_i e1
          split at h
          · cases h
          · rename_i e2
            split at h
            · cases h
            · rename_i e3
              split at h
              · cases h
              · rename_i e4
                split at h
                · cases h
                · rename_i e5
                  have e2' : (decide ((askedL asks).headD 0 < d.1) && (decide (d.1 ≤ d.2) && decide (d.2 < asks.length))) = true := by simpa using e2
                  simp only [Bool.and_eq_true, decide_eq_true_eq] at e2'
                  have hne : askedL asks ≠ [] := by intro z; rw [z] at e1; exact e1 rfl
                  have hh : 0 ≤ (askedL asks).headD 0 := by
                    cases h : askedL asks with
                    | nil => exact absurd h hne
                    | cons a l => exact (asked_nn a (by rw [h]; exact List.mem_cons_self ..)).1
                  have nn : ∀ i : Int, 0 ≤ i → i < asks.length → asks.getD i.toNat 0 ≠ 0 → i ∈ askedL asks := fun i h1 h2 h3 => by
                    rw [mem_asked]
                    refine ⟨h1, h2, ?_⟩
                    have hj : i.toNat < asks.length := by omega
                    rw [List.getD_eq_getElem?_getD, List.getElem?_eq_getElem hj] at h3 ⊢
                    have := h0 _ (List.getElem_mem hj)
                    simp only [Option.getD_some] at h3 ⊢
                    omega
                  have hd : d.1 < edge ∧ (d.1 ∈ askedL asks ∧ d.2 ∈ askedL asks ∧ d.1 ≤ d.2 ∧ (askedL asks).headD 0 < d.1) ∧ askedL asks ≠ [] := ⟨by omega, ⟨nn _ (by omega) (by omega) e4, nn _ (by omega) (by omega) e5, by omega, by omega⟩, hne⟩
                  obtain ⟨i1, i2⟩ := ih h
                  refine ⟨fun x hx => ?_, ?_⟩
                  · rcases List.mem_cons.mp hx with hx | hx
                    · subst hx; exact hd
                    · have := i1 x hx
                      exact ⟨by omega, this.2⟩
                  · rw [List.pairwise_cons]
                    exact ⟨fun x hx => (i1 x hx).1, i2⟩
    obtain ⟨i1, i2⟩ := main h
    exact ⟨⟨fun x hx => (i1 x hx).2.1, i2⟩, (i1 d (List.mem_cons_self ..)).2.2⟩
end Tk
set_option Elab.async false
set_option linter.all false
set_option maxRecDepth 100000
set_option maxHeartbeats 4000000
namespace Tk
open Td Tp
theorem Fit.zt {t : TapeV} {asks : List Int} {row : List (Int × Int)} (h : Fit t asks row) : t.2.length ≤ PySem.sizeLine := by rw [h.len]; exact h.z
theorem Fit.nn {t : TapeV} {asks : List Int} {row : List (Int × Int)} (h : Fit t asks row) : ∀ c, c ∈ asks → 0 ≤ c := fun c hc => by
  have := h.ok
  unfold areAsks at this
  simp only [Bool.and_eq_true, List.all_eq_true, List.mem_map] at this
  have := this.2 (decide (0 ≤ c)) ⟨c, hc, rfl⟩
  simpa using this
theorem Fit.rp {t : TapeV} {asks : List Int} {row : List (Int × Int)} (h : Fit t asks row) : RowP asks row := by
  rcases rowGo_p h.nn h.row with z | z
  · exact z.1
  · subst z; exact ⟨fun d hd => (by cases hd), .nil⟩
theorem Fit.ix {t : TapeV} {asks : List Int} {row : List (Int × Int)} (h : Fit t asks row) {i : Int} (hi : i ∈ askedL asks) : m_Tape_DgetitemD (t, i) = ret (t.2.getD i.toNat (0, 0)) := by
  have := asked_nn i hi
  exact tix this.1 (by rw [h.len]; exact this.2)
def wayL (t : TapeV) (asks : List Int) (row : List (Int × Int)) : List Int := if (askedL asks).isEmpty = true then [t.1] else
  (row.flatMap fun d => [bg t d.1, en t d.2]) ++ [bg t ((askedL asks).headD 0), en t (lastI (lastR (fr (askedL asks) row)))]
theorem foldl_flat {A B : Type} (g : A → List B) : ∀ (xs : List A) (l : List B), xs.foldl (fun l x => l ++ g x) l = l ++ xs.flatMap g
  | [], l => by simp
  | x :: xs, l => by rw [List.foldl_cons, foldl_flat g xs, List.flatMap_cons, List.append_assoc]
theorem last_mem {u : List Int} {row : List (Int × Int)} (hu : u ≠ []) (h : ∀ d, d ∈ row → u.headD 0 < d.1) : lastR (fr u row) ≠ [] ∧ lastI (lastR (fr u row)) ∈ u := by
  cases u with
  | nil => exact absurd rfl hu
  | cons a u =>
    have h1 := fr_last (row := row) (u := a :: u) (List.mem_cons_self ..) h
    have e : lastR (fr (a :: u) row) = (fr (a :: u) row).getLast (fr_ne _ _) := by
      unfold lastR
      rw [List.getLast?_eq_some_getLast (fr_ne _ _)]
      rfl
    rw [e]
    have hne : (fr (a :: u) row).getLast (fr_ne _ _) ≠ [] := List.ne_nil_of_mem h1
    refine ⟨hne, ?_⟩
    unfold lastI
    rw [List.getLast?_eq_some_getLast hne]
    exact fr_mem (List.getLast_mem (fr_ne _ _)) (List.getLast_mem hne)
theorem way_eq {t : TapeV} {asks : List Int} {row : List (Int × Int)} (h : Fit t asks row) : m_way (t, asks, row) = ret (wayL t asks row) := by
  have hp := h.rp
  have hsz : PySem.sizeLine = 16777216 := PySem.sizeLine_eq
  unfold m_way o_way wayL
  simp only [bnd_assoc, bnd_ret, check_asks_eq h.z h.zt h.ok, check_row_eq h.z h.row, asked_eq h.z, fresh_eq h.z h.zr, lft_ret, nxc_ret, tlen]
  cases e1 : (askedL asks).isEmpty with
  | true =>
    simp only [Bool.not_true, Bool.not_false, if_true]
    rw [lenG_ok (hz_small (k := 1) (Nat.le_refl _) (by omega)), bnd_ret, esc_ret, runB_rt]
  | false =>
    have hne : askedL asks ≠ [] := by intro z; rw [z] at e1; cases e1
    have hl : 0 < (askedL asks).length := List.length_pos_iff.mpr hne
    have hh : (ixM (askedL asks) 0 : SM Unit Int) = ret ((askedL asks).headD 0) := by
      rw [ixM_get 0 (by omega) (by omega)]
      cases h : askedL asks with
      | nil => exact absurd h hne
      | cons a l => rfl
    have hm : (askedL asks).headD 0 ∈ askedL asks := by
      cases h : askedL asks with
      | nil => exact absurd h hne
      | cons a l => exact List.mem_cons_self ..
    obtain ⟨l1, l2⟩ := last_mem hne fun d hd => (hp.m d hd).2.2.2
    simp only [Bool.not_true, Bool.not_false, Bool.false_eq_true, if_false]
    rw [lenG_ok (by simp), bnd_ret]
    have hr := h.rsmall
    have fl2 : ∀ (row : List (Int × Int)), (row.flatMap fun d => [bg t d.1, en t d.2]).length = 2 * row.length := by
      intro row
      induction row with
      | nil => rfl
      | cons d r ih => rw [List.flatMap_cons, List.length_append, ih, List.length_cons]; simp only [List.length_cons, List.length_nil]; omega
    rw [forM_nx (fun (l : List Int) (d : Int × Int) => l ++ [bg t d.1, en t d.2]) row [] ?_]
    · rw [lpM_dn, hh, bnd_ret, h.ix hm, lft_ret, nxc_ret, bnd_ret]
      rw [ixM_last (d := []) (fr_ne _ _), bnd_ret]
      have e2 : (fr (askedL asks) row).getLast?.getD [] = lastR (fr (askedL asks) row) := rfl
      rw [e2, ixM_last (d := 0) l1, bnd_ret]
      have e3 : (lastR (fr (askedL asks) row)).getLast?.getD 0 = lastI (lastR (fr (askedL asks) row)) := rfl
      rw [e3, h.ix l2, lft_ret, nxc_ret, bnd_ret]
      rw [foldl_flat, List.nil_append, lenG_ok, bnd_ret, runB_rt]
      · rfl
      · rw [List.length_append, fl2]
        exact hz_small (k := 2010) (by simp only [List.length_cons, List.length_nil]; omega) (by omega)
    · intro ys d zs e
      have hd : d ∈ row := by rw [e]; simp
      obtain ⟨d1, d2, _⟩ := hp.m d hd
      have hy : ys.length < row.length := by rw [e]; simp
      rw [h.ix d1, lft_ret, nxc_ret, bnd_ret, h.ix d2, lft_ret, nxc_ret, bnd_ret, lenG_ok (hz_small (k := 2) (Nat.le_refl _) (by omega)), bnd_ret, foldl_flat, List.nil_append, catM_ok ?_, bnd_ret]
      · rfl
      · rw [fl2]
        exact hz_small (k := 2010) (by simp only [List.length_cons, List.length_nil]; omega) (by omega)
def waitsL (t : TapeV) (asks : List Int) (row : List (Int × Int)) : Fd := ((enumF 0 (wayL t asks row)).foldl (wStep t (fr (askedL asks) row)) (asks.map fun _ => none, t.1, 0)).1
theorem enumF_mem : ∀ {xs : List Int} {k : Nat} {x : Int × Int}, x ∈ enumF k xs → (k : Int) ≤ x.1 ∧ x.1 < k + xs.length
  | [], _, _, h => by cases h
  | y :: ys, k, x, h => by
    rw [enumF] at h
    rcases List.mem_cons.mp h with h | h
    · subst h; simp; omega
    · have := enumF_mem h
      simp at this ⊢; omega
theorem way_len {t : TapeV} {asks : List Int} {row : List (Int × Int)} : (wayL t asks row).length = if (askedL asks).isEmpty = true then 1 else 2 * (row.length + 1) := by
  unfold wayL
  split
  · rfl
  · have fl2 : ∀ (row : List (Int × Int)), (row.flatMap fun d => [bg t d.1, en t d.2]).length = 2 * row.length := by
      intro row
      induction row with
      | nil => rfl
      | cons d r ih => rw [List.flatMap_cons, List.length_append, ih, List.length_cons]; simp only [List.length_cons, List.length_nil]; omega
    rw [List.length_append, fl2]; simp only [List.length_cons, List.length_nil]; omega
theorem wStep_len (t : TapeV) (runs : List (List Int)) (l : Fd × Int × Int) (x : Int × Int) : (wStep t runs l x).1.length = l.1.length := by
  unfold wStep
  dsimp only
  split
  · exact put_len ..
  · rfl
theorem divM2 {S : Type} {i : Int} : (divM i 2 : SM S Int) = ret (i / 2) := by
  unfold divM grdI
  rw [grd_t (by unfold L2.CDivN; decide)]
  show ret (i.fdiv 2) = _
  rw [Int.fdiv_eq_ediv_of_nonneg i (by omega)]
theorem waits_eq {t : TapeV} {asks : List Int} {row : List (Int × Int)} (h : Fit t asks row) : m_waits (t, asks, row) = ret (waitsL t asks row) := by
  unfold m_waits o_waits waitsL
  simp only [bnd_assoc, bnd_ret, way_eq h, fresh_eq h.z h.zr, lft_ret, nxc_ret, tlen, lcIt_t]
  rw [lcM_map (fun _ => (none : Option (Int × Int))) _ (fun x _ => rfl) h.z, bnd_ret, enum_enumF]
  rw [forM_nx (fun (l : Fd × Int × Int) x => wStep t (fr (askedL asks) row) l x) (enumF 0 (wayL t asks row)) _ ?_]
  · rw [lpM_dn, runB_rt]
  · intro ys x zs e
    have inv : ∀ (ys : List (Int × Int)) (l : Fd × Int × Int), (ys.foldl (fun (l : Fd × Int × Int) x => wStep t (fr (askedL asks) row) l x) l).1.length = l.1.length := by
      intro ys
      induction ys with
      | nil => intro l; rfl
      | cons y ys ih => intro l; rw [List.foldl_cons, ih, wStep_len]
    have hlen := inv ys (asks.map fun _ => none, t.1, 0)
    rw [List.length_map] at hlen
    have hx := enumF_mem (xs := wayL t asks row) (k := 0) (x := x) (by rw [e]; simp)
    generalize ys.foldl (fun (l : Fd × Int × Int) x => wStep t (fr (askedL asks) row) l x) _ = l at *
    simp only [modM_ok (show (0 : Int) < 2 by decide), bnd_ret, ite_ret]
    have tail : ∀ fd : Fd, (bnd (ret (if x.2 - l.2.1 < 0 then -(x.2 - l.2.1) else x.2 - l.2.1)) fun a => (ret (Fl.nx (fd, x.2, l.2.2 + a)) : SM Unit (Fl (Fd × Int × Int) (Fd × Int × Int) Fd))) = ret (Fl.nx (fd, x.2, l.2.2 + aI (x.2 - l.2.1))) := fun fd => by
      rw [bnd_ret]; rfl
    by_cases hodd : x.1 % 2 = 1
    · have ne : (askedL asks).isEmpty = false := by
        cases e2 : (askedL asks).isEmpty with
        | false => rfl
        | true => rw [way_len, if_pos e2] at hx; omega
      rw [way_len, if_neg (by simp [ne])] at hx
      have hrl : (x.1 / 2).toNat < (fr (askedL asks) row).length := by rw [fr_len]; omega
      simp only [hodd, decide_true, if_true, divM2, bnd_ret]
      rw [ixM_get [] (by omega) (by rw [fr_len]; omega), bnd_ret]
      have hmem : ∀ i, i ∈ (fr (askedL asks) row).getD (x.1 / 2).toNat [] → i ∈ askedL asks := fun i hi => by
        rw [List.getD_eq_getElem?_getD, List.getElem?_eq_getElem hrl] at hi
        exact fr_mem (List.getElem_mem hrl) hi
      rw [forM_nx (fun (fd : Fd) i => fd.set i.toNat (some (l.2.2 + en t i - l.2.1, x.1))) _ _ ?_]
      · rw [lpM_dn, thn_nx]
        unfold wStep
        rw [if_pos hodd]
        rfl
      · intro as i bs e3
        have hi : i ∈ askedL asks := hmem i (by rw [e3]; simp)
        have := asked_nn i hi
        have il : ∀ (as : List Int) (fd : Fd), (as.foldl (fun (fd : Fd) i => fd.set i.toNat (some (l.2.2 + en t i - l.2.1, x.1))) fd).length = fd.length := by
          intro as
          induction as with
          | nil => intro fd; rfl
          | cons a as ih => intro fd; rw [List.foldl_cons, ih, List.length_set]
        rw [h.ix hi, lft_ret, nxc_ret, bnd_ret, setM_ok this.1 (by rw [il, hlen]; exact this.2), bnd_ret]
        rfl
    · simp only [hodd, decide_false, Bool.false_eq_true, if_false, thn_nx]
      unfold wStep
      rw [if_neg hodd]
      rfl
end Tk
set_option Elab.async false
set_option linter.all false
set_option maxRecDepth 100000
set_option maxHeartbeats 4000000
namespace Tk
open Td Tp L2
theorem head_get {xs : List Int} (h : xs ≠ []) {S : Type} : (ixM xs 0 : SM S Int) = ret (xs.headD 0) := by
  have : 0 < xs.length := List.length_pos_iff.mpr h
  rw [ixM_get 0 (by omega) (by omega)]
  cases xs with
  | nil => exact absurd rfl h
  | cons a l => rfl
theorem last_get {xs : List Int} (h : xs ≠ []) {S : Type} : (ixM xs (-1) : SM S Int) = ret (lastI xs) := ixM_last h
theorem cut_take {T : Type} {xs : List T} {n : Nat} (h : n ≤ xs.length) : cutL xs none (some (n : Int)) = xs.take n := by
  unfold cutL
  rw [HT.sIx_none, HT.sIx_nat, Nat.min_eq_left h]
  rfl
end Tk
set_option Elab.async false
set_option linter.all false
set_option maxRecDepth 100000
set_option maxHeartbeats 4000000
namespace Tk
open Td Tp L2 PySem
theorem init_eq {L : Int} {fs : List (Int × Int)} (h : 1 ≤ L) (hf : FOk L 0 fs) : m_Tape_DinitD (L, fs) TS0.new = .ok () (.full (L, fs)) := by
  unfold m_Tape_DinitD o_Tape_DinitD
  have e1 : decide (L < 1) = false := decide_eq_false (by omega)
  simp only [bnd_assoc, bnd_ret, e1, Bool.false_eq_true, if_false]
  have main : ∀ (fs : List (Int × Int)) (e : Int) (f : Int → Int × Int → SM TS0 (Fl Int Int Unit)), (∀ (e : Int) (d : Int × Int), e ≤ d.1 → d.1 < d.2 → d.2 ≤ L → f e d = ret (.nx d.2)) → FOk L e fs → ∃ z, forM_ fs f e = ret (.dn z) := by
    intro fs
    induction fs with
    | nil => intro e f _ _; exact ⟨e, rfl⟩
    | cons d r ih =>
      intro e f hf h
      obtain ⟨a, b, c, k⟩ := h
      unfold forM_
      rw [hf e d a b c, bnd_ret]
      exact ih d.2 f hf k
  suffices hs : ∃ z, forM_ fs _ (0 : Int) = ret (.dn z) by
    obtain ⟨z, hz⟩ := hs
    rw [hz, lpM_dn]
    rfl
  refine main fs 0 _ (fun e d a b c => ?_) hf
  simp only [decide_eq_true a, decide_eq_true b, decide_eq_true c, if_true, bnd_ret, Bool.not_true, Bool.false_eq_true, if_false]
theorem make_eq {S : Type} {L : Int} {fs : List (Int × Int)} (h : 1 ≤ L) (hf : FOk L 0 fs) {U : Type} (k : TapeV → SM S U) : (bnd (subM (m_Tape_DinitD (L, fs)) TS0.new) fun r => bnd (tapeM r.2) k) = k (L, fs) := by
  have : (subM (m_Tape_DinitD (L, fs)) TS0.new : SM S (Unit × TS0)) = ret ((), .full (L, fs)) := by
    funext s
    unfold subM
    rw [init_eq h hf]
    rfl
  rw [this, bnd_ret]
  rfl
theorem zip_flat {A B C : Type} (f : A → List C) : ∀ (xs : List A) (ys : List B), xs.length = ys.length → ((xs.zip ys).flatMap fun x => f x.1) = xs.flatMap f
  | [], _, _ => rfl
  | x :: xs, y :: ys, h => by rw [List.zip_cons_cons, List.flatMap_cons, List.flatMap_cons, zip_flat f xs ys (by simpa using h)]
theorem trsG_flat (t : Tape) (row : List (Int × Int)) (a z : Int) (runs : List (List Int)) (h : runs.length = row.length + 1) : ((trsG t row a z runs).flatMap fun x => [x.1.1, x.1.2]) = (row.flatMap fun d => [bg t d.1, en t d.2]) ++ [bg t a, en t z] := by
  unfold trsG
  rw [zip_flat (fun x : Int × Int => [x.1, x.2]) _ _ (by simp [h]), List.flatMap_append, List.flatMap_map]
  simp
theorem waits_get {t : TapeV} {asks : List Int} {row : List (Int × Int)} (h : Fit t asks row) (hne : askedL asks ≠ []) {i : Nat} (hi : i < asks.length) :
    (waitsL t asks row)[i]? = match lk t (trsG t row ((askedL asks).headD 0) (lastI (lastR (fr (askedL asks) row))) (fr (askedL asks) row)) t.1 0 0 i with | some w => some (some w) | none => some none := by
  have ew : wayL t asks row = (trsG t row ((askedL asks).headD 0) (lastI (lastR (fr (askedL asks) row))) (fr (askedL asks) row)).flatMap fun x => [x.1.1, x.1.2] := by
    rw [trsG_flat _ _ _ _ _ (fr_len _ _)]
    unfold wayL
    rw [if_neg (by simpa using hne)]
  unfold waitsL
  rw [ew, show (0 : Nat) = 2 * 0 from rfl, wStep_trs t _ _ 0 _ _ _ ?_, wTr_get]
  · rw [List.getElem?_map, List.getElem?_eq_getElem hi]
    rfl
  · intro x hx y hy
    have : x.2 ∈ fr (askedL asks) row := by
      unfold trsG at hx
      exact (List.of_mem_zip (a := x.1) (b := x.2) hx).2
    exact (asked_nn y (fr_mem this hy)).1
  · have hp := fr_apart (u := askedL asks) (row := row)
    have e : (trsG t row ((askedL asks).headD 0) (lastI (lastR (fr (askedL asks) row))) (fr (askedL asks) row)).map (·.2) = fr (askedL asks) row := by
      unfold trsG
      rw [List.map_snd_zip]
      simp [fr_len]
    rw [← e] at hp
    exact List.pairwise_map.mp hp
  · rw [List.length_map]; exact hi
  · intro j x hx
    unfold trsG at hx
    rw [List.getElem?_zip_eq_some] at hx
    rw [Nat.zero_add]
    exact hx.2
end Tk
set_option Elab.async false
set_option linter.all false
set_option maxRecDepth 100000
set_option maxHeartbeats 4000000
namespace Tk
open Td Tp L2
theorem len2 {S : Type} (a b : Int) : (lenG [a, b] : SM S Unit) = Td.ret () := lenG_ok (hz_small (k := 2) (Nat.le_refl _) (by omega))
theorem len3 {S : Type} (a b c : Int) : (lenG [a, b, c] : SM S Unit) = Td.ret () := lenG_ok (hz_small (k := 3) (Nat.le_refl _) (by omega))
theorem len0 {S T : Type} : (lenG ([] : List T) : SM S Unit) = Td.ret () := lenG_ok (by simp)
theorem ix2 {S : Type} {a b v : Int} (h0 : 0 ≤ v) (h1 : v < 2) : (ixM [a, b] v : SM S Int) = Td.ret (if v = 0 then a else b) := by
  rcases (show v = 0 ∨ v = 1 by omega) with e | e <;> subst e <;> rfl
theorem ix3 {S : Type} {a b c v : Int} (h0 : 0 ≤ v) (h1 : v < 3) : (ixM [a, b, c] v : SM S Int) = Td.ret (if v = 0 then a else if v = 1 then b else c) := by
  rcases (show v = 0 ∨ v = 1 ∨ v = 2 by omega) with e | e | e <;> subst e <;> rfl
/-- a tape's length and files, drawn -/
structure Shp (m : Nat) (sh : Int × List (Int × Int)) : Prop where
  f : FOk sh.1 0 sh.2
  m : sh.2.length ≤ m
  l : 1 ≤ sh.1
  h : sh.1 ≤ 2000000
end Tk
set_option Elab.async false
set_option linter.all false
set_option maxRecDepth 100000
set_option maxHeartbeats 4000000
namespace Tk
open Td Tp L2
/-- a row of these asks passes the program's look -/
theorem rowGo_of {asks : List Int} : ∀ {row : List (Int × Int)} {edge : Int}, RowP asks row → (∀ d, d ∈ row → d.1 < edge) → rowGo asks (askedL asks) edge row = true
  | [], _, _, _ => rfl
  | d :: r, edge, h, he => by
    obtain ⟨a, b, c, k⟩ := h.m d (List.mem_cons_self ..)
    have hd := List.pairwise_cons.mp h.d
    have a1 := mem_asked.mp a
    have b1 := mem_asked.mp b
    have e := he d (List.mem_cons_self ..)
    have ne : ¬ (askedL asks).isEmpty = true := by
      intro z
      rw [List.isEmpty_iff] at z
      rw [z] at a
      cases a
    rw [rowGo, if_neg ne, if_neg (by simp only [Bool.and_eq_false_iff, decide_eq_false_iff_not]; omega), if_neg (by omega), if_neg (by omega), if_neg (by omega)]
    exact rowGo_of ⟨fun x hx => h.m x (List.mem_cons_of_mem _ hx), hd.2⟩ fun x hx => hd.1 x hx
theorem rowP_len {asks : List Int} {row : List (Int × Int)} (h : RowP asks row) : row.length ≤ asks.length := by
  have main : ∀ (row : List (Int × Int)) (m : Nat), (∀ d, d ∈ row → 0 ≤ d.1 ∧ d.1 < m) → row.Pairwise (fun a b => b.1 < a.1) → row.length ≤ m := by
    intro row
    induction row with
    | nil => intro m _ _; simp
    | cons d r ih =>
      intro m hm hp
      rw [List.pairwise_cons] at hp
      have := hm d (List.mem_cons_self ..)
      have z := ih d.1.toNat (fun x hx => by
        have h1 := hm x (List.mem_cons_of_mem _ hx)
        have h2 := hp.1 x hx
        omega) hp.2
      rw [List.length_cons]
      omega
  exact main row asks.length (fun d hd => by have := mem_asked.mp (h.m d hd).1; omega) h.d
end Tk
set_option Elab.async false
set_option linter.all false
set_option maxRecDepth 100000
set_option maxHeartbeats 4000000
namespace Tk
open Td Tp L2
theorem dnto_get {m : Nat} {hi : Int} {j : Nat} {a : Int} (h : (dnto hi m)[j]? = some a) : j < m ∧ a = hi - j := by
  unfold dnto at h
  rw [List.getElem?_map] at h
  by_cases hj : j < m
  · rw [List.getElem?_range hj] at h
    simp at h
    exact ⟨hj, by omega⟩
  · rw [List.getElem?_eq_none (by rw [List.length_range]; omega)] at h
    cases h
theorem asked_at {asks : List Int} {i : Int} (h0 : 0 ≤ i) (h1 : i < (askedL asks).length) : (askedL asks).getD i.toNat 0 ∈ askedL asks := by
  rw [List.getD_eq_getElem?_getD, List.getElem?_eq_getElem (by omega)]
  exact List.getElem_mem _
theorem asked_lt {asks : List Int} {i j : Int} (h0 : 0 ≤ i) (hij : i < j) (h1 : j < (askedL asks).length) : (askedL asks).getD i.toNat 0 < (askedL asks).getD j.toNat 0 := by
  rw [List.getD_eq_getElem?_getD, List.getElem?_eq_getElem (by omega), List.getD_eq_getElem?_getD, List.getElem?_eq_getElem (by omega)]
  exact List.pairwise_iff_getElem.mp (asked_asc asks) i.toNat j.toNat (by omega) (by omega) (by omega)
theorem headD_get (xs : List Int) : xs.headD 0 = xs.getD (0 : Int).toNat 0 := by cases xs <;> rfl
/-- rows drawn stand on the tape -/
theorem fit_of {t : TapeV} {asks : List Int} {row : List (Int × Int)} (hl : t.2.length = asks.length) (hs : asks.length ≤ 60) (h0 : ∀ c, c ∈ asks → 0 ≤ c) (hr : RowP asks row) : Fit t asks row := by
  refine ⟨hl, hs, by have := rowP_len hr; omega, ?_, rowGo_of hr fun d hd => (mem_asked.mp (hr.m d hd).1).2.1⟩
  unfold areAsks
  rw [hl]
  simp only [Bool.and_eq_true, List.all_eq_true, List.mem_map, decide_eq_true_eq]
  refine ⟨trivial, ?_⟩
  rintro b ⟨c, hc, e⟩
  subst e
  exact decide_eq_true (h0 c hc)
end Tk
set_option Elab.async false
set_option linter.all false
set_option maxRecDepth 100000
set_option maxHeartbeats 4000000
namespace Tk
open Td Tp L2
theorem fok_sub {L : Int} {fs gs : List (Int × Int)} (h : FOk L 0 fs) (hs : gs.Sublist fs) : FOk L 0 gs := by
  rw [fok_iff] at h ⊢
  exact ⟨fun d hd => h.1 d (hs.subset hd), h.2.sublist hs⟩
theorem cutT {T : Type} {xs : List T} {i : Int} (h0 : 0 ≤ i) (h1 : i ≤ xs.length) : cutL xs none (some i) = xs.take i.toNat := by
  obtain ⟨n, rfl⟩ : ∃ n : Nat, i = (n : Int) := ⟨i.toNat, by omega⟩
  rw [cut_take (by omega), Int.toNat_natCast]
theorem cutD {T : Type} {xs : List T} {i : Int} (h0 : 0 ≤ i) (h1 : i ≤ xs.length) : cutL xs (some i) none = xs.drop i.toNat := by
  obtain ⟨n, rfl⟩ : ∃ n : Nat, i = (n : Int) := ⟨i.toNat, by omega⟩
  unfold cutL
  rw [HT.sIx_none, HT.sIx_nat, Int.toNat_natCast, Nat.min_eq_left (by omega), List.take_of_length_le (by rw [List.length_drop]; omega)]
theorem eqTape_eq (a b : TapeV) : m_Tape_DeqD (a, b) = Td.ret (decide (a = b)) := by
  unfold m_Tape_DeqD o_Tape_DeqD
  simp only [bnd_assoc, bnd_ret, if_true]
  rw [((ed_int.P ed_int).TL).eqD (by decide)]
  have : (decide (a = b)) = (decide (a.1 = b.1) && decide (a.2 = b.2)) := by
    rw [← Bool.decide_and]
    exact decide_eq_decide.mpr Prod.ext_iff
  rw [this, and_ret, bnd_ret, runB_rt]
/-- tapes that may be made -/
structure Tp_ (t : TapeV) : Prop where
  f : FOk t.1 0 t.2
  l : 1 ≤ t.1
  n : t.2.length ≤ 61
theorem Tp_.z {t : TapeV} (h : Tp_ t) : t.2.length ≤ PySem.sizeLine := hz_small h.n (by omega)
theorem without_eq {t : TapeV} {i : Int} (h : Tp_ t) (h0 : 0 ≤ i) (h1 : i < t.2.length) : m_Tape_without (t, i) = Td.ret (t.1, t.2.take i.toNat ++ t.2.drop (i.toNat + 1)) := by
  unfold m_Tape_without o_Tape_without
  simp only [bnd_assoc, bnd_ret, decide_eq_true h0, decide_eq_true h1, if_true, Bool.not_true, Bool.false_eq_true, if_false]
  rw [cutT h0 (by omega), cutD (by omega) (by omega), List.append_nil, show (i + 1).toNat = i.toNat + 1 by omega]
  have hs : (t.2.take i.toNat ++ t.2.drop (i.toNat + 1)).Sublist t.2 := by
    have := List.Sublist.append (List.Sublist.refl (t.2.take i.toNat)) (List.drop_sublist_drop_left t.2 (show i.toNat ≤ i.toNat + 1 by omega))
    rwa [List.take_append_drop] at this
  rw [lenG_ok (Nat.le_trans hs.length_le h.z), bnd_ret, make_eq h.l (fok_sub h.f hs), runB_rt]
theorem Shp.tp {sh : Int × List (Int × Int)} (h : Shp 60 sh) : Tp_ sh := ⟨h.f, h.l, by have := h.m; omega⟩
end Tk
set_option Elab.async false
set_option linter.all false
set_option maxRecDepth 100000
set_option maxHeartbeats 4000000
namespace Tk
open Td Tp L2
theorem asc_head : ∀ {xs : List Int}, xs.Pairwise (· < ·) → ∀ {i}, i ∈ xs → xs.headD 0 ≤ i
  | x :: xs, h, i, hi => by
    rw [List.pairwise_cons] at h
    rcases List.mem_cons.mp hi with e | e
    · subst e; exact Int.le_refl _
    · have := h.1 i e
      show x ≤ i
      omega
theorem asc_last : ∀ {xs : List Int}, xs.Pairwise (· < ·) → ∀ {i}, i ∈ xs → i ≤ lastI xs
  | x :: xs, h, i, hi => by
    rw [List.pairwise_cons] at h
    cases hx : xs with
    | nil =>
      subst hx
      have : i = x := by simpa using hi
      subst this
      exact Int.le_refl _
    | cons y ys =>
      have e : lastI (x :: xs) = lastI xs := by
        unfold lastI
        rw [hx, List.getLast?_cons_cons]
      rw [← hx, e]
      rcases List.mem_cons.mp hi with e2 | e2
      · subst e2
        have hy : y ∈ xs := by rw [hx]; exact List.mem_cons_self ..
        have := asc_last h.2 hy
        have := h.1 y hy
        omega
      · exact asc_last h.2 e2
end Tk
set_option Elab.async false
set_option linter.all false
set_option maxRecDepth 100000
set_option maxHeartbeats 4000000
namespace Tk
open Td Tp L2
/-- the waits, file by file -/
theorem waits_at {t : TapeV} {asks : List Int} {row : List (Int × Int)} (h : Fit t asks row) (ht : Lies t) {i : Nat} (hi : i < asks.length) :
    (waitsL t asks row)[i]? = some (if (i : Int) ∈ askedL asks then ledLk t (row ++ [((askedL asks).headD 0, lastI (askedL asks))]) t.1 0 0 i else none) := by
  have hp := h.rp
  by_cases he : askedL asks = []
  · have hn : ¬ ((i : Int) ∈ askedL asks) := by rw [he]; simp
    rw [if_neg hn]
    unfold waitsL wayL
    rw [he]
    show (asks.map fun _ => (none : Option (Int × Int)))[i]? = some none
    rw [List.getElem?_map, List.getElem?_eq_getElem hi]
    rfl
  · have hm : (askedL asks).headD 0 ∈ askedL asks := by
      cases h : askedL asks with
      | nil => exact absurd h he
      | cons a l => exact List.mem_cons_self ..
    rw [waits_get h he hi]
    by_cases hia : (i : Int) ∈ askedL asks
    · have hh := asked_nn _ hm
      have D : Dts t ((askedL asks).headD 0) row := ⟨fun d hd => by
        obtain ⟨a, b, c, e⟩ := hp.m d hd
        exact ⟨e, c, by rw [h.len]; exact (asked_nn _ b).2⟩, hp.d⟩
      have bL : ∀ x, x ∈ askedL asks → bg t x ≤ t.1 := fun x hx => by
        have := asked_nn x hx
        have := ht.at_ this.1 (by rw [h.len]; exact this.2)
        omega
      rw [lk_led ht hh.1 (by rw [h.len]; exact hh.2) _ D (fun d hd => bL _ (hp.m d hd).1) (bL _ hm) hia ⟨asc_head (asked_asc asks) hia, asc_last (asked_asc asks) hia⟩, if_pos hia]
      cases ledLk t (row ++ [((askedL asks).headD 0, lastI (askedL asks))]) t.1 0 0 i with
      | none => rfl
      | some w => rfl
    · rw [if_neg hia, lk_none t _ _ _ _ _ fun x hx hix => hia (fr_mem (u := askedL asks) (row := row) (run := x.2) (by
        unfold trsG at hx
        exact (List.of_mem_zip (a := x.1) (b := x.2) hx).2) hix)]
theorem waits_len {t : TapeV} {asks : List Int} {row : List (Int × Int)} : (waitsL t asks row).length = asks.length := by
  unfold waitsL
  have : ∀ (ys : List (Int × Int)) (l : Fd × Int × Int), (ys.foldl (wStep t (fr (askedL asks) row)) l).1.length = l.1.length := by
    intro ys
    induction ys with
    | nil => intro l; rfl
    | cons y ys ih => intro l; rw [List.foldl_cons, ih, wStep_len]
  rw [this, List.length_map]
end Tk
set_option Elab.async false
set_option linter.all false
set_option maxRecDepth 100000
set_option maxHeartbeats 4000000
namespace Tk
open Td Tp L2 PySem
theorem lenK {S T : Type} {l : List T} (k : Nat) (h : l.length = k) (hk : k ≤ 100 := by decide) : (lenG l : SM S Unit) = Td.ret () := lenG_ok (hz_small (k := 100) (by omega) (by omega))
end Tk
set_option Elab.async false
set_option linter.all false
set_option maxRecDepth 100000
set_option maxHeartbeats 4000000
namespace Tk
open Td Tp L2 PySem
theorem hw_eq {T : Type} {m : SM Unit T} {v : T} (h : Hw m () fun a _ => a = v) : m = Td.ret v := by
  obtain ⟨a, s, e, ha⟩ := hw_ok h
  subst ha
  funext u
  rw [show u = () from rfl, e]
  rfl
theorem RowP.u {asks : List Int} {row : List (Int × Int)} (h : RowP asks row) : RowU (askedL asks) row := ⟨fun d hd => ⟨(h.m d hd).1, (h.m d hd).2.2.1⟩, h.d⟩
end Tk
set_option Elab.async false
set_option linter.all false
set_option maxRecDepth 100000
set_option maxHeartbeats 4000000
namespace Tk
open Td Tp L2 PySem
theorem lead_all {t : TapeV} : ∀ (gs : List Int) (h : Hd), h.fd.length = t.2.length → (gs.foldl (Hd.lead t) h).fd.length = t.2.length
  | [], h, hl => hl
  | g :: gs, h, hl => lead_all gs _ (by rw [Hd.lead_len]; exact hl)
end Tk
set_option Elab.async false
set_option linter.all false
set_option maxRecDepth 100000
set_option maxHeartbeats 4000000
namespace Tk
open Td Tp L2 PySem
theorem way_stops {t : TapeV} {asks : List Int} {row : List (Int × Int)} (h : askedL asks ≠ []) : wayL t asks row = stopsOf t (row ++ [((askedL asks).headD 0, lastI (lastR (fr (askedL asks) row)))]) := by
  unfold wayL stopsOf
  rw [if_neg (by cases e : askedL asks with
    | nil => exact absurd e h
    | cons a as => simp), List.flatMap_append]
  rfl
theorem way_nil {t : TapeV} {asks : List Int} {row : List (Int × Int)} (h : askedL asks = []) : wayL t asks row = [t.1] := by
  unfold wayL
  rw [h]
  rfl
theorem waits_nil {t : TapeV} {asks : List Int} {row : List (Int × Int)} (h : Fit t asks row) (ht : Lies t) {i : Nat} (hi : i < asks.length) (hn : (i : Int) ∉ askedL asks) : (waitsL t asks row)[i]? = some none := by
  rw [waits_at h ht hi, if_neg hn]
theorem walk_get {t : TapeV} {asks : List Int} {row : List (Int × Int)} (h : Fit t asks row) (hr : RowP asks row) (ht : Lies t) {i : Nat} (hi : (i : Int) ∈ askedL asks) :
    ((wayL t asks row).foldl (Hd.lead t) (Hd.start t)).fd[i]? = (waitsL t asks row)[i]? := by
  have hne : askedL asks ≠ [] := List.ne_nil_of_mem hi
  have hlen := h.len
  have hx := asked_nn _ hi
  have hu := asked_asc asks
  obtain ⟨m1, m2⟩ := last_mem (row := row) hne (fun d hd => (hr.m d hd).2.2.2)
  have h0 : (askedL asks).headD 0 ∈ askedL asks := by
    cases e : askedL asks with
    | nil => exact absurd e hne
    | cons a as => exact List.mem_cons_self ..
  have ha := asked_nn _ h0
  have hz := asked_nn _ m2
  have hmem : (askedL asks).headD 0 ∈ lastR (fr (askedL asks) row) := by
    unfold lastR
    rw [List.getLast?_eq_some_getLast (fr_ne _ _)]
    exact fr_last h0 fun d hd => (hr.m d hd).2.2.2
  have hml := asc_head hu m2
  have hin : i < t.2.length := by omega
  rw [way_stops hne, led_walk ht (h := Hd.start t) (k := 0) (o := none) ?_ ?_ ?_ rfl (by unfold Hd.start; simp) (by unfold Hd.start; rw [List.getElem?_map, List.getElem?_eq_getElem hin]; rfl), waits_at h ht (by omega), if_pos hi]
  · show some (ledLk t _ t.1 0 0 i) = some (ledLk t _ t.1 0 0 i)
    congr 1
    have key : ∀ (row : List (Int × Int)) (u : List Int) (a l l' p s : Int) (k : Nat), (i : Int) ∈ u → a ≤ i → i ≤ l → lastI (lastR (fr u row)) = l' → u.Pairwise (· < ·) → (∀ d, d ∈ row → a < d.1) → a ∈ u → ledLk t (row ++ [(a, l')]) p s k i = ledLk t (row ++ [(a, l)]) p s k i := by
      intro row
      induction row with
      | nil =>
        intro u a l l' p s k hi ha hl e hu _ _
        show ledLk t [_] _ _ _ _ = ledLk t [_] _ _ _ _
        have e' : lastI u = l' := e
        rw [ledLk, if_pos (inD_iff.mpr ⟨ha, by rw [← e']; exact asc_lst hu hi⟩), ledLk, if_pos (inD_iff.mpr ⟨ha, hl⟩)]
      | cons d r ih =>
        intro u a l l' p s k hi ha hl e hu had hau
        show ledLk t (d :: (r ++ _)) _ _ _ _ = ledLk t (d :: (r ++ _)) _ _ _ _
        rw [ledLk, ledLk]
        by_cases c : inD d.1 d.2 i = true
        · rw [if_pos c, if_pos c]
        · rw [if_neg c, if_neg c]
          refine ih (u.filter fun x => !inD d.1 d.2 x) a l l' _ _ _ (List.mem_filter.mpr ⟨hi, by simpa using c⟩) ha hl ?_ (asc_filter hu) (fun x hx => had x (List.mem_cons_of_mem _ hx)) (List.mem_filter.mpr ⟨hau, ?_⟩)
          · rw [← e]
            show _ = lastI (lastR (_ :: fr _ r))
            unfold lastR
            rw [List.getLast?_cons, List.getLast?_eq_some_getLast (fr_ne _ _)]
            rfl
          · have := had d (List.mem_cons_self ..)
            cases c2 : inD d.1 d.2 a with
            | false => rfl
            | true => have := inD_iff.mp c2; omega
    exact key row (askedL asks) _ _ _ _ _ _ hi (asc_head hu hi) (asc_lst hu hi) rfl hu (fun d hd => (hr.m d hd).2.2.2) h0
  · intro d hd
    rcases List.mem_append.mp hd with hd | hd
    · have z := hr.m d hd
      have z1 := asked_nn _ z.1
      have z2 := asked_nn _ z.2.1
      exact ⟨z1.1, z.2.2.1, by omega⟩
    · rw [List.mem_singleton] at hd
      subst hd
      exact ⟨ha.1, hml, by dsimp only; omega⟩
  · rw [List.pairwise_append]
    refine ⟨hr.d, by simp, fun d hd b hb => ?_⟩
    rw [List.mem_singleton] at hb
    subst hb
    exact (hr.m d hd).2.2.2
  · intro d hd
    have hd' : 0 ≤ d.1 ∧ d.1 < t.2.length := by
      cases row with
      | nil =>
        cases hd
        exact ⟨ha.1, by dsimp only; omega⟩
      | cons c r =>
        cases hd
        have := asked_nn _ (hr.m d (List.mem_cons_self ..)).1
        omega
    have := ht.at_ hd'.1 hd'.2
    show bg t d.1 < t.1
    omega
end Tk
set_option Elab.async false
set_option linter.all false
set_option maxRecDepth 100000
set_option maxHeartbeats 4000000
namespace Tp
open Td L2 PySem He
section
variable {S T U : Type}
end
section
variable {U V : Type}
end
end Tp
namespace Tk
open PySem PySem.Spec PyProof.Rows L2 He Td Tp
theorem tfl (t : TapeV) : m_Tape_files t = Td.ret t.2 := by
  unfold m_Tape_files o_Tape_files
  simp only [bnd_assoc, bnd_ret, runB_rt]
end Tk
set_option Elab.async false
set_option linter.all false
set_option maxRecDepth 100000
set_option maxHeartbeats 4000000
namespace Tk
open Td Tp L2 PySem
theorem frL_fold : ∀ (row : List (Int × Int)) (u : List Int), row.foldl (fun u d => u.filter fun x => !inD d.1 d.2 x) u = lastR (fr u row)
  | [], u => rfl
  | d :: r, u => by
    rw [List.foldl_cons, frL_fold r]
    show _ = lastR (_ :: fr _ r)
    unfold lastR
    rw [List.getLast?_cons, List.getLast?_eq_some_getLast (fr_ne _ _)]
    rfl
/-- left and right by turns -/
theorem alt_stops {t : Tape} (ht : Lies t) : ∀ {row : List (Int × Int)} {p : Int}, (∀ d, d ∈ row → 0 ≤ d.1 ∧ d.1 ≤ d.2 ∧ d.2 < t.2.length) → row.Pairwise (fun x y => y.1 < x.1) → (∀ d, row.head? = some d → bg t d.1 < p) →
    ∀ {i : Nat} {x y : Int}, (p :: stopsOf t row)[i]? = some x → (stopsOf t row)[i]? = some y → decide (y < x) = decide ((i : Int) % 2 = 0) ∧ x ≠ y
  | [], p, _, _, _, i, x, y, _, hy => by cases hy
  | d :: r, p, hm, hd, hp, i, x, y, hx, hy => by
    have hd0 := hm d (List.mem_cons_self ..)
    have hdc := List.pairwise_cons.mp hd
    have hb := hp d rfl
    have hlt : bg t d.1 < en t d.2 := by
      have h1 := ht.at_ (i := d.1) hd0.1 (by omega)
      have h2 := ht.at_ (i := d.2) (by omega) hd0.2.2
      by_cases e : d.1 = d.2
      · rw [← e]; omega
      · have := ht.lt (i := d.1) (j := d.2) hd0.1 (by omega) hd0.2.2
        omega
    have es : stopsOf t (d :: r) = bg t d.1 :: en t d.2 :: stopsOf t r := rfl
    rw [es] at hx hy
    match i, hx, hy with
    | 0, hx, hy =>
      cases hx
      cases hy
      exact ⟨by rw [decide_eq_true hb]; rfl, by omega⟩
    | 1, hx, hy =>
      cases hx
      cases hy
      exact ⟨by rw [decide_eq_false (by omega)]; rfl, by omega⟩
    | i + 2, hx, hy =>
      have z := alt_stops ht (row := r) (p := en t d.2) (fun x hx => hm x (List.mem_cons_of_mem _ hx)) hdc.2 (fun c hc => by
        have hc' := List.mem_of_mem_head? hc
        have := hdc.1 c hc'
        have hcm := hm c (List.mem_cons_of_mem _ hc')
        have h1 := ht.lt (i := c.1) (j := d.1) hcm.1 this (by omega)
        have h2 := ht.at_ (i := c.1) hcm.1 (by omega)
        omega) (i := i) (x := x) (y := y) (by simpa using hx) (by simpa using hy)
      refine ⟨z.1.trans (decide_eq_decide.mpr ?_), z.2⟩
      push_cast
      omega
end Tk
set_option Elab.async false
set_option linter.all false
set_option maxRecDepth 100000
set_option maxHeartbeats 4000000
namespace Tk
open Td Tp L2 PySem
theorem hw_coin {u : Int} {n : Nat} {s : List Int} (h0 : 0 < u) (hu : u < 2 ^ 200) (hn : n < 2 ^ 100) (hg : Gd n s) : Hw (m__law_coin u) s fun v s' => (0 ≤ v ∧ v < u) ∧ Gd (n + 1) s' := by
  obtain ⟨a, b, c, e, ha, ⟨hb0, hb1⟩, hc0, hc1⟩ := hg
  subst e
  have cu : L2.CDivW a u := ⟨h0, by have := log2_lt (by omega : 0 ≤ u) hu (by decide); omega⟩
  unfold m__law_coin o__law_coin
  simp only [bnd_assoc, bnd_ret, runB_bnd]
  refine hw_bnd (hw_ix0 ?_)
  by_cases h1 : decide (0 < a) = true
  · simp only [h1, if_true, esc_bnd, runB_bnd, bnd_assoc, bnd_ret, esc_ret, runB_rt]
    refine hw_bnd (hw_ix0 ?_)
    rw [modM_ok h0, bnd_ret]
    refine hw_bnd (hw_ix0 ?_)
    rw [divWM_ok cu, bnd_ret]
    refine hw_bnd (hw_set0 (hw_ret ⟨⟨Int.emod_nonneg _ (by omega), Int.emod_lt_of_pos _ h0⟩, a / u, b, c, rfl, Int.ediv_nonneg ha (by omega), ⟨hb0, hb1⟩, hc0, by push_cast; omega⟩))
  · simp only [h1, if_false, runB_bnd, bnd_assoc, bnd_ret, runB_rt, Bool.false_eq_true]
    refine hw_bnd (hw_ix2 (hw_bnd (hw_set2 ?_)))
    refine hw_bnd (hw_ix1 (hw_bnd (hw_ix2 ?_)))
    have hN : (n : Int) < 2 ^ 100 := by exact_mod_cast hn
    have hc2 : c + 1 ≤ 2 ^ 100 := by omega
    have lc : (c + 1).natAbs.log2 < 101 := log2_lt (by omega) (by omega) (by decide)
    have cm : ∀ k : Int, 0 ≤ k → k < 2 ^ 40 → L2.CMulW k (c + 1) := fun k k0 k1 => by
      have := log2_lt k0 k1 (by decide)
      unfold L2.CMulW
      omega
    rw [mulWM_ok (cm _ (by decide) (by decide)), bnd_ret]
    have x0 : (0 : Int) ≤ b + 2038074743 * (c + 1) := by omega
    have x1 : b + 2038074743 * (c + 1) < 2 ^ 200 := by omega
    rw [powM_ok ⟨x0, by decide, by have := log2_lt x0 x1 (by decide); show _ * 3 ≤ _; omega⟩, bnd_ret, powM_ok (by decide), bnd_ret, modM_ok (by decide), bnd_ret]
    refine hw_bnd (hw_ix2 ?_)
    rw [mulWM_ok (cm _ (by decide) (by decide)), bnd_ret]
    have y0 := Int.emod_nonneg ((b + 2038074743 * (c + 1)) ^ (3 : Int).toNat) (show ((10 : Int) ^ (25 : Int).toNat + 13) ≠ 0 by decide)
    have y1 := Int.emod_lt_of_pos ((b + 2038074743 * (c + 1)) ^ (3 : Int).toNat) (show 0 < ((10 : Int) ^ (25 : Int).toNat + 13) by decide)
    generalize (b + 2038074743 * (c + 1)) ^ (3 : Int).toNat % ((10 : Int) ^ (25 : Int).toNat + 13) = y at *
    have y2 : y < 2 ^ 150 := Int.lt_trans y1 (by decide)
    have z0 : 0 ≤ y + 982451653 * (c + 1) := by omega
    have z1 : y + 982451653 * (c + 1) < 2 ^ 200 := by omega
    rw [powM_ok ⟨z0, by decide, by have := log2_lt z0 z1 (by decide); show _ * 2 ≤ _; omega⟩, bnd_ret, powM_ok (by decide), bnd_ret, modM_ok (by decide), bnd_ret, divWM_ok ⟨by decide, by decide⟩, bnd_ret, modM_ok h0, bnd_ret]
    exact hw_ret ⟨⟨Int.emod_nonneg _ (by omega), Int.emod_lt_of_pos _ h0⟩, a, b, c + 1, rfl, ha, ⟨hb0, hb1⟩, by omega, by push_cast; omega⟩
theorem coin_step {U : Type} {u : Int} {n : Nat} {s : List Int} {k : Int → SM (List Int) U} {P : U → List Int → Prop} (h0 : 0 < u) (hu : u ≤ 2 ^ 190) (hn : n ≤ 100000) (hg : Gd n s) (h : ∀ v s', 0 ≤ v → v < u → Gd (n + 1) s' → Hw (k v) s' P) : Hw (bnd (m__law_coin u) k) s P := by
  have hu' : u < 2 ^ 200 := Int.lt_of_le_of_lt hu (by decide)
  have hn' : n < 2 ^ 100 := Nat.lt_of_le_of_lt hn (by decide)
  exact hw_seq (hw_coin h0 hu' hn' hg) fun v s' q => h v s' q.1.1 q.1.2 q.2
theorem hw_purse {ns : List Int} {r : Int} (h0 : 0 ≤ r) : Hw (m__law_purse (ns, r)) () fun s _ => Gd 0 s := by
  unfold m__law_purse o__law_purse
  simp only [bnd_assoc, bnd_ret, runB_bnd, bnd_ite]
  have main : ∀ cell : Int, Hw (bnd (powM 10 18) fun a631 => bnd (mulM cell 30011) fun a608 => bnd (mulM r 7368787) fun a609 => bnd (powM 10 24) fun a618 => bnd (modM (a608 + a609 + 104729) (a618 + 7)) fun a572 =>
      bnd (lenG [if (if cell < 0 then -cell else cell) - a631 > 0 then (if cell < 0 then -cell else cell) - a631 else 0, a572, 0]) fun _ => runB (Td.ret (Fl.rt [if (if cell < 0 then -cell else cell) - a631 > 0 then (if cell < 0 then -cell else cell) - a631 else 0, a572, 0]) : SM Unit (Fl Empty Empty (List Int)))) () fun s _ => Gd 0 s := by
    intro cell
    rw [powM_ok (by decide), bnd_ret, mulM_ok (.inr (by decide)), bnd_ret, mulM_ok (.inr (by decide)), bnd_ret, powM_ok (by decide), bnd_ret, modM_ok (by decide), bnd_ret, lenG, grd_t (by simp [PySem.sizeLine_eq]), bnd_ret, runB_rt]
    refine hw_ret ⟨_, _, _, rfl, ?_, ⟨Int.emod_nonneg _ (by decide), Int.lt_trans (Int.emod_lt_of_pos _ (by decide)) (by decide)⟩, by decide, by decide⟩
    split <;> omega
  by_cases hk : decide (r < (ns.length : Int)) = true
  · have hlt : r < (ns.length : Int) := of_decide_eq_true hk
    simp only [hk, if_true]
    rw [ixM_ok (atI_nn h0 hlt), bnd_ret]
    simp only [runB_bnd]
    exact main _
  · simp only [hk, if_false, Bool.false_eq_true, runB_bnd]
    exact main 0
theorem hw_dtape {n : Nat} {s : List Int} (hn : n ≤ 50000) (hg : Gd n s) : Hw (m__law_drawn_tape (8, 6)) s fun sh s' => Shp 60 sh ∧ Gd (n + 40) s' := by
  unfold m__law_drawn_tape o__law_drawn_tape
  simp only [bnd_assoc, bnd_ret, runB_bnd]
  refine coin_step (by omega) (by omega) (by omega) hg fun p0 s hp0 hp1 hg => ?_
  rw [len2, bnd_ret]
  refine coin_step (by omega) (by omega) (by omega) hg fun w s w0 w1 hg => ?_
  rw [ix2 w0 w1, bnd_ret, len0, bnd_ret]
  refine coin_step (by omega) (by omega) (by omega) hg fun many s hm0 hm1 hg => ?_
  rw [rngG_ok (by omega), bnd_ret, upto_up]
  obtain ⟨k, hk⟩ : ∃ k : Nat, many = (k : Int) := ⟨many.toNat, by omega⟩
  subst hk
  rw [show (Int.toNat (k : Int)) = k by omega]
  refine hw_runB (hw_lp ?_)
  refine hw_mono (hw_forN (fun j (l : List (Int × Int) × Int) s => FOk l.2 0 l.1 ∧ l.1.length = j ∧ 0 ≤ l.2 ∧ l.2 ≤ 3 + 60 * j ∧ Gd (n + 3 + 4 * j) s) (upI k) ⟨trivial, rfl, by dsimp only; split <;> omega, by dsimp only; split <;> omega, hg⟩ fun j a l s ha hj => ?_) fun e s q => ?_
  · obtain ⟨f1, f2, f3, f4, hg⟩ := hj
    have hjk : j < k := by
      have := (List.getElem?_eq_some_iff.mp ha).1
      rwa [upI_len] at this
    refine coin_step (by omega) (by omega) (by omega) hg fun z s z0 z1 hg => ?_
    rw [pushM_ok (hz_small (n := l.1.length + 1) (k := 100) (by omega) (by omega)), bnd_ret]
    refine coin_step (by omega) (by omega) (by omega) hg fun g s g0 g1 hg => ?_
    rw [len2, bnd_ret]
    refine coin_step (by omega) (by omega) (by omega) hg fun b s b0 b1 hg => ?_
    rw [ix2 b0 b1, bnd_ret]
    refine hw_ret ⟨fok_snoc (d := (l.2, l.2 + (1 + z))) (Int.le_refl _) (by dsimp only; omega) (by dsimp only; split <;> omega) f3 f1, by rw [List.length_append, f2]; rfl, by dsimp only; split <;> omega, by dsimp only; push_cast; split <;> omega, ?_⟩
    exact hg.le (by omega)
  · cases e with
    | rt b => exact q.elim
    | dn l =>
      obtain ⟨f1, f2, f3, f4, hg⟩ := q
      rw [upI_len] at f2 f4 hg
      refine coin_step (by omega) (by omega) (by omega) hg fun v s v0 v1 hg => ?_
      refine hw_ret ⟨⟨fok_mono (by dsimp only; split <;> omega) f1, by dsimp only; omega, by dsimp only; split <;> omega, by dsimp only; split <;> omega⟩, hg.le (by omega)⟩
theorem hw_gtape {n : Nat} {s : List Int} (hn : n ≤ 50000) (hg : Gd n s) : Hw (m__law_great_tape ()) s fun sh s' => Shp 60 sh ∧ Gd (n + 130) s' := by
  unfold m__law_great_tape o__law_great_tape
  simp only [bnd_assoc, bnd_ret, runB_bnd]
  rw [powM_ok (by decide), bnd_ret]
  refine coin_step (by decide) (by decide) (by omega) hg fun p0 s hp0 hp1 hg => ?_
  have hp2 : p0 < 10000 := hp1
  rw [len0, bnd_ret]
  refine coin_step (by omega) (by omega) (by omega) hg fun many s hm0 hm1 hg => ?_
  rw [rngG_ok (by omega), bnd_ret, upto_up]
  obtain ⟨k, hk⟩ : ∃ k : Nat, many = (k : Int) := ⟨many.toNat, by omega⟩
  subst hk
  rw [show (Int.toNat (k : Int)) = k by omega]
  refine hw_runB (hw_lp ?_)
  refine hw_mono (hw_forN (fun j (l : List (Int × Int) × Int) s => FOk l.2 0 l.1 ∧ l.1.length = j ∧ 0 ≤ l.2 ∧ l.2 ≤ 10000 + 13000 * j ∧ Gd (n + 2 + 2 * j) s) (upI k) ⟨trivial, rfl, hp0, by dsimp only; omega, hg⟩ fun j a l s ha hj => ?_) fun e s q => ?_
  · obtain ⟨f1, f2, f3, f4, hg⟩ := hj
    have hjk : j < k := by
      have := (List.getElem?_eq_some_iff.mp ha).1
      rwa [upI_len] at this
    refine coin_step (by omega) (by omega) (by omega) hg fun z s z0 z1 hg => ?_
    rw [pushM_ok (hz_small (n := l.1.length + 1) (k := 100) (by omega) (by omega)), bnd_ret]
    refine coin_step (by omega) (by omega) (by omega) hg fun g s g0 g1 hg => ?_
    refine hw_ret ⟨fok_snoc (d := (l.2, l.2 + (1 + z))) (Int.le_refl _) (by dsimp only; omega) (by dsimp only; omega) f3 f1, by rw [List.length_append, f2]; rfl, by dsimp only; omega, by dsimp only; push_cast; omega, ?_⟩
    exact hg.le (by omega)
  · cases e with
    | rt b => exact q.elim
    | dn l =>
      obtain ⟨f1, f2, f3, f4, hg⟩ := q
      rw [upI_len] at f2 f4 hg
      refine coin_step (by omega) (by omega) (by omega) hg fun v s v0 v1 hg => ?_
      refine hw_ret ⟨⟨fok_mono (by dsimp only; split <;> omega) f1, by dsimp only; omega, by dsimp only; split <;> omega, by dsimp only; split <;> omega⟩, hg.le (by omega)⟩
theorem hw_dasks {n : Nat} {s : List Int} {sh : Int × List (Int × Int)} (hm : sh.2.length ≤ 60) (hn : n ≤ 50000) (hg : Gd n s) : Hw (m__law_drawn_asks (sh, 20)) s fun cs s' => (cs.length = sh.2.length ∧ ∀ c, c ∈ cs → 0 ≤ c ∧ c ≤ 20) ∧ Gd (n + 200) s' := by
  unfold m__law_drawn_asks o__law_drawn_asks
  simp only [bnd_assoc, bnd_ret]
  rw [len0, bnd_ret]
  refine hw_runB (hw_lp ?_)
  refine hw_mono (hw_forN (fun j (l : List Int) s => (l.length = j ∧ ∀ c, c ∈ l → 0 ≤ c ∧ c ≤ 20) ∧ Gd (n + 2 * j) s) sh.2 ⟨⟨rfl, fun c hc => by cases hc⟩, hg⟩ fun j a l s ha hj => ?_) fun e s q => ?_
  · obtain ⟨⟨f1, f2⟩, hg⟩ := hj
    have hjk := (List.getElem?_eq_some_iff.mp ha).1
    refine coin_step (by omega) (by omega) (by omega) hg fun v s v0 v1 hg => ?_
    rw [len3, bnd_ret]
    refine coin_step (by omega) (by omega) (by omega) hg fun b s b0 b1 hg => ?_
    rw [ix3 b0 b1, bnd_ret, pushM_ok (hz_small (n := l.length + 1) (k := 100) (by omega) (by omega)), bnd_ret]
    refine hw_ret ⟨⟨by rw [List.length_append, f1]; rfl, fun c hc => ?_⟩, hg.le (by omega)⟩
    rcases List.mem_append.mp hc with hc | hc
    · exact f2 c hc
    · rw [List.mem_singleton] at hc
      subst hc
      repeat' split
      all_goals omega
  · cases e with
    | rt b => exact q.elim
    | dn l =>
      obtain ⟨f, hg⟩ := q
      exact hw_ret ⟨f, hg.le (by omega)⟩
theorem caskd_eq {asks : List Int} (h : asks.length ≤ PySem.sizeLine) : m__law_asked asks = Td.ret (askedL asks) := by
  unfold m__law_asked o__law_asked
  simp only [bnd_assoc, bnd_ret, lcIt_ret]
  rw [lcM_ret (fun (x : Int × Int) => if decide (0 < x.2) = true then some x.1 else none) _ _ (fun x _ => rfl) (by rw [enum_len]; simpa using h), bnd_ret, runB_rt, List.nil_append]
  unfold askedL
  simp only [decide_eq_true_eq]
theorem hw_drow {n : Nat} {s : List Int} {asks : List Int} (hm : asks.length ≤ 60) (hn : n ≤ 50000) (hg : Gd n s) : Hw (m__law_drawn_row asks) s fun row s' => RowP asks row ∧ Gd (n + 200) s' := by
  have hz : asks.length ≤ PySem.sizeLine := hz_small hm (by omega)
  have hal := asked_len (asks := asks)
  unfold m__law_drawn_row o__law_drawn_row
  simp only [bnd_assoc, bnd_ret, caskd_eq hz, lft_ret]
  rw [len0, bnd_ret]
  rw [rngG_ok (by omega), bnd_ret, rngG_ok (by omega), bnd_ret]
  refine hw_runB (hw_lp ?_)
  have hdl : (dnto (((askedL asks).length : Int) - 1) (((askedL asks).length : Int) - 1 - 0).toNat).length = (((askedL asks).length : Int) - 1 - 0).toNat := by unfold dnto; simp
  refine hw_mono (hw_forN (fun j (l : List (Int × Int)) s => (RowP asks l ∧ (∀ d, d ∈ l → ∃ r : Int, ((askedL asks).length : Int) - j ≤ r ∧ r < (askedL asks).length ∧ d.1 = (askedL asks).getD r.toNat 0) ∧ l.length ≤ j) ∧ Gd (n + 2 * j) s) _ ⟨⟨⟨fun d hd => (by cases hd), .nil⟩, fun d hd => (by cases hd), by simp⟩, hg⟩ fun j a l s ha hj => ?_) fun e s q => ?_
  · obtain ⟨⟨f1, f2, f3⟩, hg⟩ := hj
    obtain ⟨hj1, ea⟩ := dnto_get ha
    have hj2 : (j : Int) < ((askedL asks).length : Int) - 1 := by omega
    refine coin_step (by omega) (by omega) (by omega) hg fun v s v0 v1 hg => ?_
    refine hw_thn (hw_ite (fun _ => ?_) fun _ => ?_)
    · refine coin_step (by omega) (by omega) (by omega) hg fun x s m0 m1 hg => ?_
      rw [ixM_get 0 (by omega) (by omega), bnd_ret, ixM_get 0 (by omega) (by omega), bnd_ret, pushM_ok (hz_small (n := l.length + 1) (k := 100) (by omega) (by omega)), bnd_ret]
      refine hw_ret (hw_ret ⟨⟨⟨fun d hd => ?_, ?_⟩, fun d hd => ?_, by rw [List.length_append]; simp only [List.length_cons, List.length_nil]; omega⟩, hg.le (by omega)⟩)
      · rcases List.mem_append.mp hd with hd | hd
        · exact f1.m d hd
        · rw [List.mem_singleton] at hd
          subst hd
          refine ⟨asked_at (by omega) (by omega), asked_at (by omega) (by omega), ?_, by rw [headD_get]; exact asked_lt (by omega) (by omega) (by omega)⟩
          dsimp only
          by_cases e : x = 0
          · subst e; simp
          · have := asked_lt (asks := asks) (i := a) (j := a + x) (by omega) (by omega) (by omega)
            omega
      · rw [List.pairwise_append]
        refine ⟨f1.d, by simp, fun d hd b hb => ?_⟩
        rw [List.mem_singleton] at hb
        subst hb
        obtain ⟨r, r0, r1, er⟩ := f2 d hd
        rw [er]
        exact asked_lt (by omega) (by omega) r1
      · rcases List.mem_append.mp hd with hd | hd
        · obtain ⟨r, r0, r1, er⟩ := f2 d hd
          exact ⟨r, by push_cast; omega, r1, er⟩
        · rw [List.mem_singleton] at hd
          subst hd
          exact ⟨a, by push_cast; omega, by omega, rfl⟩
    · refine hw_ret (hw_ret ⟨⟨f1, fun d hd => ?_, by omega⟩, hg.le (by omega)⟩)
      obtain ⟨r, r0, r1, er⟩ := f2 d hd
      exact ⟨r, by push_cast; omega, r1, er⟩
  · cases e with
    | rt b => exact q.elim
    | dn l =>
      obtain ⟨⟨f1, f2, f3⟩, hg⟩ := q
      rw [hdl] at hg
      exact hw_ret ⟨f1, hg.le (by omega)⟩
end Tk
set_option Elab.async false
set_option linter.all false
set_option maxRecDepth 100000
set_option maxHeartbeats 4000000
namespace Tk
open Td Tp L2 PySem
theorem dig_in {c : Nat} (h : 48 ≤ c ∧ c ≤ 57) : decide (c ∈ ("0123456789" : Str).cps.toList) = true := by
  have e : ("0123456789" : Str).cps.toList = [48, 49, 50, 51, 52, 53, 54, 55, 56, 57] := by decide +kernel
  rw [e, decide_eq_true_eq]
  simp only [List.mem_cons, List.not_mem_nil, or_false]
  omega
theorem number_eq {i : Int} (h : 0 ≤ i) (h1 : i < 10 ^ 9) : m_number_in (istr i) = Td.ret (some i) := by
  obtain ⟨l0, l1⟩ := nT_len h h1
  obtain ⟨c, r, ec, k⟩ := nT_head h
  have hz : (istr i).length ≤ PySem.sizeLine := hz_small l1 (by omega)
  have ef : (fun x : Str => lcIt (Td.ret true : SM Unit Bool) (bnd (Td.ret x) fun a => bnd (Td.ret ("0123456789" : Str)) fun b => bnd (asM (oneC a)) fun c => Td.ret (decide (c ∈ b.cps.toList)))) = fun x => bnd (asM (oneC x)) fun c => Td.ret (some (decide (c ∈ ("0123456789" : Str).cps.toList))) := by
    funext x
    rw [bnd_ret, bnd_ret]
    unfold lcIt
    rw [bnd_ret, if_pos rfl, bnd_assoc]
    rfl
  have es : (lcM (fun x => lcIt (Td.ret true : SM Unit Bool) (bnd (Td.ret x) fun a => bnd (Td.ret ("0123456789" : Str)) fun b => bnd (asM (oneC a)) fun c => Td.ret (decide (c ∈ b.cps.toList)))) [] (Td.signs (istr i)) : SM Unit (List Bool)) = Td.ret ((Td.signs (istr i)).map fun _ => true) := by
    rw [ef, lcM_ret (fun _ => some true) _ _ (fun x hx => ?_) (by unfold Td.signs; rw [List.length_map]; show 0 + (TL.tl (istr i)).length ≤ _; rw [← TL.len_tl]; omega)]
    · rw [List.nil_append]
      congr 1
      exact congrFun (List.filterMap_eq_map' (f := fun _ : Str => true)) _
    · obtain ⟨d, hd, rfl⟩ := List.mem_map.mp hx
      have e1 : (asM (oneC (⟨#[d]⟩ : Str)) : SM Unit Nat) = Td.ret d := rfl
      rw [e1, bnd_ret, dig_in (nT_digit h hd)]
  unfold m_number_in o_number_in
  simp only [bnd_ret] at es
  simp only [bnd_assoc, bnd_ret]
  rw [grd_t hz, bnd_ret, decide_eq_true (by omega : (1 : Int) ≤ ((istr i).length : Int)), if_pos rfl, bnd_ret, decide_eq_true (by omega : ((istr i).length : Int) ≤ 9), Bool.not_true, if_neg (by simp), es, bnd_ret]
  have ea : ((Td.signs (istr i)).map fun _ => true).all id = true := by simp
  rw [ea, Bool.not_true, bnd_ret, if_neg (by simp)]
  unfold ixSM
  have e0 : (asM (L2.atI (istr i).cps.toList 0) : SM Unit Nat) = Td.ret c := by
    have : (istr i).cps.toList = c :: r := ec
    rw [this]
    unfold L2.atI L2.ixN
    rw [if_pos (Int.le_refl 0), if_pos (by simp)]
    rfl
  simp only [bnd_assoc]
  rw [grd_t hz, bnd_ret, e0, bnd_ret, bnd_ret]
  have ck : (if (!decide ((⟨#[c]⟩ : Str) = ("0" : Str))) = true then (Td.ret true : SM Unit Bool) else Td.ret (decide (istr i = ("0" : Str)))) = Td.ret true := by
    by_cases hc : (⟨#[c]⟩ : Str) = ("0" : Str)
    · have e48 : c = 48 := by
        have : TL.tl (⟨#[c]⟩ : Str) = TL.tl ("0" : Str) := by rw [hc]
        have e2 : TL.tl ("0" : Str) = [48] := by decide +kernel
        rw [e2] at this
        exact (List.cons.inj this).1
      have := k e48
      subst this
      rw [decide_eq_true hc, Bool.not_true, if_neg (by simp)]
      have : istr 0 = ("0" : Str) := by decide +kernel
      rw [decide_eq_true this]
    · rw [decide_eq_false hc, Bool.not_false, if_pos rfl]
  rw [ck, bnd_ret, if_pos rfl, grd_t (by omega), bnd_ret, nT_int h h1]
  rfl
theorem mark_len {m : Str} {s : Nat} (em : TL.tl m = [s]) : m.length = 1 := by rw [TL.len_tl, em]; rfl
theorem pair_eq {m : Str} {s : Nat} {d : Int × Int} (em : TL.tl m = [s]) (hk : s < 256) (hs : s < 48 ∨ 57 < s) (h0 : 0 ≤ d.1) (h1 : d.1 < 10 ^ 9) (h2 : 0 ≤ d.2) (h3 : d.2 < 10 ^ 9) : m_pair_in (pT m d, m) = Td.ret (some d) := by
  unfold m_pair_in o_pair_in
  simp only [bnd_assoc, bnd_ret]
  rw [splitM_ok (mark_len em) (by have := pT_len (mark_len em) h0 h1 h2 h3; omega), bnd_ret, split2 em hk hs h0 h2]
  rw [lcM_ret (fun x => (PySem.intText? x).map some) _ _ (fun x hx => ?_) (hz_small (n := _) (k := 2) (by simp) (by omega)), bnd_ret]
  · rw [List.nil_append]
    have : ([istr d.1, istr d.2].filterMap fun x => (PySem.intText? x).map some) = [some d.1, some d.2] := by
      simp only [List.filterMap_cons, List.filterMap_nil, nT_int h0 h1, nT_int h2 h3, Option.map_some]
    rw [this]
    rfl
  · rcases List.mem_cons.mp hx with e | hx
    · subst e
      rw [number_eq h0 h1, nT_int h0 h1, lft_ret, lcIt_t]
      rfl
    · rw [List.mem_singleton.mp hx, number_eq h2 h3, nT_int h2 h3, lft_ret, lcIt_t]
      rfl
/-- the text of a tape -/
def tTx (t : TapeV) : Str := Txt.join " " ((istr t.1 ++ ":") :: t.2.map (pT "-"))
def rTx (row : List (Int × Int)) : Str := if row = [] then "-" else Txt.join " " (row.map (pT "|"))
def aTx (asks : List Int) : Str := if asks = [] then "-" else Txt.join "," (asks.map istr)
theorem tl_sp : TL.tl (" " : Str) = [32] := by decide +kernel
theorem tl_dash : TL.tl ("-" : Str) = [45] := by decide +kernel
theorem tl_bar : TL.tl ("|" : Str) = [124] := by decide +kernel
theorem tl_com : TL.tl ("," : Str) = [44] := by decide +kernel
theorem tl_col : TL.tl (":" : Str) = [58] := by decide +kernel
/-- numbers below a bound, pairs of such -/
def Bd (d : Int × Int) : Prop := (0 ≤ d.1 ∧ d.1 < 10 ^ 9) ∧ 0 ≤ d.2 ∧ d.2 < 10 ^ 9
theorem grd_s {S : Type} {x : Str} {n : Nat} (h : x.length ≤ n) (hn : n ≤ 16777216) : (grd (x.length ≤ PySem.sizeLine) : SM S Unit) = Td.ret () := grd_t (hz_small h hn)
theorem cat3 {S : Type} {m : Str} (hm : m.length = 1) {d : Int × Int} (h : Bd d) : (bnd (grd (d.1.natAbs.log2 < 1920)) fun _ => bnd (grd ((Str.empty ++ istr d.1).length ≤ PySem.sizeLine)) fun _ => bnd (grd ((Str.empty ++ istr d.1 ++ m).length ≤ PySem.sizeLine)) fun _ => bnd (grd (d.2.natAbs.log2 < 1920)) fun _ => bnd (grd ((Str.empty ++ istr d.1 ++ m ++ istr d.2).length ≤ PySem.sizeLine)) fun _ => Td.ret (Str.empty ++ istr d.1 ++ m ++ istr d.2) : SM S Str) = Td.ret (pT m d) := by
  obtain ⟨⟨h0, h1⟩, h2, h3⟩ := h
  have a := nT_len h0 h1
  have b := nT_len h2 h3
  rw [istr_g h0 h1, bnd_ret, istr_g h2 h3, grd_s (n := 100) (by simp only [emp_app, len_app, hm]; omega) (by omega), bnd_ret, grd_s (n := 100) (by simp only [emp_app, len_app, hm]; omega) (by omega), bnd_ret, bnd_ret, grd_s (n := 100) (by simp only [emp_app, len_app, hm]; omega) (by omega), bnd_ret, emp_app]
  rfl
theorem pTs_len {m : Str} (hm : m.length = 1) {ds : List (Int × Int)} (h : ∀ d, d ∈ ds → Bd d) : ∀ y, y ∈ ds.map (pT m) → y.length ≤ 19 := fun y hy => by
  obtain ⟨d, hd, rfl⟩ := List.mem_map.mp hy
  have b := h d hd
  exact pT_len hm b.1.1 b.1.2 b.2.1 b.2.2
theorem tTs_len {t : TapeV} (hL : 0 ≤ t.1 ∧ t.1 < 10 ^ 9) (hb : ∀ d, d ∈ t.2 → Bd d) : ∀ y, y ∈ (istr t.1 ++ (":" : Str)) :: t.2.map (pT "-") → y.length ≤ 19 := fun y hy => by
  rcases List.mem_cons.mp hy with e | hy
  · subst e
    have a := nT_len hL.1 hL.2
    rw [len_app, mark_len tl_col]
    omega
  · exact pTs_len (mark_len tl_dash) hb y hy
theorem show_tape_eq {t : TapeV} (h : Tp_ t) (hL : 0 ≤ t.1 ∧ t.1 < 10 ^ 9) (hb : ∀ d, d ∈ t.2 → Bd d) : m_show_tape t = Td.ret (tTx t) := by
  have a := nT_len hL.1 hL.2
  have hn := h.n
  have lc : (":" : Str).length = 1 := mark_len tl_col
  unfold m_show_tape o_show_tape
  simp only [bnd_assoc, bnd_ret, tlen, tfl, lft_ret, nxc_ret]
  rw [istr_g hL.1 hL.2, bnd_ret, grd_s (n := 100) (by simp only [emp_app, len_app]; omega) (by omega), bnd_ret, grd_s (n := 100) (by simp only [emp_app, len_app, lc]; omega) (by omega), bnd_ret]
  rw [lcM_map (pT "-") _ (fun d hd => by rw [cat3 (mark_len tl_dash) (hb d hd), lcIt_t]) h.z, bnd_ret, emp_app, List.append_nil, lenG_ok (hz_small (k := 62) (by rw [List.length_cons, List.length_map]; omega) (by omega)), bnd_ret, joinM_ok (n := 62) (tTs_len hL hb) (by rw [List.length_cons, List.length_map]; omega) (mark_len tl_sp) (by omega), bnd_ret]
  rfl
theorem ltext_eq {t : TapeV} (h : Tp_ t) (hL : 0 ≤ t.1 ∧ t.1 < 10 ^ 9) (hb : ∀ d, d ∈ t.2 → Bd d) : m__law_tape_text t = Td.ret (tTx t) := by
  have a := nT_len hL.1 hL.2
  have hn := h.n
  have cS : ∀ {x y : Str}, x.length + y.length ≤ 100 → (catS x y : SM Unit Str) = Td.ret (x ++ y) := fun {x y} hxy => by
    unfold catS
    rw [grd_t (hz_small hxy (by omega)), bnd_ret]
  unfold m__law_tape_text o__law_tape_text
  simp only [bnd_assoc, bnd_ret]
  rw [istr_g hL.1 hL.2, bnd_ret, cS (by rw [mark_len tl_col]; omega), bnd_ret, lenG_ok (hz_small (k := 1) (Nat.le_refl _) (by omega)), bnd_ret]
  rw [forM_nx (fun l d => l ++ [pT "-" d]) t.2 _ fun ys d zs e => ?_]
  · have fe : ∀ (ds : List (Int × Int)) (l : List Str), ds.foldl (fun l d => l ++ [pT "-" d]) l = l ++ ds.map (pT "-") := by
      intro ds
      induction ds with
      | nil => intro l; simp
      | cons d r ih => intro l; rw [List.foldl_cons, ih, List.map_cons, List.append_assoc]; rfl
    rw [lpM_dn, fe, List.cons_append, List.nil_append, joinM_ok (n := 62) (tTs_len hL hb) (by rw [List.length_cons, List.length_map]; omega) (mark_len tl_sp) (by omega), bnd_ret]
    rfl
  · have hd : d ∈ t.2 := by rw [e]; simp
    obtain ⟨⟨h0, h1⟩, h2, h3⟩ := hb d hd
    have b := nT_len h0 h1
    have c := nT_len h2 h3
    have ll : (ys.foldl (fun l d => l ++ [pT "-" d]) [istr t.1 ++ (":" : Str)]).length = 1 + ys.length := by
      have fe : ∀ (ds : List (Int × Int)) (l : List Str), (ds.foldl (fun l d => l ++ [pT "-" d]) l).length = l.length + ds.length := by
        intro ds
        induction ds with
        | nil => intro l; rfl
        | cons d r ih => intro l; rw [List.foldl_cons, ih, List.length_append, List.length_cons]; simp only [List.length_cons, List.length_nil]; omega
      rw [fe]; rfl
    have lt : ys.length < t.2.length := by rw [e]; simp
    rw [istr_g h0 h1, bnd_ret, cS (by rw [mark_len tl_dash]; omega), bnd_ret, istr_g h2 h3, bnd_ret, cS (by rw [len_app, mark_len tl_dash]; omega), bnd_ret, pushM_ok (hz_small (n := _ + 1) (k := 100) (by rw [ll]; omega) (by omega)), bnd_ret]
    rfl
theorem show_row_eq {row : List (Int × Int)} (hn : row.length ≤ 61) (hb : ∀ d, d ∈ row → Bd d) : m_show_row row = Td.ret (rTx row) := by
  unfold m_show_row o_show_row
  simp only [bnd_assoc, bnd_ret]
  rw [lenG_ok (by simp), bnd_ret, neP_L, bnd_ret]
  by_cases hr : row = []
  · subst hr
    rfl
  · rw [decide_eq_false hr, Bool.not_false, if_pos rfl, lcM_map (pT "|") _ (fun d hd => by rw [cat3 (mark_len tl_bar) (hb d hd), lcIt_t]) (hz_small hn (by omega)), bnd_ret, joinM_ok (n := 62) (pTs_len (mark_len tl_bar) hb) (by rw [List.length_map]; omega) (mark_len tl_sp) (by omega), bnd_ret]
    unfold rTx
    rw [if_neg hr]
    rfl
theorem show_asks_eq {asks : List Int} (hn : asks.length ≤ 61) (hb : ∀ c, c ∈ asks → 0 ≤ c ∧ c < 10 ^ 9) : m_show_asks asks = Td.ret (aTx asks) := by
  unfold m_show_asks o_show_asks
  simp only [bnd_assoc, bnd_ret]
  rw [lenG_ok (by simp), bnd_ret, neI_L, bnd_ret]
  by_cases hr : asks = []
  · subst hr
    rfl
  · rw [decide_eq_false hr, Bool.not_false, if_pos rfl, lcM_map istr _ (fun c hc => by rw [istr_g (hb c hc).1 (hb c hc).2, bnd_ret, lcIt_t]) (hz_small hn (by omega)), bnd_ret, joinM_ok (n := 62) (k := 9) (fun y hy => by
      obtain ⟨c, hc, rfl⟩ := List.mem_map.mp hy
      exact (nT_len (hb c hc).1 (hb c hc).2).2) (by rw [List.length_map]; omega) (mark_len tl_com) (by omega), bnd_ret]
    unfold aTx
    rw [if_neg hr]
    rfl
theorem not_dash {x : Str} (h : 45 ∉ TL.tl x) : decide (x = ("-" : Str)) = false := decide_eq_false fun e => h (by rw [e, tl_dash]; exact List.mem_singleton.mpr rfl)
theorem nn_free {c : Nat} {s : Nat} (h : c ≠ s) : c ∉ [s] := fun z => h (List.mem_singleton.mp z)
theorem allS_map {T : Type} : ∀ xs : List T, allS (xs.map some) = some xs
  | [] => rfl
  | x :: xs => by rw [List.map_cons]; unfold allS; rw [allS_map xs]
theorem any_some {T : Type} (xs : List T) : (xs.map some).any Option.isNone = false := by
  rw [List.any_map]
  exact List.any_eq_false.mpr fun _ _ => by simp
/-- the pieces read, one by one -/
theorem pairs_eq {m : Str} {s : Nat} (em : TL.tl m = [s]) (hk : s < 256) (hs : s < 48 ∨ 57 < s) {ds : List (Int × Int)} (hb : ∀ d, d ∈ ds → Bd d) (hn : ds.length ≤ 100) :
    (lcM (fun x : Str => lcIt (Td.ret true : SM Unit Bool) (lft (m_pair_in (x, m)))) [] (ds.map (pT m)) : SM Unit (List (Option (Int × Int)))) = Td.ret (ds.map some) := by
  have main : ∀ (ds : List (Int × Int)) (acc : List (Option (Int × Int))), (∀ d, d ∈ ds → Bd d) → acc.length + ds.length ≤ PySem.sizeLine → (lcM (fun x : Str => lcIt (Td.ret true : SM Unit Bool) (lft (m_pair_in (x, m)))) acc (ds.map (pT m)) : SM Unit (List (Option (Int × Int)))) = Td.ret (acc ++ ds.map some) := by
    intro ds
    induction ds with
    | nil => intro acc _ _; rw [List.map_nil, List.map_nil, List.append_nil]; rfl
    | cons d r ih =>
      intro acc hb hl
      obtain ⟨⟨h0, h1⟩, h2, h3⟩ := hb d (List.mem_cons_self ..)
      rw [List.length_cons] at hl
      rw [List.map_cons]
      unfold lcM
      try dsimp only
      rw [pair_eq em hk hs h0 h1 h2 h3, lft_ret, lcIt_t, nxc_ret, bnd_ret]
      dsimp only
      rw [grd_t (by omega), bnd_ret, ih _ (fun d hd => hb d (List.mem_cons_of_mem _ hd)) (by rw [List.length_append]; simp only [List.length_cons, List.length_nil]; omega), List.append_assoc]
      rfl
  have z := main ds [] hb (hz_small (n := 0 + ds.length) (k := 100) (by omega) (by omega))
  rwa [List.nil_append] at z
theorem nums_eq {ds : List Int} (hb : ∀ c, c ∈ ds → 0 ≤ c ∧ c < 10 ^ 9) (hn : ds.length ≤ 100) :
    (lcM (fun x : Str => lcIt (Td.ret true : SM Unit Bool) (lft (m_number_in x))) [] (ds.map istr) : SM Unit (List (Option Int))) = Td.ret (ds.map some) := by
  have main : ∀ (ds : List Int) (acc : List (Option Int)), (∀ c, c ∈ ds → 0 ≤ c ∧ c < 10 ^ 9) → acc.length + ds.length ≤ PySem.sizeLine → (lcM (fun x : Str => lcIt (Td.ret true : SM Unit Bool) (lft (m_number_in x))) acc (ds.map istr) : SM Unit (List (Option Int))) = Td.ret (acc ++ ds.map some) := by
    intro ds
    induction ds with
    | nil => intro acc _ _; rw [List.map_nil, List.map_nil, List.append_nil]; rfl
    | cons d r ih =>
      intro acc hb hl
      have hd := hb d (List.mem_cons_self ..)
      rw [List.length_cons] at hl
      rw [List.map_cons]
      unfold lcM
      try dsimp only
      rw [number_eq hd.1 hd.2, lft_ret, lcIt_t, nxc_ret, bnd_ret]
      dsimp only
      rw [grd_t (by omega), bnd_ret, ih _ (fun d hd => hb d (List.mem_cons_of_mem _ hd)) (by rw [List.length_append]; simp only [List.length_cons, List.length_nil]; omega), List.append_assoc]
      rfl
  have z := main ds [] hb (hz_small (n := 0 + ds.length) (k := 100) (by omega) (by omega))
  rwa [List.nil_append] at z
theorem k256 {m : Str} {s : Nat} (em : TL.tl m = [s]) (hk : s < 256) : m.cps.all (· < 256) = true := by rw [← TL.mk_tl m, em]; simp [hk]
theorem read_tape_eq {t : TapeV} (h : Tp_ t) (hL : t.1 < 10 ^ 9) (hb : ∀ d, d ∈ t.2 → Bd d) : m_read_tape (tTx t) = Td.ret t := by
  have h1 := h.l
  have hL' : 0 ≤ t.1 ∧ t.1 < 10 ^ 9 := ⟨by omega, hL⟩
  have hn := h.n
  have es : Txt.split (tTx t) (" " : Str) = (istr t.1 ++ (":" : Str)) :: t.2.map (pT "-") := by
    unfold tTx
    refine TL.split_join tl_sp (k256 tl_sp (by decide)) (by simp) fun p hp => ?_
    rcases List.mem_cons.mp hp with e | hp
    · subst e
      rw [TL.tl_append, tl_col]
      intro z
      rcases List.mem_append.mp z with z | z
      · exact nT_free hL'.1 (.inl (by decide)) z
      · exact nn_free (by decide) z
    · obtain ⟨d, hd, rfl⟩ := List.mem_map.mp hp
      have b := hb d hd
      exact pT_free b.1.1 b.2.1 (.inl (by decide)) (by rw [tl_dash]; exact nn_free (by decide))
  have hlen : (tTx t).length ≤ 62 * 19 + 62 := join_le (tTs_len hL' hb) (by rw [List.length_cons, List.length_map]; omega) (mark_len tl_sp)
  have lc : (istr t.1 ++ (":" : Str)).length ≤ 10 := by
    have := nT_len hL'.1 hL'.2
    rw [len_app, mark_len tl_col]; omega
  unfold m_read_tape o_read_tape
  simp only [bnd_assoc, bnd_ret]
  rw [splitM_ok (mark_len tl_sp) (by omega), bnd_ret, es]
  unfold unconsM
  rw [bnd_ret, grd_s lc (by omega), bnd_ret, cutL_last _ _ tl_col, number_eq hL'.1 hL'.2, lft_ret, bnd_ret, pairs_eq tl_dash (by decide) (.inl (by decide)) hb (by omega), bnd_ret]
  rw [any_some, Option.isNone_some, if_neg (by simp), bnd_ret, if_neg (by simp)]
  have eo : (optM (some t.1) : SM Unit Int) = Td.ret t.1 := rfl
  have ea : (asM (allS (t.2.map some)) : SM Unit (List (Int × Int))) = Td.ret t.2 := by rw [allS_map]; rfl
  have em : ∀ {U : Type} (k : TapeV → SM Unit U), (bnd (subM (m_Tape_DinitD (t.1, t.2)) TS0.new) fun r => bnd (tapeM r.2) k) = k t := fun k => make_eq h.l h.f k
  rw [eo, bnd_ret, ea, bnd_ret, em, nxc_ret, thn_nx, show_tape_eq h hL' hb, lft_ret, bnd_ret, decide_eq_true rfl, Bool.not_true, if_neg (by simp), runB_rt]
theorem read_asks_eq {asks : List Int} (hn : asks.length ≤ 61) (hb : ∀ c, c ∈ asks → 0 ≤ c ∧ c < 10 ^ 9) : m_read_asks (aTx asks) = Td.ret asks := by
  unfold m_read_asks o_read_asks
  simp only [bnd_assoc, bnd_ret, show_asks_eq hn hb, lft_ret]
  have main : (if (!decide (aTx asks = ("-" : Str))) = true then bnd (splitM (aTx asks) ",") fun xs => lcM (fun x => lcIt (Td.ret true) (lft (m_number_in x))) [] xs else bnd (lenG ([] : List (Option Int))) fun _ => Td.ret [] : SM Unit (List (Option Int))) = Td.ret (asks.map some) := by
    by_cases hr : asks = []
    · subst hr
      have : aTx [] = ("-" : Str) := rfl
      rw [this, decide_eq_true rfl, Bool.not_true, if_neg (by simp), lenG_ok (by simp)]
      rfl
    · have e : aTx asks = Txt.join "," (asks.map istr) := by unfold aTx; rw [if_neg hr]
      have hf : ∀ c : Nat, (c < 48 ∨ 57 < c) → ∀ p, p ∈ asks.map istr → c ∉ TL.tl p := fun c hc p hp => by
        obtain ⟨x, hx, rfl⟩ := List.mem_map.mp hp
        exact nT_free (hb x hx).1 hc
      have hlen : (Txt.join ("," : Str) (asks.map istr)).length ≤ 62 * 9 + 62 := join_le (fun y hy => by
        obtain ⟨c, hc, rfl⟩ := List.mem_map.mp hy
        exact (nT_len (hb c hc).1 (hb c hc).2).2) (by rw [List.length_map]; omega) (mark_len tl_com)
      rw [e, not_dash (join_free (by rw [tl_com]; exact nn_free (by decide)) (hf 45 (.inl (by decide)))), Bool.not_false, if_pos rfl, splitM_ok (mark_len tl_com) (by omega), bnd_ret, TL.split_join tl_com (k256 tl_com (by decide)) (by simpa using hr) (hf 44 (.inl (by decide)))]
      exact nums_eq hb (by omega)
  rw [main, bnd_ret, any_some, if_neg (by simp), allS_map]
  have e1 : (asM (some asks) : SM Unit (List Int)) = Td.ret asks := rfl
  rw [e1, bnd_ret, show_asks_eq hn hb, lft_ret, bnd_ret, decide_eq_true rfl, Bool.not_true, bnd_ret, if_neg (by simp), bnd_ret, runB_rt]
theorem zip_desc {row : List (Int × Int)} (h : row.Pairwise (fun a b => b.1 < a.1)) : ∀ p, p ∈ row.zip (row.drop 1) → p.2.1 < p.1.1 := by
  induction row with
  | nil => intro p hp; cases hp
  | cons d r ih =>
    rw [List.pairwise_cons] at h
    intro p hp
    cases r with
    | nil => cases hp
    | cons e r =>
      rcases List.mem_cons.mp (show p ∈ (d, e) :: (e :: r).zip ((e :: r).drop 1) from hp) with ep | hp
      · subst ep; exact h.1 e (List.mem_cons_self ..)
      · exact ih h.2 p hp
theorem read_row_eq {row : List (Int × Int)} (hn : row.length ≤ 61) (hb : ∀ d, d ∈ row → Bd d) (hle : ∀ d, d ∈ row → d.1 ≤ d.2) (hd : row.Pairwise (fun a b => b.1 < a.1)) : m_read_row (rTx row) = Td.ret row := by
  unfold m_read_row o_read_row
  simp only [bnd_assoc, bnd_ret]
  have main : (if (!decide (rTx row = ("-" : Str))) = true then bnd (splitM (rTx row) " ") fun xs => lcM (fun x => lcIt (Td.ret true) (lft (m_pair_in (x, ("|" : Str))))) [] xs else bnd (lenG ([] : List (Option (Int × Int)))) fun _ => Td.ret [] : SM Unit (List (Option (Int × Int)))) = Td.ret (row.map some) := by
    by_cases hr : row = []
    · subst hr
      have : rTx [] = ("-" : Str) := rfl
      rw [this, decide_eq_true rfl, Bool.not_true, if_neg (by simp), lenG_ok (by simp)]
      rfl
    · have e : rTx row = Txt.join " " (row.map (pT "|")) := by unfold rTx; rw [if_neg hr]
      have hf : ∀ c : Nat, (c < 48 ∨ 57 < c) → c ≠ 124 → ∀ p, p ∈ row.map (pT "|") → c ∉ TL.tl p := fun c hc hc2 p hp => by
        obtain ⟨x, hx, rfl⟩ := List.mem_map.mp hp
        exact pT_free (hb x hx).1.1 (hb x hx).2.1 hc (by rw [tl_bar]; exact nn_free hc2)
      have hlen : (Txt.join (" " : Str) (row.map (pT "|"))).length ≤ 62 * 19 + 62 := join_le (pTs_len (mark_len tl_bar) hb) (by rw [List.length_map]; omega) (mark_len tl_sp)
      rw [e, not_dash (join_free (by rw [tl_sp]; exact nn_free (by decide)) (hf 45 (.inl (by decide)) (by decide))), Bool.not_false, if_pos rfl, splitM_ok (mark_len tl_sp) (by omega), bnd_ret, TL.split_join tl_sp (k256 tl_sp (by decide)) (by simpa using hr) (hf 32 (.inl (by decide)) (by decide))]
      exact pairs_eq tl_bar (by decide) (.inr (by decide)) hb (by omega)
  have e1 : (asM (some row) : SM Unit (List (Int × Int))) = Td.ret row := rfl
  have hz : row.length ≤ PySem.sizeLine := hz_small hn (by omega)
  rw [main, bnd_ret, any_some, if_neg (by simp), allS_map]
  simp only [e1, bnd_ret, lcIt_t]
  rw [lcM_map (fun d : Int × Int => decide (d.1 ≤ d.2)) _ (fun d _ => rfl) hz, bnd_ret]
  have a1 : (row.map fun d : Int × Int => decide (d.1 ≤ d.2)).all id = true := by
    rw [List.all_map]
    exact List.all_eq_true.mpr fun d hd => decide_eq_true (hle d hd)
  have ec : cutL row (some 1) none = row.drop 1 := cut1 row
  rw [a1, Bool.not_true, bnd_ret, if_neg (by simp), ec]
  rw [lcM_map (fun p : (Int × Int) × (Int × Int) => decide (p.2.1 < p.1.1)) _ (fun d _ => rfl) (by rw [List.length_zip]; omega), bnd_ret]
  have a2 : ((row.zip (row.drop 1)).map fun p : (Int × Int) × (Int × Int) => decide (p.2.1 < p.1.1)).all id = true := by
    rw [List.all_map]
    exact List.all_eq_true.mpr fun p hp => decide_eq_true (zip_desc hd p hp)
  rw [a2, Bool.not_true, if_neg (by simp), show_row_eq hn hb, lft_ret, bnd_ret, decide_eq_true rfl, Bool.not_true, bnd_ret, if_neg (by simp), runB_rt]
end Tk
set_option Elab.async false
set_option linter.all false
set_option maxRecDepth 100000
set_option maxHeartbeats 4000000
namespace Tk
open Td Tp L2 PySem
theorem filt_not {S : Type} {u : List Int} {f l : Int} (hz : u.length ≤ 1000) : (lcM (fun x => lcIt (bnd (if decide (f ≤ x) = true then Td.ret (decide (x ≤ l)) else Td.ret false) fun k => Td.ret (!k)) (Td.ret x)) [] u : SM S (List Int)) = Td.ret (u.filter fun x => !inD f l x) := by
  refine lcM_filter _ u (fun x _ => ?_) (hz_small hz (by omega))
  rw [ite_ret, bnd_ret, lcIt_ret]
  rfl
theorem cled_eq {t : TapeV} {asks : List Int} {row : List (Int × Int)} (h : Fit t asks row) (hr : RowP asks row) : m__law_led (t, asks, row) = Td.ret (wayL t asks row) := by
  have hz := h.z
  have hlen := h.len
  have hs := h.small
  have hal := asked_len (asks := asks)
  have hlr := rowP_len hr
  have e0 : (lenG ([] : List Int) : SM Unit Unit) = Td.ret () := lenG_ok (by simp)
  unfold m__law_led o__law_led
  simp only [bnd_assoc, bnd_ret, caskd_eq hz, lft_ret, e0, eqI_L]
  by_cases hne : askedL asks = []
  · rw [decide_eq_true hne, if_pos rfl, lenK 1 rfl, way_nil hne]
    rfl
  · rw [decide_eq_false hne, if_neg (by simp)]
    have hix : ∀ {i : Int}, i ∈ askedL asks → (ixM t.2 i : SM Unit (Int × Int)) = Td.ret (t.2.getD i.toNat (0, 0)) := fun {i} hi => by
      have := asked_nn i hi
      exact ixM_get _ this.1 (by omega)
    refine hw_eq (hw_runB (hw_lp (hw_mono (hw_forN (fun j (l : List Int × List Int) _ => l.1 = stopsOf t (row.take j) ∧ l.1.length ≤ 2 * j ∧ l.2 = (row.take j).foldl (fun u d => u.filter fun x => !inD d.1 d.2 x) (askedL asks) ∧ l.2.length ≤ (askedL asks).length) row ⟨rfl, Nat.le_refl _, rfl, Nat.le_refl _⟩ fun j d l s hj hl => ?_) fun e s q => ?_)))
    · obtain ⟨l1, l2, l3, l4⟩ := hl
      have hjl := (List.getElem?_eq_some_iff.mp hj).1
      have hd := hr.m d (List.mem_of_getElem? hj)
      rw [hix hd.1, bnd_ret, hix hd.2.1, bnd_ret, lenK 2 rfl, bnd_ret, catM_ok (hz_small (n := l.1.length + 2) (k := 1000) (by omega) (by omega)), bnd_ret, filt_not (by omega), bnd_ret]
      refine hw_ret ⟨?_, ?_, ?_, Nat.le_trans (List.length_filter_le _ _) l4⟩
      · rw [List.take_add_one, hj, Option.toList_some]
        unfold stopsOf at l1 ⊢
        rw [List.flatMap_append, ← l1]
        rfl
      · dsimp only
        rw [List.length_append]
        simp only [List.length_cons, List.length_nil]
        omega
      · rw [List.take_add_one, hj, Option.toList_some, List.foldl_append, ← l3]
        rfl
    · cases e with
      | rt b => exact q.elim
      | dn l =>
        obtain ⟨l1, l2, l3, l4⟩ := q
        rw [List.take_length] at l1 l3
        rw [frL_fold] at l3
        obtain ⟨m1, m2⟩ := last_mem (row := row) hne (fun d hd => (hr.m d hd).2.2.2)
        have h0 : (askedL asks).headD 0 ∈ askedL asks := by
          cases e : askedL asks with
          | nil => exact absurd e hne
          | cons a as => exact List.mem_cons_self ..
        dsimp only at l1 l3 ⊢
        rw [l3, head_get hne, bnd_ret, hix h0, bnd_ret, pushM_ok (hz_small (n := l.1.length + 1) (k := 1000) (by omega) (by omega)), bnd_ret, last_get m1, bnd_ret, hix m2, bnd_ret, lenK 1 rfl, bnd_ret, catM_ok (hz_small (n := _ + 1) (k := 1000) (by rw [List.length_append]; simp only [List.length_cons, List.length_nil]; omega) (by omega)), bnd_ret]
        refine hw_ret ?_
        rw [way_stops hne, l1]
        unfold stopsOf
        rw [List.flatMap_append, List.append_assoc]
        rfl
/-- the law's head, as its loop carries it -/
def hdT (asks : List Int) (h : Hd) : Int × Fd × Bool × Int × Int × Int := (h.edge, mkA asks h.fd, h.left, h.spot, h.steps, h.turns)
def nxA (t : TapeV) (asks : List Int) (h : Hd) (g : Int) (i : Nat) (o : Option (Int × Int)) : Option (Int × Int) := if 0 < asks.getD i 0 then (if (h.face g).left = true then o else rdAt t (h.face g) g i o) else o
theorem nxA_fd {t : TapeV} {asks : List Int} {h : Hd} {g : Int} : (mkA asks h.fd).mapIdx (nxA t asks h g) = mkA asks (h.lead t g).fd := by
  refine List.ext_getElem? fun i => ?_
  rw [List.getElem?_mapIdx, mkA_get, mkA_get, Option.map_map]
  obtain ⟨f1, f2, f3⟩ := h.face_fd g
  have e : (h.lead t g).fd = (h.face g).rd t g := rfl
  rw [e]
  unfold Hd.rd
  by_cases c : (h.face g).left = true
  · rw [if_pos c, f1]
    congr 1
    funext o
    show nxA t asks h g i _ = _
    unfold nxA
    rw [if_pos c, ite_self]
  · rw [if_neg c, List.getElem?_mapIdx, f1, Option.map_map]
    congr 1
    funext o
    show nxA t asks h g i _ = _
    unfold nxA
    rw [if_neg c]
    by_cases ha : 0 < asks.getD i 0
    · rw [if_pos ha]
      show rdAt t (h.face g) g i (if 0 < asks.getD i 0 then o else none) = if 0 < asks.getD i 0 then rdAt t (h.face g) g i o else none
      rw [if_pos ha, if_pos ha]
    · rw [if_neg ha]
      show (if 0 < asks.getD i 0 then o else none) = if 0 < asks.getD i 0 then rdAt t (h.face g) g i o else none
      rw [if_neg ha, if_neg ha]
theorem ixM_nat {S T : Type} {xs : List T} {i : Nat} {a : T} (h : xs[i]? = some a) : (ixM xs (i : Int) : SM S T) = Td.ret a := by
  have hi := (List.getElem?_eq_some_iff.mp h).1
  apply ixM_ok
  unfold L2.atI L2.ixN
  rw [if_pos (by omega), if_pos (by omega)]
  exact h
/-- what the law reckons of goals: the head led, told of asked files alone -/
theorem cwaits_eq {t : TapeV} {asks gs : List Int} (hl : asks.length = t.2.length) (hz : t.2.length ≤ 60) (hg : Nq t.1 gs ∨ gs = [t.1]) : m__law_waits (t, asks, gs) = Td.ret (mkA asks (gs.foldl (Hd.lead t) (Hd.start t)).fd) := by
  unfold m__law_waits o__law_waits
  simp only [bnd_assoc, bnd_ret]
  rw [lcM_map (fun _ => (none : Option (Int × Int))) _ (fun x _ => by rw [lcIt_t]) (hz_small hz (by omega)), bnd_ret]
  have e0 : (t.1, t.2.map (fun _ => (none : Option (Int × Int))), true, t.1, (0 : Int), (0 : Int)) = hdT asks (Hd.start t) := by
    unfold hdT Hd.start mkA
    congr 2
    refine List.ext_getElem? fun i => ?_
    rw [List.getElem?_mapIdx, List.getElem?_map]
    cases t.2[i]? with
    | none => rfl
    | some x => simp
  rw [e0]
  have main : ∀ (f : (Int × Fd × Bool × Int × Int × Int) → Int → SM Unit (Fl (Int × Fd × Bool × Int × Int × Int) (Int × Fd × Bool × Int × Int × Int) Fd)),
      (∀ (h : Hd) (g : Int), h.fd.length = t.2.length → g ≠ h.spot → f (hdT asks h) g = Td.ret (.nx (hdT asks (h.lead t g)))) → (∀ (h : Hd), f (hdT asks h) h.spot = Td.ret (.nx (hdT asks h))) →
      forM_ gs f (hdT asks (Hd.start t)) = Td.ret (.dn (hdT asks (gs.foldl (Hd.lead t) (Hd.start t)))) := by
    intro f hf hs
    rcases hg with hg | hg
    · have go : ∀ (gs : List Int) (h : Hd), h.fd.length = t.2.length → Nq h.spot gs → forM_ gs f (hdT asks h) = Td.ret (.dn (hdT asks (gs.foldl (Hd.lead t) h))) := by
        intro gs
        induction gs with
        | nil => intro h _ _; rfl
        | cons g gs ih =>
          intro h hl hn
          unfold forM_
          rw [hf h g hl hn.1, bnd_ret]
          exact ih (h.lead t g) (by rw [Hd.lead_len]; exact hl) hn.2
      exact go gs (Hd.start t) (by unfold Hd.start; simp) hg
    · subst hg
      have z := hs (Hd.start t)
      unfold forM_
      rw [show (t.1 : Int) = (Hd.start t).spot from rfl, z, bnd_ret]
      rw [List.foldl_cons, List.foldl_nil, lead_spot (t := t) (h := Hd.start t) rfl]
      rfl
  rw [main _ (fun h g hl2 hn => ?_) (fun h => ?_), lpM_dn]
  · rfl
  · obtain ⟨f1, f2, f3⟩ := h.face_fd g
    unfold hdT
    dsimp only
    rw [decide_eq_false hn, Bool.not_false, if_pos rfl]
    have e1 : (if (!decide (decide (g < h.spot) = h.left)) = true then (Td.ret (Fl.nx (h.spot, !h.left, h.turns + 1)) : SM Unit (Fl (Int × Bool × Int) (Int × Fd × Bool × Int × Int × Int) Fd)) else Td.ret (Fl.nx (h.edge, h.left, h.turns))) = Td.ret (Fl.nx ((h.face g).edge, (h.face g).left, (h.face g).turns)) := by
      unfold Hd.face
      by_cases c : decide (g < h.spot) ≠ h.left
      · rw [if_pos (by rw [decide_eq_false c]; rfl), if_pos ⟨hn, c⟩]
      · rw [if_neg (by
          rw [Bool.not_eq_true', decide_eq_false_iff_not]
          exact c), if_neg (fun z => c z.2)]
    rw [e1, thn_nx]
    dsimp only
    rw [enum_loop (by rw [mkA_len]; exact hl2) (nxA t asks h g) _ fun fd i o b e ho hb => ?_, lpM_dn, thn_nx, nxA_fd]
    · rfl
    · have hi := (List.getElem?_eq_some_iff.mp ho).1
      have hi2 := (List.getElem?_eq_some_iff.mp hb).1
      have ha : (ixM asks (i : Int) : SM Unit Int) = Td.ret (asks.getD i 0) := ixM_nat (by rw [List.getD_eq_getElem?_getD, List.getElem?_eq_getElem (by omega)]; rfl)
      have eb : bg t (i : Int) = b := by
        unfold bg
        rw [Int.toNat_natCast, List.getD_eq_getElem?_getD, hb]; rfl
      have ee : en t (i : Int) = e := by
        unfold en
        rw [Int.toNat_natCast, List.getD_eq_getElem?_getD, hb]; rfl
      have same : nxA t asks h g i o = o → fd = fd.set i (nxA t asks h g i o) := fun z => by
        rw [z]
        refine List.ext_getElem? fun j => ?_
        by_cases c : i = j
        · subst c
          rw [List.getElem?_set_self hi]; exact ho
        · rw [List.getElem?_set_ne c]
      dsimp only
      rw [ixM_nat ho, bnd_ret, ha, bnd_ret]
      simp only [and_ret, bnd_ret]
      by_cases cc : o = none ∧ 0 < asks.getD i 0 ∧ (h.face g).left = false ∧ (h.face g).edge ≤ b ∧ e ≤ g
      · obtain ⟨c1, c2, c3, c4, c5⟩ := cc
        have en_ : nxA t asks h g i o = some (h.steps + e - h.spot, (h.face g).turns) := by
          unfold nxA rdAt
          rw [if_pos c2, c3, if_neg (by simp), c1]
          dsimp only
          rw [eb, ee, if_pos ⟨c4, c5⟩, f2, f3]
        rw [en_, c1, c3, decide_eq_true c2, decide_eq_true c4, decide_eq_true c5]
        simp only [Option.isNone_none, Bool.not_false, Bool.and_self, if_true, Bool.true_and, bnd_ret]
        rw [setM_ok (by omega) (by omega), bnd_ret, thn_nx, Int.toNat_natCast]
      · have z : nxA t asks h g i o = o := by
          unfold nxA rdAt
          by_cases c2 : 0 < asks.getD i 0
          · rw [if_pos c2]
            by_cases c3 : (h.face g).left = true
            · rw [if_pos c3]
            · rw [if_neg c3]
              cases o with
              | some w => rfl
              | none =>
                dsimp only
                rw [eb, ee, if_neg (fun z => cc ⟨rfl, c2, by simpa using c3, z.1, z.2⟩)]
          · rw [if_neg c2]
        have hc : (o.isNone && decide (0 < asks.getD i 0) && (!(h.face g).left && (decide ((h.face g).edge ≤ b) && decide (e ≤ g)))) = false := by
          rw [Bool.eq_false_iff]
          intro w
          simp only [Bool.and_eq_true, Bool.not_eq_true', decide_eq_true_eq, Option.isNone_iff_eq_none] at w
          exact cc ⟨w.1.1, w.1.2, w.2.1, w.2.2.1, w.2.2.2⟩
        rw [if_neg (by rw [hc]; simp), thn_nx, ← same z]
  · unfold hdT
    dsimp only
    rw [decide_eq_true rfl, Bool.not_true, if_neg (by simp), thn_nx]
theorem cwaits_way {t : TapeV} {asks : List Int} {row : List (Int × Int)} (h : Fit t asks row) (hr : RowP asks row) (ht : Lies t) : m__law_waits (t, asks, wayL t asks row) = Td.ret (waitsL t asks row) := by
  have hlen := h.len
  have hs := h.small
  have hn : Nq t.1 (wayL t asks row) ∨ wayL t asks row = [t.1] := by
    by_cases hne : askedL asks = []
    · exact .inr (way_nil hne)
    · refine .inl ?_
      obtain ⟨m1, m2⟩ := last_mem (row := row) hne (fun d hd => (hr.m d hd).2.2.2)
      have h0 : (askedL asks).headD 0 ∈ askedL asks := by
        cases e : askedL asks with
        | nil => exact absurd e hne
        | cons a as => exact List.mem_cons_self ..
      have a0 := asked_nn _ h0
      have al := asked_nn _ m2
      have htb : ∀ i, 0 ≤ i → i < (t.2.length : Int) → bg t i < t.1 := fun i h1 h2 => by
        have := ht.at_ h1 h2
        omega
      have alt := @fun i x y => alt_stops ht (i := i) (x := x) (y := y) (row := row ++ [((askedL asks).headD 0, lastI (lastR (fr (askedL asks) row)))]) (p := t.1) (fun d hd => by
        rcases List.mem_append.mp hd with hd | hd
        · have z := hr.m d hd
          have z1 := asked_nn _ z.1
          have z2 := asked_nn _ z.2.1
          exact ⟨z1.1, z.2.2.1, by omega⟩
        · rw [List.mem_singleton] at hd
          subst hd
          exact ⟨a0.1, asc_head (asked_asc asks) m2, by dsimp only; omega⟩) (by
        rw [List.pairwise_append]
        refine ⟨hr.d, by simp, fun d hd b hb => ?_⟩
        rw [List.mem_singleton] at hb
        subst hb
        exact (hr.m d hd).2.2.2) (fun d hd => by
        have hd' : 0 ≤ d.1 ∧ d.1 < t.2.length := by
          cases row with
          | nil =>
            cases hd
            exact ⟨a0.1, by dsimp only; omega⟩
          | cons c r =>
            cases hd
            have := asked_nn _ (hr.m d (List.mem_cons_self ..)).1
            omega
        exact htb d.1 hd'.1 hd'.2)
      rw [way_stops hne]
      exact nq_of fun i x y hx hy => fun e => (alt i x y hx hy).2 e.symm
  rw [cwaits_eq (by omega) (by omega) hn]
  congr 1
  have hfl : ((wayL t asks row).foldl (Hd.lead t) (Hd.start t)).fd.length = t.2.length := lead_all _ _ (by unfold Hd.start; simp)
  have hwl : (waitsL t asks row).length = asks.length := waits_len
  refine List.ext_getElem? fun i => ?_
  rw [mkA_get]
  by_cases hi : i < asks.length
  · by_cases hm : (i : Int) ∈ askedL asks
    · rw [← walk_get h hr ht hm]
      have c := (mem_asked.mp hm).2.2
      rw [Int.toNat_natCast] at c
      rw [List.getElem?_eq_getElem (by omega), Option.map_some, if_pos c]
    · rw [waits_nil h ht hi hm, List.getElem?_eq_getElem (by omega), Option.map_some, if_neg (fun z => hm (mem_asked.mpr ⟨by omega, by omega, by rw [Int.toNat_natCast]; exact z⟩))]
  · rw [List.getElem?_eq_none (by omega), List.getElem?_eq_none (by omega)]
    rfl
end Tk

set_option Elab.async false
set_option linter.all false
set_option maxRecDepth 100000
set_option maxHeartbeats 4000000
namespace Tk
open Td Tp L2 PySem
theorem cmade_eq {t : TapeV} (h : Tp_ t) : m__law_made t = Td.ret t := by
  unfold m__law_made o__law_made
  simp only [bnd_assoc, bnd_ret]
  rw [make_eq h.l h.f, runB_rt]
theorem hw_lists {n : Nat} {s : List Int} {asks : List Int} (hm : asks.length ≤ 60) (ha : ∀ c, c ∈ asks → 0 ≤ c ∧ c ≤ 20) (hn : n ≤ 50000) (hg : Gd n s) : Hw (m__law_lists_right asks) s fun b s' => b = true ∧ Gd (n + 200) s' := by
  unfold m__law_lists_right o__law_lists_right
  simp only [bnd_assoc, bnd_ret, runB_bnd]
  refine hw_seq (hw_drow hm hn hg) fun row s ⟨hr, hg⟩ => ?_
  have hlr := rowP_len hr
  have hb : ∀ d, d ∈ row → Bd d := fun d hd => by
    have z := hr.m d hd
    have z1 := asked_nn _ z.1
    have z2 := asked_nn _ z.2.1
    have y1 := (mem_asked.mp z.1).2.1
    have y2 := (mem_asked.mp z.2.1).2.1
    exact ⟨⟨z1.1, by omega⟩, z2.1, by omega⟩
  have hba : ∀ c, c ∈ asks → 0 ≤ c ∧ c < 10 ^ 9 := fun c hc => by have := ha c hc; omega
  simp only [show_row_eq (by omega : row.length ≤ 61) hb, show_asks_eq (by omega : asks.length ≤ 61) hba, read_row_eq (by omega : row.length ≤ 61) hb (fun d hd => (hr.m d hd).2.2.1) hr.d, read_asks_eq (by omega : asks.length ≤ 61) hba, lft_ret, bnd_ret]
  have cS : ∀ {x y : Str}, x.length + y.length ≤ 100 → (catS x y : SM (List Int) Str) = Td.ret (x ++ y) := fun {x y} hxy => by
    unfold catS
    rw [grd_t (hz_small hxy (by omega)), bnd_ret]
  have e1 : ∀ {U : Type} (k : Str → SM (List Int) (Fl Empty Empty U)), thn_ (if (!decide (row = [])) = true then bnd (lcM (fun x : Int × Int => lcIt (Td.ret true) (bnd (grd (x.1.natAbs.log2 < 1920)) fun a => bnd (catS (istr x.1) ("|" : Str)) fun b => bnd (grd (x.2.natAbs.log2 < 1920)) fun a => catS b (istr x.2))) [] row) fun a => bnd (joinM (" " : Str) a) fun w => (Td.ret (Fl.nx w) : SM (List Int) (Fl Str Empty U)) else Td.ret (Fl.nx ("-" : Str))) k = k (rTx row) := fun k => by
    unfold rTx
    by_cases hr0 : row = []
    · rw [decide_eq_true hr0, Bool.not_true, if_neg (by simp), thn_nx, if_pos hr0]
    · rw [decide_eq_false hr0, Bool.not_false, if_pos rfl, if_neg hr0, lcM_map (pT "|") _ (fun d hd => by
        obtain ⟨⟨h0, h1⟩, h2, h3⟩ := hb d hd
        have b := nT_len h0 h1
        have c := nT_len h2 h3
        rw [istr_g h0 h1, bnd_ret, cS (by rw [mark_len tl_bar]; omega), bnd_ret, istr_g h2 h3, bnd_ret, cS (by rw [len_app, mark_len tl_bar]; omega), lcIt_t]
        rfl) (hz_small (n := row.length) (k := 61) (by omega) (by omega)), bnd_ret, joinM_ok (n := 62) (pTs_len (mark_len tl_bar) hb) (by rw [List.length_map]; omega) (mark_len tl_sp) (by omega), bnd_ret, thn_nx]
  rw [len0, bnd_ret, neP_L, bnd_ret, e1]
  simp only [decide_true, Bool.not_true, Bool.false_eq_true, if_false, bnd_ret, read_row_eq (by omega : row.length ≤ 61) hb (fun d hd => (hr.m d hd).2.2.1) hr.d, lft_ret, neP_L]
  rw [lcM_map istr _ (fun c hc => by rw [istr_g (hba c hc).1 (hba c hc).2, bnd_ret, lcIt_t]) (hz_small (n := asks.length) (k := 61) (by omega) (by omega)), bnd_ret, joinM_ok (n := 62) (k := 9) (fun y hy => by
      obtain ⟨c, hc, rfl⟩ := List.mem_map.mp hy
      exact (nT_len (hba c hc).1 (hba c hc).2).2) (by rw [List.length_map]; omega) (mark_len tl_com) (by omega), bnd_ret, len0, bnd_ret, eqI_L, bnd_ret]
  have e2 : (if decide (asks = []) = true then (Td.ret (Fl.nx ("-" : Str)) : SM (List Int) (Fl Str Empty Bool)) else Td.ret (Fl.nx (Txt.join ("," : Str) (asks.map istr)))) = Td.ret (Fl.nx (aTx asks)) := by
    unfold aTx
    by_cases h0 : asks = []
    · rw [decide_eq_true h0, if_pos rfl, if_pos h0]
    · rw [decide_eq_false h0, if_neg (by simp), if_neg h0]
  rw [e2, thn_nx]
  simp only [decide_true, Bool.not_true, Bool.false_eq_true, if_false, bnd_ret, read_asks_eq (by omega : asks.length ≤ 61) hba, lft_ret, eqI_L, if_true]
  rw [pushM_ok (hz_small (n := asks.length + 1) (k := 100) (by omega) (by omega)), bnd_ret, runB_rt]
  exact hw_ret ⟨rfl, hg⟩
theorem hw_right {n : Nat} {s : List Int} (hn : n ≤ 40000) (hg : Gd n s) : Hw (m__law_right ()) s fun b s' => b = true ∧ Gd (n + 1000) s' := by
  unfold m__law_right o__law_right
  simp only [bnd_assoc, bnd_ret, runB_bnd]
  refine coin_step (by omega) (by omega) (by omega) hg fun v s v0 v1 hg => ?_
  have hsh : Hw (if decide (v = 0) = true then m__law_great_tape () else m__law_drawn_tape (8, 6)) s fun sh s' => Shp 60 sh ∧ Gd (n + 131) s' := hw_ite (fun _ => hw_mono (hw_gtape (by omega) hg) fun sh s q => ⟨q.1, q.2.le (by omega)⟩) fun _ => hw_mono (hw_dtape (by omega) hg) fun sh s q => ⟨q.1, q.2.le (by omega)⟩
  refine hw_seq hsh fun t s ⟨hsh, hg⟩ => ?_
  have ht := hsh.tp
  have hL := hsh.h
  have hL1 := hsh.l
  have hm := hsh.m
  have hf : Lies t := ⟨hsh.f⟩
  have hbd : ∀ (fs : List (Int × Int)), FOk t.1 0 fs → ∀ d, d ∈ fs → Bd d := fun fs hfs d hd => by
    have := (fok_iff.mp hfs).1 d hd
    exact ⟨⟨by omega, by omega⟩, by omega, by omega⟩
  have hb := hbd t.2 hsh.f
  simp only [cmade_eq ht, ltext_eq ht ⟨by omega, by omega⟩ hb, show_tape_eq ht ⟨by omega, by omega⟩ hb, read_tape_eq ht (by omega) hb, lft_ret, bnd_ret]
  have eq0 : m_Tape_DeqD (t, t) = Td.ret true := by rw [eqTape_eq, decide_eq_true rfl]
  have nes : (neD (dP PyData.int (dL (dP PyData.int PyData.int)) t) (dP PyData.int (dL (dP PyData.int PyData.int)) t) : SM (List Int) Bool) = Td.ret false := by
    rw [(ed_int.P ((ed_int.P ed_int).L)).neD (by decide), decide_eq_true rfl]
    rfl
  have nes' : (neD (dP PyData.int (dL (dP PyData.int PyData.int)) (t.1, t.2)) (dP PyData.int (dL (dP PyData.int PyData.int)) t) : SM (List Int) Bool) = Td.ret false := nes
  simp only [decide_true, Bool.not_true, Bool.false_eq_true, if_false, bnd_ret, eq0, lft_ret, nxc_ret, tlen, tfl, tln, nes']
  rw [grd_t ⟨by omega, by omega⟩, bnd_ret]
  simp only [bnd_ret, runB_bnd, Bool.false_eq_true, if_false]
  rw [rngG_ok (by split <;> omega), bnd_ret, upto_up]
  refine hw_runB (hw_lp ?_)
  refine hw_mono (hw_forN (fun _ _ s' => s' = s) _ rfl fun j i l s' hj e => ?_) fun e s' q => ?_
  · subst e
    obtain ⟨i0, i1⟩ := mem_upI.mp (List.mem_of_getElem? hj)
    have i2 : i < (t.2.length : Int) := by
      have : i < (if (t.2.length : Int) < 2 then (t.2.length : Int) else 2) := by
        have z : 0 ≤ (if (t.2.length : Int) < 2 then (t.2.length : Int) else 2) := by split <;> omega
        omega
      split at this <;> omega
    have hs : (t.2.take i.toNat ++ t.2.drop (i.toNat + 1)).Sublist t.2 := by
      have := List.Sublist.append (List.Sublist.refl (t.2.take i.toNat)) (List.drop_sublist_drop_left t.2 (show i.toNat ≤ i.toNat + 1 by omega))
      rwa [List.take_append_drop] at this
    have fl := fok_sub hsh.f hs
    have hl := hs.length_le
    have tl : Tp_ (t.1, t.2.take i.toNat ++ t.2.drop (i.toNat + 1)) := ⟨fl, hL1, by dsimp only; omega⟩
    have bl := hbd _ fl
    have nep : (neD (dP PyData.int PyData.int (t.2.getD i.toNat (0, 0))) (dP PyData.int PyData.int (t.2.getD i.toNat (0, 0))) : SM (List Int) Bool) = Td.ret false := by
      rw [(ed_int.P ed_int).neD (by decide), decide_eq_true rfl]
      rfl
    rw [cutT i0 (by omega), cutD (by omega) (by omega), show (i + 1).toNat = i.toNat + 1 by omega, catM_ok (hz_small (n := _ + _) (k := 61) (by rw [← List.length_append]; omega) (by omega)), bnd_ret, tix i0 i2, lft_ret, nxc_ret, bnd_ret, ixM_get (0, 0) i0 i2, bnd_ret, nep, bnd_ret, if_neg (by simp), without_eq ht i0 i2, lft_ret, bnd_ret, show_tape_eq tl ⟨by dsimp only; omega, by dsimp only; omega⟩ bl, lft_ret, bnd_ret, ltext_eq tl ⟨by dsimp only; omega, by dsimp only; omega⟩ bl, lft_ret, bnd_ret, decide_eq_true rfl, Bool.not_true, if_neg (by simp)]
    exact hw_ret rfl
  · cases e with
    | rt b => exact q.elim
    | dn l =>
      subst q
      refine hw_seq (hw_dasks hm (by omega) hg) fun asks s ⟨⟨hal, ha⟩, hg⟩ => ?_
      have hal2 : asks.length ≤ 60 := by omega
      refine hw_seq (hw_drow hal2 (by omega) hg) fun row s ⟨hr, hg⟩ => ?_
      have F : Fit t asks row := fit_of hal.symm hal2 (fun c hc => (ha c hc).1) hr
      have new : (neD (dL (dO (dP PyData.int PyData.int)) (waitsL t asks row)) (dL (dO (dP PyData.int PyData.int)) (waitsL t asks row)) : SM (List Int) Bool) = Td.ret false := by
        rw [neW, decide_eq_true rfl]
        rfl
      rw [cled_eq F hr, lft_ret, bnd_ret, cwaits_way F hr hf, lft_ret, bnd_ret, waits_eq F, lft_ret, bnd_ret, new, bnd_ret, if_neg (by simp)]
      refine hw_seq (hw_lists hal2 ha (by omega) hg) fun b s ⟨eb, hg⟩ => ?_
      subst eb
      exact hw_ret ⟨rfl, hg.le (by omega)⟩
end Tk

set_option Elab.async false
set_option linter.all false
set_option maxRecDepth 100000
set_option maxHeartbeats 4000000
namespace Tk
open Td Tp L2 PySem
theorem law_true (ns : List Int) (h : ns.length ≤ 63) : ∃ s, m_law ns () = .ok true s := by
  have main : Hw (m_law ns) () fun b _ => b = true := by
    unfold m_law o_law
    simp only [bnd_assoc, bnd_ret]
    have hr : ∀ r : Int, (rngG (if (if (ns.length : Int) < 5 then (ns.length : Int) else 5) > 1 then (if (ns.length : Int) < 5 then (ns.length : Int) else 5) else 1) : SM Unit Unit) = Td.ret () := fun _ => rngG_ok (by split <;> split <;> omega)
    rw [hr 0, bnd_ret, upto_up]
    generalize (Int.toNat _) = k
    unfold runB lpM
    refine hw_bnd (hw_bnd (hw_mono (hw_for (fun _ _ _ => True) (fun _ _ => False) (upI k) 0 () () trivial fun j a l s ha _ => ?_) fun e s he => ?_))
    · have ha0 : 0 ≤ a := (mem_upI.mp (List.mem_of_getElem? ha)).1
      obtain ⟨sk, s1, e1, hg⟩ := hw_ok (hw_purse (ns := ns) ha0)
      have e2 : (lft (m__law_purse (ns, a)) : SM Unit (List Int)) = Td.ret sk := by
        funext s
        unfold lft
        rw [e1]
        rfl
      rw [e2, bnd_ret, rngG_ok (by decide), bnd_ret, upto_up]
      refine hw_seq (Q := fun p _ => ∃ u, p.1 = Fl.nx u) (hw_sub ?_) fun p s' hp => ?_
      · refine hw_bnd (hw_mono (hw_for (fun j _ s => Gd (1000 * j) s) (fun _ _ => False) (upI (Int.toNat 2)) 0 () sk (hg.le (by omega)) fun j a l s ha hg => ?_) fun e s he => ?_)
        · have hj : j < 2 := by
            have := (List.getElem?_eq_some_iff.mp ha).1
            rwa [upI_len] at this
          refine hw_seq (hw_right (n := 1000 * (0 + j)) (by omega) hg) fun b s q => ?_
          have hb := q.1
          subst hb
          simp only [Bool.not_true, Bool.false_eq_true, if_false]
          exact hw_ret (q.2.le (by omega))
        · cases e with
          | dn l => exact hw_ret ⟨(), rfl⟩
          | rt b => exact he.elim
      · obtain ⟨u, e⟩ := hp
        rw [e]
        exact hw_ret trivial
    · cases e with
      | dn l => exact hw_ret (hw_ret rfl)
      | rt b => exact he.elim
  obtain ⟨a, s, e, h⟩ := hw_ok main
  subst h
  exact ⟨s, e⟩
end Tk

set_option Elab.async false
set_option linter.all false
set_option maxRecDepth 100000
set_option maxHeartbeats 0
namespace Tk
open PySem PySem.Spec PyProof.Rows L2 He Td
theorem facts {P : Program} {w : World} {K : PySem.W.Frag} {h : Heap} {mg : Str → Option Value} {f : Addr} (X : K.In h) (G : h.Ns mainGlobals mg) (hfa : mg ("law" : Str) = some (.ref f)) (c : SaysTd Hd.exs Hd.fs K) (tk : TabsOk K h) :
    ∃ fd : FuncData, (∀ (s : Shared) (u : Value), BindsTo s fd ⟨[u], []⟩ [("_law_script", u)]) ∧ ∀ base : Heap, K.In base → base.Ns mainGlobals mg → (∀ p ∈ tabCs K, LamX.TabB base mg p.1 p.2) → FnG P w K mg base 7 f fd ["_law_script"] (SpP K 1 (fun u : List Int => [.is rScr u]) rBool m_law) := by
  have E := c.more
  obtain ⟨x_glo, E⟩ := ba E
  obtain ⟨x_fre, E⟩ := ba E
  obtain ⟨x_slc, E⟩ := ba E
  obtain ⟨x_sl0, E⟩ := ba E
  obtain ⟨x_sl1, E⟩ := ba E
  obtain ⟨x_length, E⟩ := ba E
  obtain ⟨x_files, E⟩ := ba E
  obtain ⟨x_len, E⟩ := ba E
  obtain ⟨x_getitem, E⟩ := ba E
  obtain ⟨x_eq, E⟩ := ba E
  obtain ⟨x_without, E⟩ := ba E
  obtain ⟨x_mkr, E⟩ := ba E
  obtain ⟨x_isi, E⟩ := ba E
  obtain ⟨x_nec, E⟩ := ba E
  obtain ⟨x_k_DIGITS, E⟩ := ba E
  have x_k_MOST_DIGITS := E
  have gl : ∀ x, x ∈ Hd.glos → mg x = some (.ref (ga K x)) := fun x hx => glo_ok X G (List.all_eq_true.mp x_glo x hx)
  have fr : ∀ x, x ∈ Hd.frees → mg x = none := fun x hx => free_ok X G (List.all_eq_true.mp x_fre x hx)
  have t_cls : TapeCls K := ⟨slcB_ok x_slc, slotB_ok x_sl0, slotB_ok x_sl1⟩
  have t_length : Prp K (tapeC K) "length" := prpB_ok x_length
  have t_files : Prp K (tapeC K) "files" := prpB_ok x_files
  have t_len : Mth K "__len__" := ⟨eqO_ok (ba x_len).1, (ba (ba x_len).2).1⟩
  have t_ix : Mth K "__getitem__" := ⟨eqO_ok (ba x_getitem).1, (ba (ba x_getitem).2).1⟩
  have t_eq : L2.Meth K (tapeC K) "__eq__" (He.ma K (tapeC K) "__eq__") := ⟨eqO_ok (ba x_eq).1, (ba (ba x_eq).2).1, (ba (ba x_eq).2).2⟩
  have t_without : L2.Meth K (tapeC K) "without" (He.ma K (tapeC K) "without") := ⟨eqO_ok (ba x_without).1, (ba (ba x_without).2).1, (ba (ba x_without).2).2⟩
  have t_mk : Mk K (tapeC K) (He.ma K (tapeC K) "__init__") := mkr_ok x_mkr
  have t_nec : NeCls K (tapeC K) := neCls_ok x_nec
  have t_isi : SlX.SIsi K (tapeC K) := isiB_ok x_isi
  have g_Tape : mg "Tape" = some (.ref (tapeC K)) := gl "Tape" (by decide +kernel)
  have t_k_DIGITS : ∃ t, mg "DIGITS" = some (.str ("0123456789" : Str) t) := str_ok X G x_k_DIGITS
  have t_k_MOST_DIGITS : ∃ t, mg "MOST_DIGITS" = some (.int 9 t) := int_ok X G x_k_MOST_DIGITS
  have f_abs : mg "abs" = none := fr "abs" (by decide +kernel)
  have f_all : mg "all" = none := fr "all" (by decide +kernel)
  have f_enumerate : mg "enumerate" = none := fr "enumerate" (by decide +kernel)
  have f_int : mg "int" = none := fr "int" (by decide +kernel)
  have f_isinstance : mg "isinstance" = none := fr "isinstance" (by decide +kernel)
  have f_len : mg "len" = none := fr "len" (by decide +kernel)
  have f_list : mg "list" = none := fr "list" (by decide +kernel)
  have f_max : mg "max" = none := fr "max" (by decide +kernel)
  have f_min : mg "min" = none := fr "min" (by decide +kernel)
  have f_range : mg "range" = none := fr "range" (by decide +kernel)
  have f_str : mg "str" = none := fr "str" (by decide +kernel)
  have f_tuple : mg "tuple" = none := fr "tuple" (by decide +kernel)
  have f_zip : mg "zip" = none := fr "zip" (by decide +kernel)
  obtain ⟨fd_Tape_DlenD, F_Tape_DlenD⟩ := c.df 7 (d := Hd.d_Tape_DlenD) rfl
  have b_Tape_DlenD : Binds K fd_Tape_DlenD ["self"] [] := F_Tape_DlenD.bindsN fun _ _ _ _ _ _ us hl => match us, hl with | [_], _ => rfl
  obtain ⟨fd_Tape_DinitD, F_Tape_DinitD⟩ := c.df 4 (d := Hd.d_Tape_DinitD) rfl
  have b_Tape_DinitD : Binds K fd_Tape_DinitD ["self", "length", "files"] [] := F_Tape_DinitD.bindsN fun _ _ _ _ _ _ us hl => match us, hl with | [_, _, _], _ => rfl
  obtain ⟨fd_Tape_DeqD, F_Tape_DeqD⟩ := c.df 8 (d := Hd.d_Tape_DeqD) rfl
  have b_Tape_DeqD : Binds K fd_Tape_DeqD ["self", "other"] [] := F_Tape_DeqD.bindsN fun _ _ _ _ _ _ us hl => match us, hl with | [_, _], _ => rfl
  obtain ⟨fd_Tape_DgetitemD, F_Tape_DgetitemD⟩ := c.df 10 (d := Hd.d_Tape_DgetitemD) rfl
  have b_Tape_DgetitemD : Binds K fd_Tape_DgetitemD ["self", "index"] [] := F_Tape_DgetitemD.bindsN fun _ _ _ _ _ _ us hl => match us, hl with | [_, _], _ => rfl
  obtain ⟨fd__law_purse, F__law_purse⟩ := c.df 25 (d := Hd.d__law_purse) rfl
  have b__law_purse : Binds K fd__law_purse ["_law_script", "_law_place"] [] := F__law_purse.bindsN fun _ _ _ _ _ _ us hl => match us, hl with | [_, _], _ => rfl
  have g__law_purse : mg "_law_purse" = some (.ref (ga K "_law_purse")) := gl "_law_purse" (by decide +kernel)
  obtain ⟨fd_Tape_length, F_Tape_length⟩ := c.df 5 (d := Hd.d_Tape_length) rfl
  have b_Tape_length : Binds K fd_Tape_length ["self"] [] := F_Tape_length.bindsN fun _ _ _ _ _ _ us hl => match us, hl with | [_], _ => rfl
  obtain ⟨fd_Tape_files, F_Tape_files⟩ := c.df 6 (d := Hd.d_Tape_files) rfl
  have b_Tape_files : Binds K fd_Tape_files ["self"] [] := F_Tape_files.bindsN fun _ _ _ _ _ _ us hl => match us, hl with | [_], _ => rfl
  obtain ⟨fd_show_tape, F_show_tape⟩ := c.df 0 (d := Hd.d_show_tape) rfl
  have b_show_tape : Binds K fd_show_tape ["tape"] [] := F_show_tape.bindsN fun _ _ _ _ _ _ us hl => match us, hl with | [_], _ => rfl
  have g_show_tape : mg "show_tape" = some (.ref (ga K "show_tape")) := gl "show_tape" (by decide +kernel)
  obtain ⟨fd_Tape_without, F_Tape_without⟩ := c.df 11 (d := Hd.d_Tape_without) rfl
  have b_Tape_without : Binds K fd_Tape_without ["self", "index"] [] := F_Tape_without.bindsN fun _ _ _ _ _ _ us hl => match us, hl with | [_, _], _ => rfl
  obtain ⟨fd_number_in, F_number_in⟩ := c.df 12 (d := Hd.d_number_in) rfl
  have b_number_in : Binds K fd_number_in ["text"] [] := F_number_in.bindsN fun _ _ _ _ _ _ us hl => match us, hl with | [_], _ => rfl
  have g_number_in : mg "number_in" = some (.ref (ga K "number_in")) := gl "number_in" (by decide +kernel)
  obtain ⟨fd_pair_in, F_pair_in⟩ := c.df 13 (d := Hd.d_pair_in) rfl
  have b_pair_in : Binds K fd_pair_in ["text", "mark"] [] := F_pair_in.bindsN fun _ _ _ _ _ _ us hl => match us, hl with | [_, _], _ => rfl
  have g_pair_in : mg "pair_in" = some (.ref (ga K "pair_in")) := gl "pair_in" (by decide +kernel)
  obtain ⟨fd_read_tape, F_read_tape⟩ := c.df 14 (d := Hd.d_read_tape) rfl
  have b_read_tape : Binds K fd_read_tape ["text"] [] := F_read_tape.bindsN fun _ _ _ _ _ _ us hl => match us, hl with | [_], _ => rfl
  have g_read_tape : mg "read_tape" = some (.ref (ga K "read_tape")) := gl "read_tape" (by decide +kernel)
  obtain ⟨fd_asked_files, F_asked_files⟩ := c.df 17 (d := Hd.d_asked_files) rfl
  have b_asked_files : Binds K fd_asked_files ["asks"] [] := F_asked_files.bindsN fun _ _ _ _ _ _ us hl => match us, hl with | [_], _ => rfl
  have g_asked_files : mg "asked_files" = some (.ref (ga K "asked_files")) := gl "asked_files" (by decide +kernel)
  obtain ⟨fd_fresh_runs, F_fresh_runs⟩ := c.df 22 (d := Hd.d_fresh_runs) rfl
  have b_fresh_runs : Binds K fd_fresh_runs ["asks", "row"] [] := F_fresh_runs.bindsN fun _ _ _ _ _ _ us hl => match us, hl with | [_, _], _ => rfl
  have g_fresh_runs : mg "fresh_runs" = some (.ref (ga K "fresh_runs")) := gl "fresh_runs" (by decide +kernel)
  obtain ⟨fd_are_asks, F_are_asks⟩ := c.df 18 (d := Hd.d_are_asks) rfl
  have b_are_asks : Binds K fd_are_asks ["many", "asks"] [] := F_are_asks.bindsN fun _ _ _ _ _ _ us hl => match us, hl with | [_, _], _ => rfl
  have g_are_asks : mg "are_asks" = some (.ref (ga K "are_asks")) := gl "are_asks" (by decide +kernel)
  obtain ⟨fd_check_asks, F_check_asks⟩ := c.df 20 (d := Hd.d_check_asks) rfl
  have b_check_asks : Binds K fd_check_asks ["tape", "asks"] [] := F_check_asks.bindsN fun _ _ _ _ _ _ us hl => match us, hl with | [_, _], _ => rfl
  have g_check_asks : mg "check_asks" = some (.ref (ga K "check_asks")) := gl "check_asks" (by decide +kernel)
  obtain ⟨fd_is_row, F_is_row⟩ := c.df 19 (d := Hd.d_is_row) rfl
  have b_is_row : Binds K fd_is_row ["asks", "row"] [] := F_is_row.bindsN fun _ _ _ _ _ _ us hl => match us, hl with | [_, _], _ => rfl
  have g_is_row : mg "is_row" = some (.ref (ga K "is_row")) := gl "is_row" (by decide +kernel)
  obtain ⟨fd_check_row, F_check_row⟩ := c.df 21 (d := Hd.d_check_row) rfl
  have b_check_row : Binds K fd_check_row ["asks", "row"] [] := F_check_row.bindsN fun _ _ _ _ _ _ us hl => match us, hl with | [_, _], _ => rfl
  have g_check_row : mg "check_row" = some (.ref (ga K "check_row")) := gl "check_row" (by decide +kernel)
  obtain ⟨fd_way, F_way⟩ := c.df 23 (d := Hd.d_way) rfl
  have b_way : Binds K fd_way ["tape", "asks", "row"] [] := F_way.bindsN fun _ _ _ _ _ _ us hl => match us, hl with | [_, _, _], _ => rfl
  have g_way : mg "way" = some (.ref (ga K "way")) := gl "way" (by decide +kernel)
  obtain ⟨fd_waits, F_waits⟩ := c.df 24 (d := Hd.d_waits) rfl
  have b_waits : Binds K fd_waits ["tape", "asks", "row"] [] := F_waits.bindsN fun _ _ _ _ _ _ us hl => match us, hl with | [_, _, _], _ => rfl
  have g_waits : mg "waits" = some (.ref (ga K "waits")) := gl "waits" (by decide +kernel)
  obtain ⟨fd__law_coin, F__law_coin⟩ := c.df 26 (d := Hd.d__law_coin) rfl
  have b__law_coin : Binds K fd__law_coin ["_law_purse_here", "_law_many"] [] := F__law_coin.bindsN fun _ _ _ _ _ _ us hl => match us, hl with | [_, _], _ => rfl
  have g__law_coin : mg "_law_coin" = some (.ref (ga K "_law_coin")) := gl "_law_coin" (by decide +kernel)
  obtain ⟨fd__law_drawn_tape, F__law_drawn_tape⟩ := c.df 27 (d := Hd.d__law_drawn_tape) rfl
  have b__law_drawn_tape : Binds K fd__law_drawn_tape ["_law_purse_here", "_law_most", "_law_top"] [] := F__law_drawn_tape.bindsN fun _ _ _ _ _ _ us hl => match us, hl with | [_, _, _], _ => rfl
  have g__law_drawn_tape : mg "_law_drawn_tape" = some (.ref (ga K "_law_drawn_tape")) := gl "_law_drawn_tape" (by decide +kernel)
  obtain ⟨fd__law_great_tape, F__law_great_tape⟩ := c.df 28 (d := Hd.d__law_great_tape) rfl
  have b__law_great_tape : Binds K fd__law_great_tape ["_law_purse_here"] [] := F__law_great_tape.bindsN fun _ _ _ _ _ _ us hl => match us, hl with | [_], _ => rfl
  have g__law_great_tape : mg "_law_great_tape" = some (.ref (ga K "_law_great_tape")) := gl "_law_great_tape" (by decide +kernel)
  obtain ⟨fd__law_drawn_asks, F__law_drawn_asks⟩ := c.df 29 (d := Hd.d__law_drawn_asks) rfl
  have b__law_drawn_asks : Binds K fd__law_drawn_asks ["_law_purse_here", "_law_shape", "_law_most"] [] := F__law_drawn_asks.bindsN fun _ _ _ _ _ _ us hl => match us, hl with | [_, _, _], _ => rfl
  have g__law_drawn_asks : mg "_law_drawn_asks" = some (.ref (ga K "_law_drawn_asks")) := gl "_law_drawn_asks" (by decide +kernel)
  obtain ⟨fd__law_asked, F__law_asked⟩ := c.df 30 (d := Hd.d__law_asked) rfl
  have b__law_asked : Binds K fd__law_asked ["_law_asks_here"] [] := F__law_asked.bindsN fun _ _ _ _ _ _ us hl => match us, hl with | [_], _ => rfl
  have g__law_asked : mg "_law_asked" = some (.ref (ga K "_law_asked")) := gl "_law_asked" (by decide +kernel)
  obtain ⟨fd__law_drawn_row, F__law_drawn_row⟩ := c.df 31 (d := Hd.d__law_drawn_row) rfl
  have b__law_drawn_row : Binds K fd__law_drawn_row ["_law_purse_here", "_law_asks_here"] [] := F__law_drawn_row.bindsN fun _ _ _ _ _ _ us hl => match us, hl with | [_, _], _ => rfl
  have g__law_drawn_row : mg "_law_drawn_row" = some (.ref (ga K "_law_drawn_row")) := gl "_law_drawn_row" (by decide +kernel)
  obtain ⟨fd__law_led, F__law_led⟩ := c.df 32 (d := Hd.d__law_led) rfl
  have b__law_led : Binds K fd__law_led ["_law_shape", "_law_asks_here", "_law_row_here"] [] := F__law_led.bindsN fun _ _ _ _ _ _ us hl => match us, hl with | [_, _, _], _ => rfl
  have g__law_led : mg "_law_led" = some (.ref (ga K "_law_led")) := gl "_law_led" (by decide +kernel)
  obtain ⟨fd__law_waits, F__law_waits⟩ := c.df 33 (d := Hd.d__law_waits) rfl
  have b__law_waits : Binds K fd__law_waits ["_law_shape", "_law_asks_here", "_law_goals"] [] := F__law_waits.bindsN fun _ _ _ _ _ _ us hl => match us, hl with | [_, _, _], _ => rfl
  have g__law_waits : mg "_law_waits" = some (.ref (ga K "_law_waits")) := gl "_law_waits" (by decide +kernel)
  obtain ⟨fd__law_made, F__law_made⟩ := c.df 34 (d := Hd.d__law_made) rfl
  have b__law_made : Binds K fd__law_made ["_law_shape"] [] := F__law_made.bindsN fun _ _ _ _ _ _ us hl => match us, hl with | [_], _ => rfl
  have g__law_made : mg "_law_made" = some (.ref (ga K "_law_made")) := gl "_law_made" (by decide +kernel)
  obtain ⟨fd__law_tape_text, F__law_tape_text⟩ := c.df 35 (d := Hd.d__law_tape_text) rfl
  have b__law_tape_text : Binds K fd__law_tape_text ["_law_shape"] [] := F__law_tape_text.bindsN fun _ _ _ _ _ _ us hl => match us, hl with | [_], _ => rfl
  have g__law_tape_text : mg "_law_tape_text" = some (.ref (ga K "_law_tape_text")) := gl "_law_tape_text" (by decide +kernel)
  obtain ⟨fd_show_row, F_show_row⟩ := c.df 1 (d := Hd.d_show_row) rfl
  have b_show_row : Binds K fd_show_row ["row"] [] := F_show_row.bindsN fun _ _ _ _ _ _ us hl => match us, hl with | [_], _ => rfl
  have g_show_row : mg "show_row" = some (.ref (ga K "show_row")) := gl "show_row" (by decide +kernel)
  obtain ⟨fd_show_asks, F_show_asks⟩ := c.df 2 (d := Hd.d_show_asks) rfl
  have b_show_asks : Binds K fd_show_asks ["asks"] [] := F_show_asks.bindsN fun _ _ _ _ _ _ us hl => match us, hl with | [_], _ => rfl
  have g_show_asks : mg "show_asks" = some (.ref (ga K "show_asks")) := gl "show_asks" (by decide +kernel)
  obtain ⟨fd_read_row, F_read_row⟩ := c.df 15 (d := Hd.d_read_row) rfl
  have b_read_row : Binds K fd_read_row ["text"] [] := F_read_row.bindsN fun _ _ _ _ _ _ us hl => match us, hl with | [_], _ => rfl
  have g_read_row : mg "read_row" = some (.ref (ga K "read_row")) := gl "read_row" (by decide +kernel)
  obtain ⟨fd_read_asks, F_read_asks⟩ := c.df 16 (d := Hd.d_read_asks) rfl
  have b_read_asks : Binds K fd_read_asks ["text"] [] := F_read_asks.bindsN fun _ _ _ _ _ _ us hl => match us, hl with | [_], _ => rfl
  have g_read_asks : mg "read_asks" = some (.ref (ga K "read_asks")) := gl "read_asks" (by decide +kernel)
  obtain ⟨fd__law_lists_right, F__law_lists_right⟩ := c.df 36 (d := Hd.d__law_lists_right) rfl
  have b__law_lists_right : Binds K fd__law_lists_right ["_law_purse_here", "_law_asks_here"] [] := F__law_lists_right.bindsN fun _ _ _ _ _ _ us hl => match us, hl with | [_, _], _ => rfl
  have g__law_lists_right : mg "_law_lists_right" = some (.ref (ga K "_law_lists_right")) := gl "_law_lists_right" (by decide +kernel)
  obtain ⟨fd__law_right, F__law_right⟩ := c.df 37 (d := Hd.d__law_right) rfl
  have b__law_right : Binds K fd__law_right ["_law_purse_here"] [] := F__law_right.bindsN fun _ _ _ _ _ _ us hl => match us, hl with | [_], _ => rfl
  have g__law_right : mg "_law_right" = some (.ref (ga K "_law_right")) := gl "_law_right" (by decide +kernel)
  obtain ⟨fd_law, F_law⟩ := c.df 38 (d := Hd.d_law) rfl
  have g_law : mg "law" = some (.ref (ga K "law")) := gl "law" (by decide +kernel)
  have kb_read_asks_0_text := F_read_asks.kbP (ps := ["text"]) 0 ["text"] [0] fun _ _ _ _ _ _ us ws hu hw => match us, hu, ws, hw with | [], _, [_], _ => rfl
  have kb_read_row_0_text := F_read_row.kbP (ps := ["text"]) 0 ["text"] [0] fun _ _ _ _ _ _ us ws hu hw => match us, hu, ws, hw with | [], _, [_], _ => rfl
  have kb_read_tape_0_text := F_read_tape.kbP (ps := ["text"]) 0 ["text"] [0] fun _ _ _ _ _ _ us ws hu hw => match us, hu, ws, hw with | [], _, [_], _ => rfl
  have kb_show_asks_0_asks := F_show_asks.kbP (ps := ["asks"]) 0 ["asks"] [0] fun _ _ _ _ _ _ us ws hu hw => match us, hu, ws, hw with | [], _, [_], _ => rfl
  have kb_show_row_0_row := F_show_row.kbP (ps := ["row"]) 0 ["row"] [0] fun _ _ _ _ _ _ us ws hu hw => match us, hu, ws, hw with | [], _, [_], _ => rfl
  have kb_show_tape_0_tape := F_show_tape.kbP (ps := ["tape"]) 0 ["tape"] [0] fun _ _ _ _ _ _ us ws hu hw => match us, hu, ws, hw with | [], _, [_], _ => rfl
  have h_ix : PySem.W.fnIn K (He.ma K (tapeC K) "__getitem__") = true := fnIn_of F_Tape_DgetitemD
  have ee := hfa.symm.trans g_law
  cases ee
  have bl := FunD.bindsA (ps := ["_law_script"]) F_law fun _ _ _ _ _ _ us hl => match us, hl with | [_], _ => rfl
  refine ⟨fd_law, fun s v => bl s [v] rfl, fun base _ _ tabs => ?_⟩
  have C_Tape_DlenD := ok_Tape_DlenD (P := P) (w := w) (K := K) (mg := mg) (base := base) (f_len := f_len) (t_cls := t_cls) (FD := F_Tape_DlenD)
  have C_Tape_DinitD := ok_Tape_DinitD (P := P) (w := w) (K := K) (mg := mg) (base := base) (f_tuple := f_tuple) (t_cls := t_cls) (FD := F_Tape_DinitD)
  have C_Tape_DeqD := ok_Tape_DeqD (P := P) (w := w) (K := K) (mg := mg) (base := base) (f_isinstance := f_isinstance) (t_cls := t_cls) (t_isi := t_isi) (g_Tape := g_Tape) (FD := F_Tape_DeqD)
  have C_Tape_DgetitemD := ok_Tape_DgetitemD (P := P) (w := w) (K := K) (mg := mg) (base := base) (f_len := f_len) (t_cls := t_cls) (FD := F_Tape_DgetitemD)
  have C__law_purse := ok__law_purse (P := P) (w := w) (K := K) (mg := mg) (base := base) (f_abs := f_abs) (f_int := f_int) (f_len := f_len) (f_max := f_max) (FD := F__law_purse)
  have C_Tape_length := ok_Tape_length (P := P) (w := w) (K := K) (mg := mg) (base := base) (t_cls := t_cls) (FD := F_Tape_length)
  have C_Tape_files := ok_Tape_files (P := P) (w := w) (K := K) (mg := mg) (base := base) (f_list := f_list) (t_cls := t_cls) (FD := F_Tape_files)
  have C_show_tape := ok_show_tape (P := P) (w := w) (K := K) (mg := mg) (base := base) (t_cls := t_cls) (t_length := t_length) (t_files := t_files) (c_Tape_files := C_Tape_files) (b_Tape_files := b_Tape_files) (c_Tape_length := C_Tape_length) (b_Tape_length := b_Tape_length) (FD := F_show_tape)
  have C_Tape_without := ok_Tape_without (P := P) (w := w) (K := K) (mg := mg) (base := base) (f_len := f_len) (t_cls := t_cls) (t_mk := t_mk) (g_Tape := g_Tape) (c_Tape_DinitD := C_Tape_DinitD) (b_Tape_DinitD := b_Tape_DinitD) (FD := F_Tape_without)
  have C_number_in := ok_number_in (P := P) (w := w) (K := K) (mg := mg) (base := base) (f_all := f_all) (f_int := f_int) (f_len := f_len) (t_k_DIGITS := t_k_DIGITS) (t_k_MOST_DIGITS := t_k_MOST_DIGITS) (FD := F_number_in)
  have C_pair_in := ok_pair_in (P := P) (w := w) (K := K) (mg := mg) (base := base) (f_len := f_len) (f_tuple := f_tuple) (c_number_in := C_number_in) (b_number_in := b_number_in) (g_number_in := g_number_in) (k_number_in := F_number_in.kp) (FD := F_pair_in)
  have C_read_tape := ok_read_tape (P := P) (w := w) (K := K) (mg := mg) (base := base) (t_mk := t_mk) (g_Tape := g_Tape) (c_Tape_DinitD := C_Tape_DinitD) (b_Tape_DinitD := b_Tape_DinitD) (c_number_in := C_number_in) (b_number_in := b_number_in) (g_number_in := g_number_in) (k_number_in := F_number_in.kp) (c_pair_in := C_pair_in) (b_pair_in := b_pair_in) (g_pair_in := g_pair_in) (k_pair_in := F_pair_in.kp) (c_show_tape := C_show_tape) (b_show_tape := b_show_tape) (g_show_tape := g_show_tape) (k_show_tape := F_show_tape.kp) (FD := F_read_tape)
  have C_asked_files := ok_asked_files (P := P) (w := w) (K := K) (mg := mg) (base := base) (f_enumerate := f_enumerate) (FD := F_asked_files)
  have C_fresh_runs := ok_fresh_runs (P := P) (w := w) (K := K) (mg := mg) (base := base) (c_asked_files := C_asked_files) (b_asked_files := b_asked_files) (g_asked_files := g_asked_files) (k_asked_files := F_asked_files.kp) (FD := F_fresh_runs)
  have C_are_asks := ok_are_asks (P := P) (w := w) (K := K) (mg := mg) (base := base) (f_all := f_all) (f_len := f_len) (FD := F_are_asks)
  have C_check_asks := ok_check_asks (P := P) (w := w) (K := K) (mg := mg) (base := base) (f_len := f_len) (t_len := t_len) (c_Tape_DlenD := C_Tape_DlenD) (b_Tape_DlenD := b_Tape_DlenD) (c_are_asks := C_are_asks) (b_are_asks := b_are_asks) (g_are_asks := g_are_asks) (k_are_asks := F_are_asks.kp) (FD := F_check_asks)
  have C_is_row := ok_is_row (P := P) (w := w) (K := K) (mg := mg) (base := base) (f_len := f_len) (c_asked_files := C_asked_files) (b_asked_files := b_asked_files) (g_asked_files := g_asked_files) (k_asked_files := F_asked_files.kp) (FD := F_is_row)
  have C_check_row := ok_check_row (P := P) (w := w) (K := K) (mg := mg) (base := base) (c_is_row := C_is_row) (b_is_row := b_is_row) (g_is_row := g_is_row) (k_is_row := F_is_row.kp) (FD := F_check_row)
  have C_way := ok_way (P := P) (w := w) (K := K) (mg := mg) (base := base) (t_cls := t_cls) (t_length := t_length) (t_ix := t_ix) (h_ix := h_ix) (c_Tape_DgetitemD := C_Tape_DgetitemD) (b_Tape_DgetitemD := b_Tape_DgetitemD) (c_Tape_length := C_Tape_length) (b_Tape_length := b_Tape_length) (c_asked_files := C_asked_files) (b_asked_files := b_asked_files) (g_asked_files := g_asked_files) (k_asked_files := F_asked_files.kp) (c_check_asks := C_check_asks) (b_check_asks := b_check_asks) (g_check_asks := g_check_asks) (k_check_asks := F_check_asks.kp) (c_check_row := C_check_row) (b_check_row := b_check_row) (g_check_row := g_check_row) (k_check_row := F_check_row.kp) (c_fresh_runs := C_fresh_runs) (b_fresh_runs := b_fresh_runs) (g_fresh_runs := g_fresh_runs) (k_fresh_runs := F_fresh_runs.kp) (FD := F_way)
  have C_waits := ok_waits (P := P) (w := w) (K := K) (mg := mg) (base := base) (f_abs := f_abs) (f_enumerate := f_enumerate) (t_cls := t_cls) (t_length := t_length) (t_ix := t_ix) (h_ix := h_ix) (c_Tape_DgetitemD := C_Tape_DgetitemD) (b_Tape_DgetitemD := b_Tape_DgetitemD) (c_Tape_length := C_Tape_length) (b_Tape_length := b_Tape_length) (c_fresh_runs := C_fresh_runs) (b_fresh_runs := b_fresh_runs) (g_fresh_runs := g_fresh_runs) (k_fresh_runs := F_fresh_runs.kp) (c_way := C_way) (b_way := b_way) (g_way := g_way) (k_way := F_way.kp) (FD := F_waits)
  have C__law_coin := ok__law_coin (P := P) (w := w) (K := K) (mg := mg) (base := base) (f_int := f_int) (FD := F__law_coin)
  have C__law_drawn_tape := ok__law_drawn_tape (P := P) (w := w) (K := K) (mg := mg) (base := base) (f_max := f_max) (f_range := f_range) (c__law_coin := C__law_coin) (b__law_coin := b__law_coin) (g__law_coin := g__law_coin) (k__law_coin := F__law_coin.kp) (FD := F__law_drawn_tape)
  have C__law_great_tape := ok__law_great_tape (P := P) (w := w) (K := K) (mg := mg) (base := base) (f_max := f_max) (f_range := f_range) (c__law_coin := C__law_coin) (b__law_coin := b__law_coin) (g__law_coin := g__law_coin) (k__law_coin := F__law_coin.kp) (FD := F__law_great_tape)
  have C__law_drawn_asks := ok__law_drawn_asks (P := P) (w := w) (K := K) (mg := mg) (base := base) (c__law_coin := C__law_coin) (b__law_coin := b__law_coin) (g__law_coin := g__law_coin) (k__law_coin := F__law_coin.kp) (FD := F__law_drawn_asks)
  have C__law_asked := ok__law_asked (P := P) (w := w) (K := K) (mg := mg) (base := base) (f_enumerate := f_enumerate) (FD := F__law_asked)
  have C__law_drawn_row := ok__law_drawn_row (P := P) (w := w) (K := K) (mg := mg) (base := base) (f_len := f_len) (f_range := f_range) (c__law_asked := C__law_asked) (b__law_asked := b__law_asked) (g__law_asked := g__law_asked) (k__law_asked := F__law_asked.kp) (c__law_coin := C__law_coin) (b__law_coin := b__law_coin) (g__law_coin := g__law_coin) (k__law_coin := F__law_coin.kp) (FD := F__law_drawn_row)
  have C__law_led := ok__law_led (P := P) (w := w) (K := K) (mg := mg) (base := base) (f_list := f_list) (c__law_asked := C__law_asked) (b__law_asked := b__law_asked) (g__law_asked := g__law_asked) (k__law_asked := F__law_asked.kp) (FD := F__law_led)
  have C__law_waits := ok__law_waits (P := P) (w := w) (K := K) (mg := mg) (base := base) (f_abs := f_abs) (f_enumerate := f_enumerate) (FD := F__law_waits)
  have C__law_made := ok__law_made (P := P) (w := w) (K := K) (mg := mg) (base := base) (f_list := f_list) (t_mk := t_mk) (g_Tape := g_Tape) (c_Tape_DinitD := C_Tape_DinitD) (b_Tape_DinitD := b_Tape_DinitD) (FD := F__law_made)
  have C__law_tape_text := ok__law_tape_text (P := P) (w := w) (K := K) (mg := mg) (base := base) (f_str := f_str) (FD := F__law_tape_text)
  have C_show_row := ok_show_row (P := P) (w := w) (K := K) (mg := mg) (base := base) (FD := F_show_row)
  have C_show_asks := ok_show_asks (P := P) (w := w) (K := K) (mg := mg) (base := base) (f_str := f_str) (FD := F_show_asks)
  have C_read_row := ok_read_row (P := P) (w := w) (K := K) (mg := mg) (base := base) (f_all := f_all) (f_zip := f_zip) (c_pair_in := C_pair_in) (b_pair_in := b_pair_in) (g_pair_in := g_pair_in) (k_pair_in := F_pair_in.kp) (c_show_row := C_show_row) (b_show_row := b_show_row) (g_show_row := g_show_row) (k_show_row := F_show_row.kp) (FD := F_read_row)
  have C_read_asks := ok_read_asks (P := P) (w := w) (K := K) (mg := mg) (base := base) (c_number_in := C_number_in) (b_number_in := b_number_in) (g_number_in := g_number_in) (k_number_in := F_number_in.kp) (c_show_asks := C_show_asks) (b_show_asks := b_show_asks) (g_show_asks := g_show_asks) (k_show_asks := F_show_asks.kp) (FD := F_read_asks)
  have C__law_lists_right := ok__law_lists_right (P := P) (w := w) (K := K) (mg := mg) (base := base) (f_str := f_str) (kb_read_asks_0_text := kb_read_asks_0_text) (kb_read_row_0_text := kb_read_row_0_text) (kb_show_asks_0_asks := kb_show_asks_0_asks) (kb_show_row_0_row := kb_show_row_0_row) (c__law_drawn_row := C__law_drawn_row) (b__law_drawn_row := b__law_drawn_row) (g__law_drawn_row := g__law_drawn_row) (k__law_drawn_row := F__law_drawn_row.kp) (c_read_asks := C_read_asks) (b_read_asks := b_read_asks) (g_read_asks := g_read_asks) (k_read_asks := F_read_asks.kp) (c_read_row := C_read_row) (b_read_row := b_read_row) (g_read_row := g_read_row) (k_read_row := F_read_row.kp) (c_show_asks := C_show_asks) (b_show_asks := b_show_asks) (g_show_asks := g_show_asks) (k_show_asks := F_show_asks.kp) (c_show_row := C_show_row) (b_show_row := b_show_row) (g_show_row := g_show_row) (k_show_row := F_show_row.kp) (FD := F__law_lists_right)
  have C__law_right := ok__law_right (P := P) (w := w) (K := K) (mg := mg) (base := base) (f_len := f_len) (f_list := f_list) (f_min := f_min) (f_range := f_range) (t_cls := t_cls) (t_length := t_length) (t_files := t_files) (t_ix := t_ix) (h_ix := h_ix) (t_len := t_len) (t_eq := t_eq) (t_without := t_without) (t_nec := t_nec) (kb_read_tape_0_text := kb_read_tape_0_text) (kb_show_tape_0_tape := kb_show_tape_0_tape) (c_Tape_DeqD := C_Tape_DeqD) (b_Tape_DeqD := b_Tape_DeqD) (c_Tape_DgetitemD := C_Tape_DgetitemD) (b_Tape_DgetitemD := b_Tape_DgetitemD) (c_Tape_DlenD := C_Tape_DlenD) (b_Tape_DlenD := b_Tape_DlenD) (c_Tape_files := C_Tape_files) (b_Tape_files := b_Tape_files) (c_Tape_length := C_Tape_length) (b_Tape_length := b_Tape_length) (c_Tape_without := C_Tape_without) (b_Tape_without := b_Tape_without) (c__law_coin := C__law_coin) (b__law_coin := b__law_coin) (g__law_coin := g__law_coin) (k__law_coin := F__law_coin.kp) (c__law_drawn_asks := C__law_drawn_asks) (b__law_drawn_asks := b__law_drawn_asks) (g__law_drawn_asks := g__law_drawn_asks) (k__law_drawn_asks := F__law_drawn_asks.kp) (c__law_drawn_row := C__law_drawn_row) (b__law_drawn_row := b__law_drawn_row) (g__law_drawn_row := g__law_drawn_row) (k__law_drawn_row := F__law_drawn_row.kp) (c__law_drawn_tape := C__law_drawn_tape) (b__law_drawn_tape := b__law_drawn_tape) (g__law_drawn_tape := g__law_drawn_tape) (k__law_drawn_tape := F__law_drawn_tape.kp) (c__law_great_tape := C__law_great_tape) (b__law_great_tape := b__law_great_tape) (g__law_great_tape := g__law_great_tape) (k__law_great_tape := F__law_great_tape.kp) (c__law_led := C__law_led) (b__law_led := b__law_led) (g__law_led := g__law_led) (k__law_led := F__law_led.kp) (c__law_lists_right := C__law_lists_right) (b__law_lists_right := b__law_lists_right) (g__law_lists_right := g__law_lists_right) (k__law_lists_right := F__law_lists_right.kp) (c__law_made := C__law_made) (b__law_made := b__law_made) (g__law_made := g__law_made) (k__law_made := F__law_made.kp) (c__law_tape_text := C__law_tape_text) (b__law_tape_text := b__law_tape_text) (g__law_tape_text := g__law_tape_text) (k__law_tape_text := F__law_tape_text.kp) (c__law_waits := C__law_waits) (b__law_waits := b__law_waits) (g__law_waits := g__law_waits) (k__law_waits := F__law_waits.kp) (c_read_tape := C_read_tape) (b_read_tape := b_read_tape) (g_read_tape := g_read_tape) (k_read_tape := F_read_tape.kp) (c_show_tape := C_show_tape) (b_show_tape := b_show_tape) (g_show_tape := g_show_tape) (k_show_tape := F_show_tape.kp) (c_waits := C_waits) (b_waits := b_waits) (g_waits := g_waits) (k_waits := F_waits.kp) (FD := F__law_right)
  have C_law := ok_law (P := P) (w := w) (K := K) (mg := mg) (base := base) (f_len := f_len) (f_max := f_max) (f_min := f_min) (f_range := f_range) (c__law_purse := C__law_purse) (b__law_purse := b__law_purse) (g__law_purse := g__law_purse) (k__law_purse := F__law_purse.kp) (c__law_right := C__law_right) (b__law_right := b__law_right) (g__law_right := g__law_right) (k__law_right := F__law_right.kp) (FD := F_law)
  exact C_law
end Tk
open PySem PySem.W PySem.Calls PyProof.Rows
theorem PySem.Challenge.cw_tapedetours_k53_texts_both_ways_of (hlaw : ∀ ns : List Int, ns.length ≤ 63 → ∃ s, Tk.m_law ns () = .ok true s) : PySem.Challenge.rw_tapedetours_k53_texts_both_ways.Holds := by
  w_on; o_law
  refine HandSHeadRun.head_any (r := OpenLaw.row PySem.Challenge.rw_tapedetours_k53_texts_both_ways) (q := view (OpenLaw.row PySem.Challenge.rw_tapedetours_k53_texts_both_ways).prog [47]) (H := Hd.hk) (ob := Hd.ob) (M := 20000) (loose := Hd.loose) (d := HandSHeadRun.topDef (OpenLaw.row PySem.Challenge.rw_tapedetours_k53_texts_both_ways).prog 47) (kwd := []) Hd.ob_eq
    (by kernel_rfl) (fun s => by kernel_rfl) Hd.run (by kernel_rfl) (by kernel_rfl) (by kernel_rfl) (by rfl) (by first | assumption | decide +kernel) (by decide +kernel) ⟨rfl, rfl, rfl, rfl, rfl, by decide +kernel⟩ ?hw ?hc
  case hw => w_witness2
  case hc =>
    refine Td.walk_ofG (l := PySem.Challenge.rw_tapedetours_k53_texts_both_ways) (n := 63) (k := 7) (x := "_law_script") rfl (by decide) (by kernel_rfl) ⟨rfl, by decide, by decide⟩ ?F
    intro w mg fa h Y G hmg0
    obtain ⟨K, KX, c, tk⟩ := Y
    have hmg : mg ("law" : PySem.Str) = some (.ref fa) := by
      have e : (HandSHeadRun.topDef (OpenLaw.row PySem.Challenge.rw_tapedetours_k53_texts_both_ways).prog 47).name = ("law" : PySem.Str) := by kernel_rfl
      rw [← e]
      exact hmg0
    obtain ⟨fd, hb, hF⟩ := Tk.facts (P := (PySem.Challenge.rw_tapedetours_k53_texts_both_ways).prog) (w := w) KX G hmg c tk
    exact ⟨K, Td.tabCs K, fd, _, KX, tk.emp, tk.out, tk.hd, hb, fun H a ns hl hH hO hS => Td.law_sp (by rw [← Td.tabCs_snd]; exact hH) (by rw [← Td.tabCs_snd]; exact hO) hS (hlaw ns hl), hF⟩

open PySem PySem.W PyProof.Rows
theorem PySem.Challenge.cw_tapedetours_k53_texts_both_ways_holds : PySem.Challenge.rw_tapedetours_k53_texts_both_ways.Holds := by
  exact PySem.Challenge.cw_tapedetours_k53_texts_both_ways_of Tk.law_true
